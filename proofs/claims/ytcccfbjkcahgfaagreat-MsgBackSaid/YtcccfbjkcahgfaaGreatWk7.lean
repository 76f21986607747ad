/- Buckets: what may be, and their bytes, by the program and by the reference. -/
import Derived.Test.YtcccfbjkcahgfaaGreatWk6
import Derived.Test.YtcccfbjkcahgfaaGreatAf
set_option linter.all false
set_option linter.unnecessarySimpa false
section
set_option linter.unusedVariables false
set_option linter.unusedSimpArgs false
namespace Go.Proofs.YtcccfbjkcahgfaaGreat
open Go Go.AI Go.Proofs
attribute [local irreducible] FnP FnO FnB FnT FnSeq WK RunQ RunQW RunX RunXW

theorem bright_c (x : Bucket) (hx : x.acts.length ≤ 1000000) : FnP Tryz.prog 252 [.agg x.enc] (.bool (bkRight x)) := by
  have p := acencP_c x.acts hx
  have n1 := nright_c x.weight 2 Sz2
  have n2 := nright_c x.watch 4 Sz4
  have n3 := nright_c x.wgroup 4 Sz4
  have e : bkRight x = ((acEnc x.acts).2 == 0 && (numOk x.weight 2 && (numOk x.watch 4 && numOk x.wgroup 4))) := rfl
  obtain ⟨R, hR⟩ : ∃ R, acEnc x.acts = R := ⟨_, rfl⟩
  rw [hR] at p e
  unfold byS actS at p
  refine FnP.intro Tryz.func252 rfl rfl fun G w => ?_
  repeat' (first
   | refine WK.seq ?_
   | (refine Hid.h hQ _ _ ?_; clear hQ hA)
   | (refine Fork.mk (fun h => ?_) (fun h => ?_) <;> (first | (simp [*] at h; done) | (have h2 := h; simp at h2; exfalso; omega) | (have h2 := h; simp at h2; try simp only [Bool.not_eq_true', Bool.not_eq_false'] at h) | skip))
   | (refine WK.regH Tryz.ntmps252 (by kernel_rfl) ?_; intro A hA Q hQ; simp [Bucket.enc, *])
   | (refine RunQ.gd rfl (by rw [hA.h]; rfl) ?_; simp [Bucket.enc, *])
   | (refine RunQ.call rfl rfl rfl rfl rfl ?_ (p) ?_ ?_; (focus (simp (maxDischargeDepth := 120) [Bucket.enc, *]; done)); (focus (simp [Bucket.enc, *]; done)); refine RunQ.evalH ?_; simp [Bucket.enc, *])
   | (refine RunQW.call rfl rfl rfl rfl ?_ (n1) ?_ ?_; (focus (simp (maxDischargeDepth := 120) [Bucket.enc, *]; done)); (focus (simp [Bucket.enc, *]; done)); refine RunQ.evalH ?_; simp [Bucket.enc, *])
   | (refine RunQW.call rfl rfl rfl rfl ?_ (n2) ?_ ?_; (focus (simp (maxDischargeDepth := 120) [Bucket.enc, *]; done)); (focus (simp [Bucket.enc, *]; done)); refine RunQ.evalH ?_; simp [Bucket.enc, *])
   | (refine RunQW.call rfl rfl rfl rfl ?_ (n3) ?_ ?_; (focus (simp (maxDischargeDepth := 120) [Bucket.enc, *]; done)); (focus (simp [Bucket.enc, *]; done)); refine RunQ.evalH ?_; simp [Bucket.enc, *])
   | (refine WK.ret Tryz.func252 ?_ ?_ <;> simp (maxDischargeDepth := 120) [Tryz.results252, Bucket.enc, *])
   | fail)
theorem bwrong_c (x : Bucket) (hx : x.acts.length ≤ 1000000) : FnP Tryz.prog 251 [.agg x.enc] (.bool (!bkRight x)) := by
  have p := bright_c x hx
  refine FnP.intro Tryz.func251 rfl rfl fun G w => ?_
  repeat' (first
   | refine WK.seq ?_
   | (refine Hid.h hQ _ _ ?_; clear hQ hA)
   | (refine WK.regH Tryz.ntmps251 (by kernel_rfl) ?_; intro A hA Q hQ; simp [*])
   | (refine RunQ.call rfl rfl rfl rfl rfl ?_ (p) ?_ ?_; (focus (simp (maxDischargeDepth := 120) [*]; done)); (focus (simp [*]; done)); refine RunQ.evalH ?_; simp [*])
   | (refine WK.ret Tryz.func251 ?_ ?_ <;> simp (maxDischargeDepth := 120) [Tryz.results251, *])
   | fail)
structure BkFit (x : Bucket) : Prop where
  e0 : (acEnc x.acts).2 = 0
  n0 : numOk ((16 + (acEnc x.acts).1.length : Nat) : Int) 2 = true
  n1 : numOk x.weight 2 = true
  n2 : numOk x.watch 4 = true
  n3 : numOk x.wgroup 4 = true
theorem bkFit {x : Bucket} (h : bkRight x = true) : BkFit x := by
  unfold bkRight at h
  rw [Bool.and_eq_true, Bool.and_eq_true, Bool.and_eq_true, beq_iff_eq] at h
  obtain ⟨h0, h1, h2, h3⟩ := h
  have := acEnc_len x.acts
  exact ⟨h0, numOk2 (by omega), h1, h2, h3⟩
theorem bkFlat_succ {l : List Bucket} {i : Nat} (h : i < l.length) : rwFlat bkOne (l.take (i + 1)) = rwFlat bkOne (l.take i) ++ bkOne (nth l i) := by
  unfold rwFlat; rw [take_nth h, List.flatMap_append]; simp
theorem bkFlat_len (l : List Bucket) : (rwFlat bkOne l).length ≤ l.length * 6100 := by
  induction l with
  | nil => simp [rwFlat]
  | cons x l ih =>
    have h1 := bkOne_len x
    have h2 := acEnc_len x.acts
    have e : rwFlat bkOne (x :: l) = bkOne x ++ rwFlat bkOne l := rfl
    rw [e, List.length_append, List.length_cons]
    omega
theorem bkEnc_bad1 {l : List Bucket} (h : ¬ (l.length ≤ 100 ∧ l.all bkRight = true ∧ (rwFlat bkOne l).length ≤ 60000)) : bkEnc l = ([], 1) := by unfold bkEnc; rw [if_neg h]
theorem anyNot_all {α : Type} (p : α → Bool) (l : List α) : (l.any fun x => !p x) = !l.all p := by rw [List.not_all_eq_any_not]
set_option maxHeartbeats 4000000 in
theorem bkenc_c (l : List Bucket) (hl : l.length ≤ 1000000) (ha : ∀ x, x ∈ l → x.acts.length ≤ 1000000) : FnT Tryz.prog 249 [bukS l] (bkEnc l).1.length 1 (byL (bkEnc l).1) [.int .i64 (bkEnc l).2] := by
  have q := containsf_buk 251 [] (fun x => !bkRight x) l rfl hl (fun x hx => bwrong_c x (ha x hx))
  rw [anyNot_all] at q
  unfold bukS at *
  by_cases h100 : 100 < l.length
  · have e := bkEnc_bad1 (l := l) (fun h => by omega)
    have j : (100 : Int) < l.length := by omega
    rw [e]
    clear q
    refine FnT.intro Tryz.func249 rfl rfl fun G w => ?_
    repeat' (first
     | refine WK.seq ?_
     | refine WK.condT rfl ?_
     | (refine Hid.h hQ _ _ ?_; clear hQ hA)
     | (refine WK.regH Tryz.ntmps249 (by kernel_rfl) ?_; intro A hA Q hQ; simp [*])
     | (refine RunQ.gd rfl (by rw [hA.h]; rfl) ?_; simp [*])
     | fail)
    refine WK.ghost (Ghost.own 2 900 1 rfl rfl) ?_
    refine WK.retT2 Tryz.func249 ?_ ?_ ?_ <;> simp (maxDischargeDepth := 120) [Tryz.results249, byL_nil]
  have j : ¬ (100 : Int) < l.length := by omega
  cases hr : l.all bkRight
  · have e := bkEnc_bad1 (l := l) (fun h => by rw [hr] at h; exact Bool.noConfusion h.2.1)
    rw [e]
    rw [hr] at q
    refine FnT.intro Tryz.func249 rfl rfl fun G w => ?_
    repeat' (first
     | refine WK.seq ?_
     | refine WK.condT rfl ?_
     | (refine Hid.h hQ _ _ ?_; clear hQ hA)
     | (refine WK.regH Tryz.ntmps249 (by kernel_rfl) ?_; intro A hA Q hQ; simp [*])
     | (refine RunQ.gd rfl (by rw [hA.h]; rfl) ?_; simp [*])
     | (refine RunQW.call rfl rfl rfl rfl ?_ (q) ?_ ?_; (focus (simp (maxDischargeDepth := 120) [*]; done)); (focus (simp [*]; done)); refine RunQ.evalH ?_; simp [*])
     | fail)
    refine WK.ghost (Ghost.own 2 900 1 rfl rfl) ?_
    refine WK.retT2 Tryz.func249 ?_ ?_ ?_ <;> simp (maxDischargeDepth := 120) [Tryz.results249, byL_nil]
  rw [hr] at q
  have hall : ∀ x, x ∈ l → bkRight x = true := List.all_eq_true.1 hr
  have hdef : bkEnc l = if (rwFlat bkOne l).length ≤ 60000 then (rwFlat bkOne l, 0) else ([], 1) := by
    unfold bkEnc
    by_cases hh : (rwFlat bkOne l).length ≤ 60000
    · rw [if_pos hh, if_pos ⟨by omega, hr, hh⟩]
    · rw [if_neg hh, if_neg fun h => hh h.2.2]
  refine FnT.intro Tryz.func249 rfl rfl fun G w => ?_
  repeat' (first
   | refine WK.seq ?_
   | refine WK.block ?_
   | refine WK.skip ?_
   | refine WK.condF rfl ?_
   | (refine Hid.h hQ _ _ ?_; clear hQ hA)
   | (refine WK.regH Tryz.ntmps249 (by kernel_rfl) ?_; intro A hA Q hQ; simp [*])
   | (refine RunQ.gd rfl (by rw [hA.h]; rfl) ?_; simp [*])
   | (refine RunQW.call rfl rfl rfl rfl ?_ (q) ?_ ?_; (focus (simp (maxDischargeDepth := 120) [*]; done)); (focus (simp [*]; done)); refine RunQ.evalH ?_; simp [*])
   | fail)
  refine WK.ghost (Ghost.own 4 900 1 rfl rfl) ?_
  refine WK.loopI (fun n => if n = 1 then 900 else n) (fun i : Nat => (⟨(upd (upd (upd (upd (upd (upd J 2 (.sl true 0 [])) 3 (.int .i64 0)) 4 (.msl 1 0 (rwFlat bkOne (l.take i)).length)) 16 (.sl false l.length (bukL l))) 17 (.int .i64 l.length)) 18 (.int .i64 i)), (upd B0 1 (.buf 1 (byL (rwFlat bkOne (l.take i))))), 0⟩ : St)) (fun i => i ≤ l.length) (fun i => l.length - i) (0) (by repeat (first | exact TmW.nil | refine TmW.upd ?_ (by simp (maxDischargeDepth := 120) [rwFlat, byL_nil]))) (by repeat (first | exact BxW.nil | refine BxW.upd ?_ (by simp (maxDischargeDepth := 120) [rwFlat, byL_nil]))) (by first | exact InjW.id | exact InjW.nil | exact InjW.one | exact InjW.two (by simp) | exact InjW.three (by simp) (by simp) (by simp)) (by omega) (fun i hi IH => ?_)
  have hfl := bkFlat_len (l.take i)
  have htl : (l.take i).length ≤ 100 := by rw [List.length_take]; omega
  by_cases h1 : i < l.length
  · obtain ⟨h4, h3⟩ := buk_load l i h1
    have h6 : IntKind.i64.wrap ((i : Int) + 1) = i + 1 := wrap_i64 (by omega) (by omega)
    have hs := bkFlat_succ h1
    have fit := bkFit (hall _ (nth_mem h1))
    have hx := ha _ (nth_mem h1)
    obtain ⟨x, hxx⟩ : ∃ x, nth l i = x := ⟨_, rfl⟩
    rw [hxx] at h4 hs fit hx
    have p := acencP_c x.acts hx
    have hEl := acEnc_len x.acts
    have hone : bkOne x = beN (16 + (acEnc x.acts).1.length : Nat) 2 ++ (beN x.weight 2 ++ (beN x.watch 4 ++ (beN x.wgroup 4 ++ (List.replicate 4 0#8 ++ (acEnc x.acts).1)))) := rfl
    obtain ⟨f0, f1, f2, f3, f4⟩ := fit
    obtain ⟨R, hR⟩ : ∃ R, acEnc x.acts = R := ⟨_, rfl⟩
    rw [hR] at p hEl f0 f1 hone
    obtain ⟨E, c⟩ := R
    simp only at p hEl f0 f1 hone
    subst f0
    obtain ⟨F, hF⟩ : ∃ F, rwFlat bkOne (l.take i) = F := ⟨_, rfl⟩
    rw [hF] at hs hfl ⊢
    have hFl : F.length ≤ 700000 := by omega
    have c1 := nput_c F ((16 + E.length : Nat) : Int) 2 Sz2 (by omega)
    rw [putN_beN f1] at c1
    obtain ⟨F1, hF1⟩ : ∃ F1, F ++ beN ((16 + E.length : Nat) : Int) 2 = F1 := ⟨_, rfl⟩
    rw [hF1] at c1
    have hF1l : F1.length = F.length + 2 := by rw [← hF1, List.length_append, beN_len]
    have c2 := nput_c F1 x.weight 2 Sz2 (by omega)
    rw [putN_beN f2] at c2
    obtain ⟨F2, hF2⟩ : ∃ F2, F1 ++ beN x.weight 2 = F2 := ⟨_, rfl⟩
    rw [hF2] at c2
    have hF2l : F2.length = F.length + 4 := by rw [← hF2, List.length_append, beN_len]; omega
    have c3 := nput_c F2 x.watch 4 Sz4 (by omega)
    rw [putN_beN f3] at c3
    obtain ⟨F3, hF3⟩ : ∃ F3, F2 ++ beN x.watch 4 = F3 := ⟨_, rfl⟩
    rw [hF3] at c3
    have hF3l : F3.length = F.length + 8 := by rw [← hF3, List.length_append, beN_len]; omega
    have c4 := nput_c F3 x.wgroup 4 Sz4 (by omega)
    rw [putN_beN f4] at c4
    obtain ⟨F4, hF4⟩ : ∃ F4, F3 ++ beN x.wgroup 4 = F4 := ⟨_, rfl⟩
    rw [hF4] at c4
    have hF4l : F4.length = F.length + 12 := by rw [← hF4, List.length_append, beN_len]; omega
    have hs2 : rwFlat bkOne (l.take (i + 1)) = F4 ++ (List.replicate 4 0#8 ++ E) := by
      rw [hs, hone, ← hF4, ← hF3, ← hF2, ← hF1]; simp only [List.append_assoc]
    have hz : byL (List.replicate 4 0#8) = [.int .u8 0, .int .u8 0, .int .u8 0, .int .u8 0] := rfl
    have hs3 : byL F4 ++ (AV.int .u8 0 :: AV.int .u8 0 :: AV.int .u8 0 :: AV.int .u8 0 :: byL E) = byL (rwFlat bkOne (l.take (i + 1))) := by rw [hs2, byL_app, byL_app, hz]; rfl
    have hs4 : (rwFlat bkOne (l.take (i + 1))).length = F4.length + 4 + E.length := by rw [hs2, List.length_append, List.length_append, List.length_replicate]; omega
    have w16 : IntKind.i64.wrap (16 + (E.length : Int)) = 16 + (E.length : Int) := wrap_i64 (by omega) (by omega)
    have hbd1 : F4.length + 4 ≤ 140737488355328 := by omega
    have hbd2 : F4.length + 4 + E.length ≤ 140737488355328 := by omega
    have hfu1 : (byL F).take F.length = byL F := by_full _ _ rfl
    have hfu2 : (byL F1).take F1.length = byL F1 := by_full _ _ rfl
    have hfu3 : (byL F2).take F2.length = byL F2 := by_full _ _ rfl
    have hfu4 : (byL F3).take F3.length = byL F3 := by_full _ _ rfl
    have hfu5 : (byL E).take E.length = byL E := by_full _ _ rfl
    unfold byS actS at *
    clear hF hF1 hF2 hF3 hF4 hs hs2 hone hR f1 f2 f3 f4 hxx hF1l hF2l hF3l hF4l hfl htl hr
    repeat' (first
     | refine WK.seq ?_
     | refine WK.block ?_
     | refine WK.inBlock ?_
     | refine WK.skip ?_
     | refine WK.condT rfl ?_
     | (refine Hid.h hQ _ _ ?_; clear hQ hA)
     | (refine WK.regH Tryz.ntmps249 (by kernel_rfl) ?_; intro A hA Q hQ; simp [Bucket.enc, *])
     | (refine WK.regX (by kernel_rfl) Tryz.ntmps249 (by kernel_rfl) ?_; intro A hA Q hQ; simp [Bucket.enc, *])
     | (refine Hid.h hQ _ _ _ (by decide +kernel) ?_; clear hQ hA)
     | (refine RunX.callOz 901 28 1 rfl rfl rfl rfl rfl rfl ?_ (c1) ?_ ?_ (by simp) (by decide) ?_; (focus (simp (maxDischargeDepth := 120) [Bucket.enc, *]; done)); (focus (simp [Bucket.enc, *]; done)); (focus (simp [Bucket.enc, *]; done)); refine RunX.evalY ?_; simp [Bucket.enc, *])
     | (refine RunX.callOz 902 32 1 rfl rfl rfl rfl rfl rfl ?_ (c2) ?_ ?_ (by simp) (by decide) ?_; (focus (simp (maxDischargeDepth := 120) [Bucket.enc, *]; done)); (focus (simp [Bucket.enc, *]; done)); (focus (simp [Bucket.enc, *]; done)); refine RunX.evalY ?_; simp [Bucket.enc, *])
     | (refine RunX.callOz 903 36 1 rfl rfl rfl rfl rfl rfl ?_ (c3) ?_ ?_ (by simp) (by decide) ?_; (focus (simp (maxDischargeDepth := 120) [Bucket.enc, *]; done)); (focus (simp [Bucket.enc, *]; done)); (focus (simp [Bucket.enc, *]; done)); refine RunX.evalY ?_; simp [Bucket.enc, *])
     | (refine RunX.callOz 904 39 1 rfl rfl rfl rfl rfl rfl ?_ (c4) ?_ ?_ (by simp) (by decide) ?_; (focus (simp (maxDischargeDepth := 120) [Bucket.enc, *]; done)); (focus (simp [Bucket.enc, *]; done)); (focus (simp [Bucket.enc, *]; done)); refine RunX.evalY ?_; simp [Bucket.enc, *])
     | (refine RunQ.append 905 appByte rfl rfl rfl rfl rfl rfl rfl rfl rfl ?_ ?_ ?_ ?_ ?_; (focus (first | omega | (simp [Bucket.enc, *]; done); done)); (focus (first | omega | (simp [Bucket.enc, *]; done); done)); (focus (first | omega | (simp [Bucket.enc, *]; done); done)); (focus (first | omega | (simp [Bucket.enc, *]; done); done)); refine RunQ.evalH ?_; simp [Bucket.enc, *])
     | (refine RunQ.append 906 appByte rfl rfl rfl rfl rfl rfl rfl rfl rfl ?_ ?_ ?_ ?_ ?_; (focus (first | omega | (simp [Bucket.enc, *]; done); done)); (focus (first | omega | (simp [Bucket.enc, *]; done); done)); (focus (first | omega | (simp [Bucket.enc, *]; done); done)); (focus (first | omega | (simp [Bucket.enc, *]; done); done)); refine RunQ.evalH ?_; simp [Bucket.enc, *])
     | (refine RunQ.call rfl rfl rfl rfl rfl ?_ (p) ?_ ?_; (focus (simp (maxDischargeDepth := 120) [Bucket.enc, *]; done)); (focus (simp [Bucket.enc, *]; done)); refine RunQ.evalH ?_; simp [Bucket.enc, *])
     | fail)
    refine WK.next (fun n => if n = 1 then 906 else n) (IH (i + 1) (by omega) (by first | omega | (dsimp only; omega))) (by repeat (first | exact TmW.nil | refine TmW.upd ?_ (by simp (maxDischargeDepth := 120) [hs3, hs4]))) (by repeat (first | exact BxW.nil | refine BxW.upd ?_ (by simp (maxDischargeDepth := 120) [hs3, hs4]))) (by first | exact InjW.id | exact InjW.nil | exact InjW.one | exact InjW.two (by simp) | exact InjW.three (by simp) (by simp) (by simp))
  · have hT : l.take i = l := List.take_of_length_le (by omega)
    rw [hT] at hfl ⊢
    obtain ⟨F, hF⟩ : ∃ F, rwFlat bkOne l = F := ⟨_, rfl⟩
    rw [hF] at hdef hfl ⊢
    by_cases h6 : F.length ≤ 60000
    · have j6 : ¬ (60000 : Int) < F.length := by omega
      rw [if_pos h6] at hdef
      rw [hdef]
      clear hF hdef
      repeat' (first
       | refine WK.seq ?_
       | refine WK.skip ?_
       | refine WK.exit rfl ?_
       | refine WK.condF rfl ?_
       | (refine Hid.h hQ _ _ ?_; clear hQ hA)
       | (refine WK.regH Tryz.ntmps249 (by kernel_rfl) ?_; intro A hA Q hQ; simp [*])
       | (refine WK.retT2 Tryz.func249 ?_ ?_ ?_ <;> simp (maxDischargeDepth := 120) [Tryz.results249, *])
       | fail)
    · have j6 : (60000 : Int) < F.length := by omega
      rw [if_neg h6] at hdef
      rw [hdef]
      clear hF hdef
      repeat' (first
       | refine WK.seq ?_
       | refine WK.exit rfl ?_
       | refine WK.condT rfl ?_
       | refine WK.condF rfl ?_
       | (refine Hid.h hQ _ _ ?_; clear hQ hA)
       | (refine WK.regH Tryz.ntmps249 (by kernel_rfl) ?_; intro A hA Q hQ; simp [*])
       | fail)
      refine WK.ghost (Ghost.own 2 907 1 rfl rfl) ?_
      refine WK.retT2 Tryz.func249 ?_ ?_ ?_ <;> simp (maxDischargeDepth := 120) [Tryz.results249, byL_nil]
end Go.Proofs.YtcccfbjkcahgfaaGreat
end

section
set_option linter.unusedVariables false
set_option linter.unusedSimpArgs false
namespace Go.Proofs.YtcccfbjkcahgfaaGreat
open Go Go.AI Go.Proofs
attribute [local irreducible] FnP FnO FnB FnT FnSeq WK RunQ RunQW RunX RunXW

def Bucket.same (a b : Bucket) : Bool := a.weight == b.weight && (a.watch == b.watch && (a.wgroup == b.wgroup && eqBy (· == ·) a.acts b.acts))
theorem bsame_c (a b : Bucket) (ha : a.acts.length ≤ 1000000) : FnP Tryz.prog 97 [.agg a.enc, .agg b.enc] (.bool (Bucket.same a b)) := by
  have hsa := acsame_c a.acts b.acts ha
  unfold actS at hsa
  have e : Bucket.same a b = (a.weight == b.weight && (a.watch == b.watch && (a.wgroup == b.wgroup && eqBy (· == ·) a.acts b.acts))) := rfl
  obtain ⟨s, hs⟩ : ∃ s, eqBy (· == ·) a.acts b.acts = s := ⟨_, rfl⟩
  rw [hs] at hsa e
  refine FnP.intro Tryz.func97 rfl rfl fun G w => ?_
  repeat' (first
   | refine WK.seq ?_
   | (refine Hid.h hQ _ _ ?_; clear hQ hA)
   | (refine Fork.mk (fun h => ?_) (fun h => ?_) <;> (first | (simp [*] at h; done) | (have h2 := h; simp at h2; exfalso; omega) | (have h2 := h; simp at h2; try simp only [Bool.not_eq_true', Bool.not_eq_false'] at h) | skip))
   | (refine WK.regH Tryz.ntmps97 (by kernel_rfl) ?_; intro A hA Q hQ; simp [Bucket.enc, *])
   | (refine RunQ.gd rfl (by rw [hA.h]; rfl) ?_; simp [Bucket.enc, *])
   | (refine RunQW.call rfl rfl rfl rfl ?_ (hsa) ?_ ?_; (focus (simp (maxDischargeDepth := 120) [Bucket.enc, *]; done)); (focus (simp [Bucket.enc, *]; done)); refine RunQ.evalH ?_; simp [Bucket.enc, *])
   | (refine WK.ret Tryz.func97 ?_ ?_ <;> simp (maxDischargeDepth := 120) [Tryz.results97, Bucket.enc, *])
   | fail)
theorem bsameL_c (l m : List Bucket) (hl : l.length ≤ 1000000) (ha : ∀ x, x ∈ l → x.acts.length ≤ 1000000) : FnP Tryz.prog 62 [bukS l, bukS m] (.bool (eqBy Bucket.same l m)) := by
  have h := eqf_buk 97 [] Bucket.same l m rfl hl (fun x hx y _ => bsame_c x y (ha x hx))
  unfold bukS at *
  refine FnP.intro Tryz.func62 rfl rfl fun G w => ?_
  repeat' (first
   | refine WK.seq ?_
   | (refine Hid.h hQ _ _ ?_; clear hQ hA)
   | (refine WK.regH Tryz.ntmps62 (by kernel_rfl) ?_; intro A hA Q hQ; simp [*])
   | (refine RunQ.call rfl rfl rfl rfl rfl ?_ (h) ?_ ?_; (focus (simp (maxDischargeDepth := 120) [*]; done)); (focus (simp [*]; done)); refine RunQ.evalH ?_; simp [*])
   | (refine WK.ret Tryz.func62 ?_ ?_ <;> simp (maxDischargeDepth := 120) [Tryz.results62, *])
   | fail)
def bucketsPlain (l : List Bucket) (m : Int) : Bool := decide ((l.length : Int) ≤ m) && l.all fun x => actsPlain x.acts
theorem pbuk1_c (x : Bucket) : FnP Tryz.prog 50 [.agg x.enc] (.bool (!actsPlain x.acts)) := by
  have h := pacts_c x.acts
  unfold actS at h
  refine FnP.intro Tryz.func50 rfl rfl fun G w => ?_
  repeat' (first
   | refine WK.seq ?_
   | (refine Hid.h hQ _ _ ?_; clear hQ hA)
   | (refine WK.regH Tryz.ntmps50 (by kernel_rfl) ?_; intro A hA Q hQ; simp [Bucket.enc, *])
   | (refine RunQ.call rfl rfl rfl rfl rfl ?_ (h) ?_ ?_; (focus (simp (maxDischargeDepth := 120) [Bucket.enc, *]; done)); (focus (simp [Bucket.enc, *]; done)); refine RunQ.evalH ?_; simp [Bucket.enc, *])
   | (refine WK.ret Tryz.func50 ?_ ?_ <;> simp (maxDischargeDepth := 120) [Tryz.results50, Bucket.enc, *])
   | fail)
theorem pbuckets_c (l : List Bucket) (m : Int) (hm : m ≤ 1000) : FnP Tryz.prog 21 [bukS l, .int .i64 m] (.bool (bucketsPlain l m)) := by
  unfold bucketsPlain
  by_cases h1 : (l.length : Int) ≤ m
  · have hco := containsf_buk 50 [] (fun x => !actsPlain x.acts) l rfl (by omega) (fun x _ => pbuk1_c x)
    rw [anyNot_all] at hco
    have e : decide ((l.length : Int) ≤ m) = true := by simpa using h1
    unfold bukS at *
    refine FnP.intro Tryz.func21 rfl rfl fun G w => ?_
    repeat' (first
     | refine WK.seq ?_
     | (refine Hid.h hQ _ _ ?_; clear hQ hA)
     | (refine WK.regH Tryz.ntmps21 (by kernel_rfl) ?_; intro A hA Q hQ; simp [*])
     | (refine RunQ.gd rfl (by rw [hA.h]; rfl) ?_; simp [*])
     | (refine RunQW.call rfl rfl rfl rfl ?_ (hco) ?_ ?_; (focus (simp (maxDischargeDepth := 120) [*]; done)); (focus (simp [*]; done)); refine RunQ.evalH ?_; simp [*])
     | (refine WK.ret Tryz.func21 ?_ ?_ <;> simp (maxDischargeDepth := 120) [Tryz.results21, *])
     | fail)
  · have e : decide ((l.length : Int) ≤ m) = false := by simpa using h1
    unfold bukS at *
    refine FnP.intro Tryz.func21 rfl rfl fun G w => ?_
    repeat' (first
     | refine WK.seq ?_
     | (refine Hid.h hQ _ _ ?_; clear hQ hA)
     | (refine WK.regH Tryz.ntmps21 (by kernel_rfl) ?_; intro A hA Q hQ; simp [*])
     | (refine RunQ.gd rfl (by rw [hA.h]; rfl) ?_; simp [*])
     | (refine WK.ret Tryz.func21 ?_ ?_ <;> simp (maxDischargeDepth := 120) [Tryz.results21, *])
     | fail)
theorem bucketsPlain_facts {l : List Bucket} {m : Int} (h : bucketsPlain l m = true) : (l.length : Int) ≤ m ∧ ∀ x, x ∈ l → x.acts.length ≤ 12 := by
  unfold bucketsPlain at h
  rw [Bool.and_eq_true, decide_eq_true_eq, List.all_eq_true] at h
  exact ⟨h.1, fun x hx => by have := h.2 x hx; unfold actsPlain at this; simpa using this⟩
theorem bkencP_c (l : List Bucket) (hl : l.length ≤ 1000000) (ha : ∀ x, x ∈ l → x.acts.length ≤ 1000000) : FnP Tryz.prog 249 [bukS l] (.tup [byS (bkEnc l).1, .int .i64 (bkEnc l).2]) := by
  have h := (bkenc_c l hl ha).toP (by simp [byL_take]) (by rfl)
  rwa [Nat.mul_one, by_full _ _ rfl] at h
theorem bkdecP_c (b : List (BitVec 8)) (hb : b.length ≤ 1000000) : FnP Tryz.prog 110 [byS b] (.tup [bukS (bkDec b).1, .agg (gFault (bkDec b).2)]) := by
  have h := (bkdec_c b hb).toP (by simp) (by simp [ClL, Cl])
  rwa [bukL_take] at h
theorem bkRead_small {b : List (BitVec 8)} {y : Bucket} {n : Int} (h : bkRead b = (y, n, none)) : y.acts.length * 8 ≤ b.length := by
  unfold bkRead at h
  split at h
  · cases h
  · simp only [Prod.mk.injEq] at h
    obtain ⟨rfl, _, _⟩ := h
    obtain ⟨R, hR⟩ : ∃ R, acDec ((b.drop 16).take ((getN b 0 2).1.toNat - 16)) = R := ⟨_, rfl⟩
    obtain ⟨l, c⟩ := R
    have := acDec_small hR
    simp only [hR, List.length_take, List.length_drop] at this ⊢
    omega
theorem rwF_all {α φ : Type} {rd : List (BitVec 8) → α × Int × Option φ} {ok : Nat → α → Prop} (hm : ∀ {n m a}, n ≤ m → ok n a → ok m a) (hb : ∀ b y n, rd b = (y, n, none) → ok b.length y) :
    ∀ (f : Nat) (b : List (BitVec 8)), ∀ a, a ∈ (rwF rd f b).1 → ok b.length a
  | 0, b, a, ha => by simp [rwF] at ha
  | f + 1, b, a, ha => by
    rw [rwF] at ha
    split at ha
    · simp at ha
    obtain ⟨y, n, c, hd⟩ : ∃ y n c, rd b = (y, n, c) := ⟨_, _, _, rfl⟩
    rw [hd] at ha
    cases c with
    | some c => simp at ha
    | none =>
      simp only at ha
      obtain ⟨R, hR⟩ : ∃ R, rwF rd f (b.drop n.toNat) = R := ⟨_, rfl⟩
      obtain ⟨m, c⟩ := R
      cases c with
      | some c => simp [rwGlue, hR] at ha
      | none =>
        simp only [rwGlue, hR, List.cons_append, List.nil_append, List.mem_cons] at ha
        rcases ha with rfl | ha
        · exact hb _ _ _ hd
        · have := rwF_all (ok := ok) hm hb f (b.drop n.toNat) a (by rw [hR]; exact ha)
          exact hm (by rw [List.length_drop]; omega) this
theorem bkDec_small {b : List (BitVec 8)} {l : List Bucket} {c : Option (Int × Int)} (h : bkDec b = (l, c)) : l.length ≤ 100 ∧ ∀ x, x ∈ l → x.acts.length * 8 ≤ b.length := by
  cases c with
  | some c => rw [bkDec_bad h]; simp
  | none =>
    unfold bkDec at h
    split at h
    · cases h
    split at h
    · cases h
    · rename_i h2
      rw [h] at h2
      refine ⟨by simp only [true_and] at h2; omega, fun x hx => ?_⟩
      exact rwF_all (ok := fun n (x : Bucket) => x.acts.length * 8 ≤ n) (fun h1 h2 => by omega) (fun b y n hd => bkRead_small hd) b.length b x (by show x ∈ (rwDec bkRead b).1; rw [h]; exact hx)
end Go.Proofs.YtcccfbjkcahgfaaGreat
end

section
set_option linter.unusedVariables false
set_option linter.unusedSimpArgs false
namespace Go.Proofs.YtcccfbjkcahgfaaGreat
open Go Go.AI Go.Proofs

theorem eqBy_iff {l m : List Action} : eqBy (fun x y : Action => x == y) l m = true ↔ l = m := by
  constructor
  · intro h
    unfold eqBy at h
    rw [Bool.and_eq_true, beq_iff_eq, List.all_eq_true] at h
    refine List.ext_getElem h.1 fun i h1 h2 => ?_
    have := h.2 i (by simpa using h1)
    rw [beq_iff_eq, nth_eq h1, nth_eq h2] at this
    exact this
  · intro h; subst h; exact eqBy_selfA l
theorem instSame_iff {a b : Inst} : Inst.same a b = true ↔ a = b := by
  obtain ⟨k, t, v, m, l⟩ := a
  obtain ⟨k', t', v', m', l'⟩ := b
  unfold Inst.same
  simp only [Bool.and_eq_true, beq_iff_eq, Inst.mk.injEq]
  rw [show (eqBy (fun x1 x2 => x1 == x2) l l' = true) ↔ l = l' from eqBy_iff]
  simp only [and_assoc]
theorem instSelf (i : Inst) : Inst.same i i = true := instSame_iff.2 rfl
def inst0 : Inst := ⟨0, 0, wideZ, wideZ, []⟩
def inMeta (v m : Wide) : Bool := v.hi == 0#64 && (m.hi == 0#64 && (v.less m).zero)
def inBare (i : Inst) : Inst := if i.kind = 1 then ⟨1, i.table, wideZ, wideZ, []⟩ else if i.kind = 2 then ⟨2, 0, i.value, i.mask, []⟩ else if i.kind = 3 ∨ i.kind = 4 then ⟨i.kind, 0, wideZ, wideZ, i.acts⟩ else ⟨i.kind, 0, wideZ, wideZ, []⟩
def inOk (i : Inst) : Bool := if i.kind = 1 then decide (0 ≤ i.table) && decide (i.table < 255) else if i.kind = 2 then inMeta i.value i.mask else if i.kind = 3 ∨ i.kind = 4 then (acEnc i.acts).2 == 0 else i.kind == 5
def inRight (i : Inst) : Bool := inOk i && Inst.same i (inBare i)
def inBody (i : Inst) : List (BitVec 8) := if i.kind = 1 then BitVec.ofInt 8 i.table :: List.replicate 3 0#8 else if i.kind = 2 then List.replicate 4 0#8 ++ (beN (wN i.value) 8 ++ beN (wN i.mask) 8) else if i.kind = 3 ∨ i.kind = 4 then List.replicate 4 0#8 ++ (acEnc i.acts).1 else List.replicate 4 0#8
def inOne (i : Inst) : List (BitVec 8) := beN i.kind 2 ++ (beN (4 + (inBody i).length : Nat) 2 ++ inBody i)
def inKinds (l : List Inst) : List Int := l.map (·.kind)
def inFit (l : List Inst) : Bool := l.all inRight && decide (inKinds l).Nodup
def inEnc (l : List Inst) : List (BitVec 8) × Int := if inFit l = true ∧ (rwFlat inOne l).length ≤ 60000 then (rwFlat inOne l, 0) else ([], 1)
def inLaid (k : Int) (b : List (BitVec 8)) : Bool := if k = 1 then b.length == 8 && allZ (b.drop 5) else if k = 2 then b.length == 24 && allZ ((b.drop 4).take 4) else if k = 5 then b.length == 8 && allZ (b.drop 4) else allZ ((b.drop 4).take 4)
/-- the kind and how many bytes; or the fault -/
def inCut (b : List (BitVec 8)) : Int × Nat × Option (Int × Int) :=
  if b.length < 8 then (0, 0, some (3, 7))
  else if valN ((b.drop 2).take 2) < 8 ∨ ¬ valN ((b.drop 2).take 2) % 8 = 0 ∨ b.length < valN ((b.drop 2).take 2) then (0, 0, some (3, 7))
  else if valN ((b.drop 0).take 2) = 6 then (0, 0, some (3, 1))
  else if valN ((b.drop 0).take 2) < 1 ∨ 5 < valN ((b.drop 0).take 2) then (0, 0, some (3, 0))
  else if inLaid (valN ((b.drop 0).take 2)) (b.take (valN ((b.drop 2).take 2))) = false then (0, 0, some (3, 7))
  else (valN ((b.drop 0).take 2), valN ((b.drop 2).take 2), none)
def inOf (k : Int) (b : List (BitVec 8)) : Inst × Option (Int × Int) :=
  if k = 1 then (⟨1, (nth b 4).toNat, wideZ, wideZ, []⟩, if (nth b 4).toNat = 255 then some (3, 2) else none)
  else if k = 2 then (⟨2, 0, (wGet (b.drop 8) 8).1, (wGet (b.drop 16) 8).1, []⟩, if inMeta (wGet (b.drop 8) 8).1 (wGet (b.drop 16) 8).1 = true then none else some (3, 4))
  else if k = 3 ∨ k = 4 then (⟨k, 0, wideZ, wideZ, (acDec (b.drop 8)).1⟩, (acDec (b.drop 8)).2.map fun c => (2, c))
  else (⟨k, 0, wideZ, wideZ, []⟩, none)
def inStep (ks : List Int) (b : List (BitVec 8)) : Inst × Nat × Option (Int × Int) :=
  match (inCut b).2.2 with
  | some c => (inst0, 0, some c)
  | none => if (inCut b).1 ∈ ks then (inst0, 0, some (3, 9)) else
    match (inOf (inCut b).1 (b.take (inCut b).2.1)).2 with
    | some c => (inst0, 0, some c)
    | none => ((inOf (inCut b).1 (b.take (inCut b).2.1)).1, (inCut b).2.1, none)
def inF : Nat → List Inst → List (BitVec 8) → List Inst × Option (Int × Int)
  | 0, acc, _ => (acc, none)
  | f + 1, acc, b => if b.length = 0 then (acc, none) else match (inStep (inKinds acc) b).2.2 with
    | some c => ([], some c)
    | none => inF f (acc ++ [(inStep (inKinds acc) b).1]) (b.drop (inStep (inKinds acc) b).2.1)
def inDec (b : List (BitVec 8)) : List Inst × Option (Int × Int) := inF b.length [] b
theorem inF_stop {f : Nat} {acc : List Inst} {b : List (BitVec 8)} (h : b.length = 0) : inF f acc b = (acc, none) := by
  cases f with
  | zero => rfl
  | succ f => rw [inF, if_pos h]
theorem inF_bad : ∀ (f : Nat) (acc : List Inst) (b : List (BitVec 8)) (c : Int × Int), (inF f acc b).2 = some c → (inF f acc b).1 = []
  | 0, acc, b, c, h => by simp [inF] at h
  | f + 1, acc, b, c, h => by
    rw [inF] at h ⊢
    split
    · rename_i h0; rw [if_pos h0] at h; cases h
    rename_i h0
    rw [if_neg h0] at h
    split
    · rfl
    · rename_i hd
      rw [hd] at h
      exact inF_bad f _ _ c h
theorem inDec_bad {b : List (BitVec 8)} {l : List Inst} {c : Int × Int} (h : inDec b = (l, some c)) : l = [] := by
  have := inF_bad b.length [] b c (by show (inDec b).2 = some c; rw [h])
  change (inDec b).1 = [] at this
  rw [h] at this
  exact this
theorem inBody_len (i : Inst) : (inBody i).length ≤ 6004 := by
  have := acEnc_len i.acts
  unfold inBody
  split
  · simp
  split
  · simp [beN_len]
  split
  · simp; omega
  · simp
theorem inOne_len (i : Inst) : (inOne i).length = 4 + (inBody i).length := by unfold inOne; simp [beN_len]; omega
theorem wN_low {w : Wide} (h : w.hi = 0#64) : (wN w : Int) < 256 ^ 8 := by
  unfold wN
  rw [h]
  have := w.lo.isLt
  show ((0 * 18446744073709551616 + w.lo.toNat : Nat) : Int) < 18446744073709551616
  omega
theorem inRight_facts {i : Inst} (h : inRight i = true) : inOk i = true ∧ i = inBare i := by
  unfold inRight at h
  rw [Bool.and_eq_true] at h
  exact ⟨h.1, instSame_iff.1 h.2⟩
theorem inKind_of {i : Inst} (h : inOk i = true) : i.kind = 1 ∨ i.kind = 2 ∨ i.kind = 3 ∨ i.kind = 4 ∨ i.kind = 5 := by
  unfold inOk at h
  split at h
  · exact .inl ‹_›
  split at h
  · exact .inr (.inl ‹_›)
  split at h
  · rename_i h3; rcases h3 with h3 | h3
    · exact .inr (.inr (.inl h3))
    · exact .inr (.inr (.inr (.inl h3)))
  · exact .inr (.inr (.inr (.inr (by simpa using h))))
/-- what is read of an instruction that was written -/
theorem inOne_cut {i : Inst} (h : inRight i = true) (r : List (BitVec 8)) : inCut (inOne i ++ r) = (i.kind, (inOne i).length, none) ∧ inOf i.kind (inOne i) = (i, none) := by
  obtain ⟨h1, h2⟩ := inRight_facts h
  have hk := inKind_of h1
  have hl := inOne_len i
  have hbl := inBody_len i
  have hm8 : (4 + (inBody i).length) % 8 = 0 ∧ 4 ≤ (inBody i).length := by
    rcases hk with k | k | k | k | k
    · unfold inBody; rw [if_pos k]; simp
    · unfold inBody; rw [if_neg (by omega), if_pos k]; simp [beN_len]
    · have e0 : (acEnc i.acts).2 = 0 := by unfold inOk at h1; rw [if_neg (by omega), if_neg (by omega), if_pos (by omega)] at h1; simpa using h1
      obtain ⟨_, a2, a3⟩ := acEnc_zero e0
      have := acFlat_mod a2
      unfold inBody; rw [if_neg (by omega), if_neg (by omega), if_pos (by omega), a3]; simp; omega
    · have e0 : (acEnc i.acts).2 = 0 := by unfold inOk at h1; rw [if_neg (by omega), if_neg (by omega), if_pos (by omega)] at h1; simpa using h1
      obtain ⟨_, a2, a3⟩ := acEnc_zero e0
      have := acFlat_mod a2
      unfold inBody; rw [if_neg (by omega), if_neg (by omega), if_pos (by omega), a3]; simp; omega
    · unfold inBody; rw [if_neg (by omega), if_neg (by omega), if_neg (by omega)]; simp
  have hkn : numOk i.kind 2 = true := by rw [numOk_iff]; exact ⟨by omega, by show i.kind < 65536; omega⟩
  have hnn : numOk ((4 + (inBody i).length : Nat) : Int) 2 = true := numOk2 (by omega)
  obtain ⟨B, hB⟩ : ∃ B, inOne i ++ r = B := ⟨_, rfl⟩
  have hBl : B.length = 4 + (inBody i).length + r.length := by rw [← hB, List.length_append, hl]
  have hB2 : B = beN i.kind 2 ++ (beN (4 + (inBody i).length : Nat) 2 ++ (inBody i ++ r)) := by rw [← hB]; unfold inOne; simp only [List.append_assoc]
  have g0 : getN B 0 2 = (i.kind, 0) := getN_at (x := []) hB2 rfl hkn
  have g1 : getN B 2 2 = (((4 + (inBody i).length : Nat) : Int), 0) := getN_at (x := beN i.kind 2) hB2 (beN_len _ _) hnn
  rw [getN_val (by omega)] at g0 g1
  have v0 : (valN ((B.drop 0).take 2) : Int) = i.kind := by simpa using g0
  have v1 : valN ((B.drop 2).take 2) = 4 + (inBody i).length := by simp only [Prod.mk.injEq, and_true] at g1; omega
  have hone : B.take (4 + (inBody i).length) = inOne i := by rw [← hB, List.take_append_of_le_length (by omega), List.take_of_length_le (by omega)]
  have d4 : (inOne i).drop 4 = inBody i := by
    unfold inOne
    rw [← List.append_assoc, List.drop_append_of_le_length (by simp [beN_len]), List.drop_of_length_le (by simp [beN_len]), List.nil_append]
  have hlaid : inLaid i.kind (inOne i) = true := by
    have d5 : (inOne i).drop 5 = (inBody i).drop 1 := by rw [← d4, List.drop_drop]
    unfold inLaid
    rw [d4, d5, hl]
    rcases hk with k | k | k | k | k
    · rw [if_pos k]; unfold inBody; rw [if_pos k]; rfl
    · rw [if_neg (by omega), if_pos k]; unfold inBody; rw [if_neg (by omega), if_pos k]
      rw [List.take_append_of_le_length (by simp)]
      simp [beN_len]; exact allZ_rep 4
    · rw [if_neg (by omega), if_neg (by omega), if_neg (by omega)]; unfold inBody; rw [if_neg (by omega), if_neg (by omega), if_pos (by omega)]
      rw [List.take_append_of_le_length (by simp)]
      exact allZ_rep 4
    · rw [if_neg (by omega), if_neg (by omega), if_neg (by omega)]; unfold inBody; rw [if_neg (by omega), if_neg (by omega), if_pos (by omega)]
      rw [List.take_append_of_le_length (by simp)]
      exact allZ_rep 4
    · rw [if_neg (by omega), if_neg (by omega), if_pos k]; unfold inBody; rw [if_neg (by omega), if_neg (by omega), if_neg (by omega)]; rfl
  have vk : valN ((B.drop 0).take 2) = i.kind.toNat := by omega
  have hkk : ((i.kind.toNat : Nat) : Int) = i.kind := by omega
  constructor
  · rw [hB]
    unfold inCut
    rw [vk, v1, hone, hkk, hlaid, if_neg (by omega), if_neg (by omega), if_neg (by omega), if_neg (by omega), if_neg (by simp), hl]
  · have d8 : (inOne i).drop 8 = (inBody i).drop 4 := by rw [← d4, List.drop_drop]
    have d16 : (inOne i).drop 16 = (inBody i).drop 12 := by rw [← d4, List.drop_drop]
    have n4 : nth (inOne i) 4 = nth (inBody i) 0 := by rw [← d4, nth_drop]
    unfold inOf
    rw [d8, d16, n4]
    unfold inBare at h2
    rcases hk with k | k | k | k | k
    · rw [if_pos k] at h2 ⊢
      have ht : 0 ≤ i.table ∧ i.table < 255 := by unfold inOk at h1; rw [if_pos k] at h1; simpa using h1
      have hb : (nth (inBody i) 0).toNat = i.table.toNat := by
        unfold inBody; rw [if_pos k]
        show (BitVec.ofInt 8 i.table).toNat = _
        rw [toNat_ofInt8 ht.1 (by omega)]
      rw [hb, if_neg (by omega)]
      refine Prod.ext ?_ rfl
      show (⟨1, ((i.table.toNat : Nat) : Int), wideZ, wideZ, []⟩ : Inst) = i
      rw [Int.toNat_of_nonneg ht.1]
      exact h2.symm
    · rw [if_neg (by omega), if_pos k] at h2 ⊢
      have hm : inMeta i.value i.mask = true := by unfold inOk at h1; rw [if_neg (by omega), if_pos k] at h1; exact h1
      have hv : i.value.hi = 0#64 ∧ i.mask.hi = 0#64 := by unfold inMeta at hm; simp only [Bool.and_eq_true, beq_iff_eq] at hm; exact ⟨hm.1, hm.2.1⟩
      have b4 : (inBody i).drop 4 = beN (wN i.value) 8 ++ beN (wN i.mask) 8 := by
        unfold inBody; rw [if_neg (by omega), if_pos k, List.drop_append_of_le_length (by simp), List.drop_of_length_le (by simp), List.nil_append]
      have b12 : (inBody i).drop 12 = beN (wN i.mask) 8 ++ [] := by
        rw [show (12 : Nat) = 4 + 8 from rfl, ← List.drop_drop, b4, List.drop_append_of_le_length (by simp [beN_len]), List.drop_of_length_le (by simp [beN_len]), List.nil_append, List.append_nil]
      rw [b4, b12, wGet_beN i.value 8 _ (by omega) (wN_low hv.1), wGet_beN i.mask 8 _ (by omega) (wN_low hv.2)]
      simp only
      rw [if_pos hm]
      exact Prod.ext h2.symm rfl
    · rw [if_neg (by omega), if_neg (by omega), if_pos (by omega)] at h2 ⊢
      have e0 : (acEnc i.acts).2 = 0 := by unfold inOk at h1; rw [if_neg (by omega), if_neg (by omega), if_pos (by omega)] at h1; simpa using h1
      obtain ⟨a1, a2, a3⟩ := acEnc_zero e0
      have b4 : (inBody i).drop 4 = acFlat i.acts := by
        unfold inBody; rw [if_neg (by omega), if_neg (by omega), if_pos (by omega), List.drop_append_of_le_length (by simp), List.drop_of_length_le (by simp), List.nil_append, a3]
      rw [b4, acEnc_back a1 a2]
      exact Prod.ext h2.symm rfl
    · rw [if_neg (by omega), if_neg (by omega), if_pos (by omega)] at h2 ⊢
      have e0 : (acEnc i.acts).2 = 0 := by unfold inOk at h1; rw [if_neg (by omega), if_neg (by omega), if_pos (by omega)] at h1; simpa using h1
      obtain ⟨a1, a2, a3⟩ := acEnc_zero e0
      have b4 : (inBody i).drop 4 = acFlat i.acts := by
        unfold inBody; rw [if_neg (by omega), if_neg (by omega), if_pos (by omega), List.drop_append_of_le_length (by simp), List.drop_of_length_le (by simp), List.nil_append, a3]
      rw [b4, acEnc_back a1 a2]
      exact Prod.ext h2.symm rfl
    · rw [if_neg (by omega), if_neg (by omega), if_neg (by omega)] at h2 ⊢
      exact Prod.ext h2.symm rfl
theorem inStep_one {i : Inst} {ks : List Int} (h : inRight i = true) (hk : i.kind ∉ ks) (r : List (BitVec 8)) : inStep ks (inOne i ++ r) = (i, (inOne i).length, none) := by
  obtain ⟨h1, h2⟩ := inOne_cut h r
  have ht : (inOne i ++ r).take (inOne i).length = inOne i := by rw [List.take_append_of_le_length (Nat.le_refl _), List.take_length]
  unfold inStep
  rw [h1]
  simp only
  rw [if_neg hk, ht, h2]
theorem inF_flat : ∀ (l acc : List Inst), (∀ a, a ∈ l → inRight a = true) → (inKinds (acc ++ l)).Nodup → ∀ f, (rwFlat inOne l).length ≤ f → inF f acc (rwFlat inOne l) = (acc ++ l, none)
  | [], acc, _, _, f, _ => by rw [inF_stop rfl, List.append_nil]
  | a :: l, acc, hr, hn, f, hf => by
    have ha := hr a (by simp)
    have hp : 0 < (inOne a).length := by rw [inOne_len]; omega
    have e : rwFlat inOne (a :: l) = inOne a ++ rwFlat inOne l := rfl
    rw [e, List.length_append] at hf
    obtain ⟨g, rfl⟩ : ∃ g, f = g + 1 := ⟨f - 1, by omega⟩
    have hk : a.kind ∉ inKinds acc := by
      intro hm
      unfold inKinds at hn hm
      rw [List.map_append, List.nodup_append] at hn
      exact hn.2.2 _ hm a.kind (by simp) rfl
    rw [e, inF, if_neg (by rw [List.length_append]; omega), inStep_one ha hk]
    simp only
    rw [List.drop_append_of_le_length (Nat.le_refl _), List.drop_length, List.nil_append]
    have := inF_flat l (acc ++ [a]) (fun x hx => hr x (List.mem_cons_of_mem _ hx)) (by rw [List.append_assoc]; exact hn) g (by omega)
    rw [this, List.append_assoc]
    rfl
theorem inFit_facts {l : List Inst} (h : inFit l = true) : (∀ a, a ∈ l → inRight a = true) ∧ (inKinds l).Nodup := by
  unfold inFit at h
  rw [Bool.and_eq_true, List.all_eq_true, decide_eq_true_eq] at h
  exact h
theorem inEnc_bad1 {l : List Inst} (h : ¬ (inFit l = true ∧ (rwFlat inOne l).length ≤ 60000)) : inEnc l = ([], 1) := by unfold inEnc; rw [if_neg h]
theorem inEnc_zero {l : List Inst} (h : (inEnc l).2 = 0) : inFit l = true ∧ (rwFlat inOne l).length ≤ 60000 ∧ inEnc l = (rwFlat inOne l, 0) := by
  by_cases hh : inFit l = true ∧ (rwFlat inOne l).length ≤ 60000
  · exact ⟨hh.1, hh.2, by unfold inEnc; rw [if_pos hh]⟩
  · rw [inEnc_bad1 hh] at h; cases h
theorem inEnc_back {l : List Inst} (h : (inEnc l).2 = 0) : inDec (inEnc l).1 = (l, none) := by
  obtain ⟨h1, h2, h3⟩ := inEnc_zero h
  obtain ⟨h4, h5⟩ := inFit_facts h1
  rw [h3]
  exact inF_flat l [] h4 h5 _ (Nat.le_refl _)
theorem inEnc_len (l : List Inst) : (inEnc l).1.length ≤ 60000 := by
  unfold inEnc
  split
  · rename_i h; exact h.2
  · simp
end Go.Proofs.YtcccfbjkcahgfaaGreat
end

section
set_option linter.unusedVariables false
set_option linter.unusedSimpArgs false
namespace Go.Proofs.YtcccfbjkcahgfaaGreat
open Go Go.AI Go.Proofs

theorem inCut_facts {b : List (BitVec 8)} {k : Int} {n : Nat} (h : inCut b = (k, n, none)) : 8 ≤ n ∧ n ≤ b.length ∧ n % 8 = 0 ∧ n < 65536 ∧ (∃ kn : Nat, k = kn ∧ 1 ≤ kn ∧ kn ≤ 5 ∧ beN (kn : Int) 2 = b.take 2) ∧ beN (n : Int) 2 = (b.drop 2).take 2 ∧ inLaid k (b.take n) = true := by
  unfold inCut at h
  split at h
  · cases h
  rename_i c0
  split at h
  · cases h
  rename_i c1
  split at h
  · cases h
  rename_i c2
  split at h
  · cases h
  rename_i c3
  split at h
  · cases h
  rename_i c4
  simp only [Prod.mk.injEq, and_true] at h
  obtain ⟨rfl, rfl⟩ := h
  have l0 : ((b.drop 0).take 2).length = 2 := by simp; omega
  have l1 : ((b.drop 2).take 2).length = 2 := by simp; omega
  have e0 := beN_valN 2 _ l0
  have e1 := beN_valN 2 _ l1
  have lt : valN ((b.drop 2).take 2) < 65536 := valN_lt 2 _ l1
  rw [List.drop_zero] at e0 c3
  rw [Bool.not_eq_false] at c4
  exact ⟨by omega, by omega, by omega, lt, ⟨_, by rw [List.drop_zero], by omega, by omega, e0⟩, e1, c4⟩
theorem wide_back (b : List (BitVec 8)) (h : 8 ≤ b.length) : beN (wN (wGet b 8).1) 8 = b.take 8 := by
  have h1 := wPut_wGet b [] 8 (by omega) h
  rw [wPut_beN _ _ _ (by omega), List.nil_append, List.nil_append] at h1
  exact h1
theorem take_take_drop (b : List (BitVec 8)) (p q r : Nat) (h : r = p + q) : (b.drop p).take q ++ b.drop r = b.drop p := by
  subst h
  rw [← List.drop_drop, List.take_append_drop]
theorem inStep_back {ks : List Int} {b : List (BitVec 8)} {y : Inst} {n : Nat} (h : inStep ks b = (y, n, none)) : inRight y = true ∧ y.kind ∉ ks ∧ 8 ≤ n ∧ n ≤ b.length ∧ inOne y = b.take n ∧ y.acts.length * 8 ≤ b.length := by
  unfold inStep at h
  obtain ⟨k, m, c, hc⟩ : ∃ k m c, inCut b = (k, m, c) := ⟨_, _, _, rfl⟩
  rw [hc] at h
  cases c with
  | some c => simp at h
  | none =>
  simp only at h
  split at h
  · cases h
  rename_i hks
  obtain ⟨z, c, hz⟩ : ∃ z c, inOf k (b.take m) = (z, c) := ⟨_, _, rfl⟩
  rw [hz] at h
  cases c with
  | some c => simp at h
  | none =>
  simp only [Prod.mk.injEq, and_true] at h
  obtain ⟨rfl, rfl⟩ := h
  obtain ⟨f1, f2, f3, f4, ⟨kn, rfl, f5, f6, f7⟩, f8, f9⟩ := inCut_facts hc
  obtain ⟨B, hB⟩ : ∃ B, b.take m = B := ⟨_, rfl⟩
  have hBl : B.length = m := by rw [← hB, List.length_take]; omega
  have t2 : b.take 2 = B.take 2 := by rw [← hB, List.take_take, Nat.min_eq_left (by omega)]
  have t4 : (b.drop 2).take 2 = (B.drop 2).take 2 := by
    rw [← hB, List.drop_take, List.take_take, Nat.min_eq_left (by omega)]
  have glue : ∀ body : List (BitVec 8), z.kind = kn → inBody z = body → body = B.drop 4 → inOne z = B := fun body h1 h2 h3 => by
    have hl : 4 + (B.drop 4).length = m := by rw [List.length_drop]; omega
    unfold inOne
    rw [h1, h2, h3, hl, f7, f8, t2, t4, take_take_drop B 2 2 4 rfl, List.take_append_drop]
  rw [hB] at hz f9 ⊢
  have z4 : ∀ p q, allZ ((B.drop p).take q) = true → p + q ≤ m → List.replicate q 0#8 = (B.drop p).take q := fun p q h1 h2 => by
    rw [allZ_iff] at h1
    rw [h1, List.length_take, List.length_drop, Nat.min_eq_left (by omega)]
  unfold inOf at hz
  unfold inLaid at f9
  by_cases k1 : kn = 1
  · subst k1
    rw [if_pos (by decide)] at hz f9
    simp only [Bool.and_eq_true, beq_iff_eq] at f9
    simp only [Prod.mk.injEq] at hz
    obtain ⟨rfl, hc⟩ := hz
    have hne : ¬ (nth B 4).toNat = 255 := fun e => by rw [if_pos e] at hc; cases hc
    have hlt := (nth B 4).isLt
    have h5 : List.replicate 3 0#8 = B.drop 5 := by
      have := f9.2; rw [allZ_iff] at this; rw [this, List.length_drop]; congr 1; omega
    have h4 : B.drop 4 = nth B 4 :: B.drop 5 := by rw [nth_eq (by omega), List.drop_eq_getElem_cons (by omega)]
    refine ⟨?_, hks, f1, f2, ?_, by simp⟩
    · unfold inRight inOk inBare
      simp only [if_pos, instSelf]
      simp
      omega
    · refine glue _ rfl rfl ?_
      unfold inBody
      rw [if_pos rfl, h4, ← h5]
      simp only [ofInt8_nat]
  by_cases k2 : kn = 2
  · subst k2
    rw [if_neg (by decide), if_pos (by decide)] at hz f9
    simp only [Bool.and_eq_true, beq_iff_eq] at f9
    simp only [Prod.mk.injEq] at hz
    obtain ⟨rfl, hc⟩ := hz
    have hm : inMeta (wGet (B.drop 8) 8).1 (wGet (B.drop 16) 8).1 = true := Decidable.byContradiction fun e => by rw [if_neg e] at hc; cases hc
    refine ⟨?_, hks, f1, f2, ?_, by simp⟩
    · unfold inRight inOk inBare
      simp only [if_neg (show ¬ (2 : Int) = 1 by decide), if_pos, instSelf]
      simpa using hm
    · refine glue _ rfl rfl ?_
      unfold inBody
      simp only
      rw [if_neg (by decide), if_pos (by decide)]
      rw [wide_back _ (by rw [List.length_drop]; omega), wide_back _ (by rw [List.length_drop]; omega), z4 4 4 f9.2 (by omega)]
      have h16 : (B.drop 16).take 8 = B.drop 16 := List.take_of_length_le (by rw [List.length_drop]; omega)
      rw [h16, take_take_drop B 8 8 16 rfl, take_take_drop B 4 4 8 rfl]
  by_cases k5 : kn = 5
  · subst k5
    rw [if_neg (by decide), if_neg (by decide), if_pos (by decide)] at f9
    rw [if_neg (by decide), if_neg (by decide), if_neg (by decide)] at hz
    simp only [Bool.and_eq_true, beq_iff_eq] at f9
    simp only [Prod.mk.injEq, and_true] at hz
    subst hz
    have h4 : List.replicate 4 0#8 = B.drop 4 := by
      have := f9.2; rw [allZ_iff] at this; rw [this, List.length_drop]; congr 1; omega
    refine ⟨?_, hks, f1, f2, ?_, by simp⟩
    · show (true && Inst.same _ _) = true
      rw [Bool.true_and]
      exact instSelf _
    · exact glue _ rfl rfl h4
  · have k34 : kn = 3 ∨ kn = 4 := by omega
    rw [if_neg (by omega), if_neg (by omega), if_neg (by omega)] at f9
    rw [if_neg (by omega), if_neg (by omega), if_pos (by omega)] at hz
    obtain ⟨R, hR⟩ : ∃ R, acDec (B.drop 8) = R := ⟨_, rfl⟩
    rw [hR] at hz
    obtain ⟨l, c⟩ := R
    cases c with
    | some c => simp at hz
    | none =>
    simp only [Option.map_none, Prod.mk.injEq, and_true] at hz
    subst hz
    have hb := acDec_back hR
    have hsm := acDec_small hR
    rw [List.length_drop] at hsm
    refine ⟨?_, hks, f1, f2, ?_, by simp only; omega⟩
    · unfold inRight inOk inBare
      simp only [if_neg (show ¬ (kn : Int) = 1 by omega), if_neg (show ¬ (kn : Int) = 2 by omega), if_pos (show (kn : Int) = 3 ∨ (kn : Int) = 4 by omega), instSelf, hb]
      rfl
    · refine glue _ rfl rfl ?_
      unfold inBody
      simp only [if_neg (show ¬ (kn : Int) = 1 by omega), if_neg (show ¬ (kn : Int) = 2 by omega), if_pos (show (kn : Int) = 3 ∨ (kn : Int) = 4 by omega), hb]
      rw [z4 4 4 f9 (by omega), take_take_drop B 4 4 8 rfl]
structure InAt (b : List (BitVec 8)) (x : Nat × Nat × List Inst) : Prop where
  le : x.2.1 ≤ b.length
  fuel : b.length - x.2.1 ≤ x.1
  eq : inDec b = inF x.1 x.2.2 (b.drop x.2.1)
  small : x.2.2.length * 8 ≤ x.2.1
  right : ∀ y, y ∈ x.2.2 → inRight y = true ∧ y.acts.length * 8 ≤ b.length
  once : (inKinds x.2.2).Nodup
  flat : rwFlat inOne x.2.2 = b.take x.2.1
theorem InAt.start (b : List (BitVec 8)) : InAt b (b.length, 0, []) := ⟨Nat.zero_le _, Nat.le_refl _, rfl, Nat.le_refl _, fun y hy => (by cases hy), List.nodup_nil, (by simp [rwFlat])⟩
theorem InAt.bad {b : List (BitVec 8)} {x : Nat × Nat × List Inst} (h : InAt b x) (hp : x.2.1 < b.length) {y : Inst} {n : Nat} {c : Int × Int} (hd : inStep (inKinds x.2.2) (b.drop x.2.1) = (y, n, some c)) : inDec b = ([], some c) := by
  rw [h.eq]
  obtain ⟨f, hf⟩ : ∃ f, x.1 = f + 1 := ⟨x.1 - 1, by have := h.fuel; omega⟩
  rw [hf, inF, if_neg (by rw [List.length_drop]; omega), hd]
theorem InAt.next {b : List (BitVec 8)} {x : Nat × Nat × List Inst} (h : InAt b x) (hp : x.2.1 < b.length) {y : Inst} {n : Nat} (hd : inStep (inKinds x.2.2) (b.drop x.2.1) = (y, n, none)) : x.2.1 + n ≤ b.length ∧ 8 ≤ n ∧ InAt b (x.1 - 1, x.2.1 + n, x.2.2 ++ [y]) := by
  obtain ⟨g1, g2, g3, g4, g5, g6⟩ := inStep_back hd
  rw [List.length_drop] at g4 g6
  obtain ⟨f, hf⟩ : ∃ f, x.1 = f + 1 := ⟨x.1 - 1, by have := h.fuel; omega⟩
  refine ⟨by omega, g3, ⟨by simp only; omega, by have := h.fuel; simp only; omega, ?_, by have := h.small; simp only [List.length_append, List.length_singleton]; omega, ?_, ?_, ?_⟩⟩
  · rw [h.eq, hf, inF, if_neg (by rw [List.length_drop]; omega), hd]
    simp only [Nat.add_sub_cancel]
    rw [List.drop_drop]
  · intro z hz
    simp only [List.mem_append, List.mem_singleton] at hz
    rcases hz with hz | rfl
    · exact h.right z hz
    · exact ⟨g1, by omega⟩
  · unfold inKinds at *
    simp only [List.map_append, List.map_cons, List.map_nil]
    rw [List.nodup_append]
    exact ⟨h.once, by simp, fun a ha b hb => by simp at hb; subst hb; exact fun e => g2 (e ▸ ha)⟩
  · simp only
    rw [rwFlat_app, h.flat, List.take_add]
    congr 1
    unfold rwFlat
    rw [List.flatMap_cons, List.flatMap_nil, List.append_nil, g5]
theorem InAt.stop {b : List (BitVec 8)} {x : Nat × Nat × List Inst} (h : InAt b x) (hp : ¬ x.2.1 < b.length) : inDec b = (x.2.2, none) := by
  rw [h.eq, inF_stop (by rw [List.length_drop]; omega)]
theorem inAt_end : ∀ (f : Nat) (b : List (BitVec 8)) (p : Nat) (acc l : List Inst), InAt b (f, p, acc) → inDec b = (l, none) → ∃ f' p', InAt b (f', p', l) ∧ p' = b.length
  | 0, b, p, acc, l, h, he => by
    have hp : ¬ p < b.length := by have := h.fuel; simp only at this; omega
    have := h.stop hp
    rw [he] at this
    simp only [Prod.mk.injEq, and_true] at this
    subst this
    exact ⟨0, p, h, by have := h.le; simp only at this; omega⟩
  | f + 1, b, p, acc, l, h, he => by
    by_cases hp : p < b.length
    · obtain ⟨y, n, c, hd⟩ : ∃ y n c, inStep (inKinds acc) (b.drop p) = (y, n, c) := ⟨_, _, _, rfl⟩
      cases c with
      | some c => have := h.bad hp hd; rw [he] at this; cases this
      | none =>
        have := (h.next hp hd).2.2
        exact inAt_end f b (p + n) (acc ++ [y]) l this he
    · have := h.stop hp
      rw [he] at this
      simp only [Prod.mk.injEq, and_true] at this
      subst this
      exact ⟨f + 1, p, h, by have := h.le; simp only at this; omega⟩
structure InDone (b : List (BitVec 8)) (l : List Inst) : Prop where
  right : ∀ y, y ∈ l → inRight y = true ∧ y.acts.length * 8 ≤ b.length
  once : (inKinds l).Nodup
  flat : rwFlat inOne l = b
  small : l.length * 8 ≤ b.length
theorem inDec_done {b : List (BitVec 8)} {l : List Inst} (h : inDec b = (l, none)) : InDone b l := by
  obtain ⟨f, p, hat, rfl⟩ := inAt_end b.length b 0 [] l (InAt.start b) h
  exact ⟨hat.right, hat.once, by have := hat.flat; simpa using this, hat.small⟩
theorem inDec_back {b : List (BitVec 8)} {l : List Inst} (h : inDec b = (l, none)) (hb : b.length ≤ 60000) : inEnc l = (b, 0) := by
  have d := inDec_done h
  unfold inEnc
  have hf : inFit l = true := by
    unfold inFit
    rw [Bool.and_eq_true, List.all_eq_true, decide_eq_true_eq]
    exact ⟨fun y hy => (d.right y hy).1, d.once⟩
  rw [d.flat, if_pos ⟨hf, hb⟩]
end Go.Proofs.YtcccfbjkcahgfaaGreat
end

section
set_option linter.unusedVariables false
set_option linter.unusedSimpArgs false
namespace Go.Proofs.YtcccfbjkcahgfaaGreat
open Go Go.AI Go.Proofs

/-- numbers, one behind the other -/
def nsEnc (l : List (Int × Nat)) : List (BitVec 8) := l.flatMap fun x => beN x.1 x.2
def nsRead : List Nat → List (BitVec 8) → Nat → List Int
  | [], _, _ => []
  | s :: r, b, p => (getN b p s).1 :: nsRead r b (p + s)
theorem nsEnc_len (l : List (Int × Nat)) : (nsEnc l).length = (l.map (·.2)).sum := by
  induction l with
  | nil => rfl
  | cons x l ih =>
    have e : nsEnc (x :: l) = beN x.1 x.2 ++ nsEnc l := rfl
    rw [e, List.length_append, ih, beN_len]; simp
theorem nsRead_enc : ∀ (l : List (Int × Nat)) (B x z : List (BitVec 8)) (p : Nat), B = x ++ (nsEnc l ++ z) → x.length = p → (∀ y, y ∈ l → numOk y.1 y.2 = true) → nsRead (l.map (·.2)) B p = l.map (·.1)
  | [], _, _, _, _, _, _, _ => rfl
  | y :: l, B, x, z, p, hB, hx, hn => by
    have e : nsEnc (y :: l) = beN y.1 y.2 ++ nsEnc l := rfl
    rw [e] at hB
    have h1 := getN_at (E := B) (x := x) (z := nsEnc l ++ z) (v := y.1) (p := p) (s := y.2) (by rw [hB]; simp only [List.append_assoc]) hx (hn y (by simp))
    rw [List.map_cons, List.map_cons, nsRead, h1, nsRead_enc l B (x ++ beN y.1 y.2) z (p + y.2) (by rw [hB]; simp only [List.append_assoc]) (by rw [List.length_append, hx, beN_len]) (fun y' hy => hn y' (List.mem_cons_of_mem _ hy))]
theorem nsRead_len : ∀ (ss : List Nat) (b : List (BitVec 8)) (p : Nat), (nsRead ss b p).length = ss.length
  | [], _, _ => rfl
  | s :: ss, b, p => by rw [nsRead, List.length_cons, nsRead_len ss, List.length_cons]
theorem nsEnc_read : ∀ (ss : List Nat) (b : List (BitVec 8)) (p : Nat), p + ss.sum ≤ b.length → nsEnc ((nsRead ss b p).zip ss) = (b.drop p).take ss.sum ∧ ∀ y, y ∈ (nsRead ss b p).zip ss → numOk y.1 y.2 = true
  | [], b, p, _ => ⟨by simp [nsRead, nsEnc], by simp [nsRead]⟩
  | s :: ss, b, p, h => by
    rw [List.sum_cons] at h
    obtain ⟨h1, h2⟩ := getN_ok (b := b) (p := p) (s := s) (by omega)
    obtain ⟨h3, h4⟩ := nsEnc_read ss b (p + s) (by omega)
    rw [nsRead, List.zip_cons_cons]
    refine ⟨?_, ?_⟩
    · show beN _ s ++ nsEnc _ = _
      rw [h2, h3, List.sum_cons, List.take_add, List.drop_drop]
    · intro y hy
      rw [List.mem_cons] at hy
      rcases hy with rfl | hy
      · exact h1
      · exact h4 y hy
theorem wGet8_hi {b : List (BitVec 8)} (h : 8 ≤ b.length) : (wGet b 8).1.hi = 0#64 := by
  have h1 := wide_back b h
  have hl : (b.take 8).length = 8 := by rw [List.length_take]; omega
  have h2 : wN (wGet b 8).1 < 256 ^ 8 := by
    have : (wGet b 8).1 = wVal (b.take 8) := by unfold wGet; rw [if_pos (by omega)]
    rw [this, wVal_wN 8 _ hl (by omega)]
    exact valN_lt 8 _ hl
  unfold wN at h2
  refine BitVec.eq_of_toNat_eq ?_
  have : (256 : Nat) ^ 8 = 18446744073709551616 := by decide
  rw [this] at h2
  simp
  omega
def fmSizes : List Nat := [1, 1, 2, 2, 2, 4, 4, 4, 2]
def fmNums (m : FlowMod) : List Int := [m.table, m.command, m.idle, m.hard, m.prio, m.buffer, m.outPort, m.outGroup, m.flags]
def fmZip (m : FlowMod) : List (Int × Nat) := (fmNums m).zip fmSizes
def fmWrong (m : FlowMod) : Bool := m.insts.any fun i => i.acts.any fun a => a.kind == 25 && !mMet m.mat a.oxm.field
def fmCheck (m : FlowMod) : Option (Int × Int) :=
  if m.command < 0 ∨ 4 < m.command then some (5, 6) else if 31 < m.flags then some (5, 7) else if 2 < m.command then none else if fmWrong m = true then some (2, 10) else none
def fmRight (m : FlowMod) : Bool := (fmZip m).all (fun x => numOk x.1 x.2) && ((mEnc m.mat).2 == 0 && ((inEnc m.insts).2 == 0 && (fmCheck m).isNone))
def fmHead (m : FlowMod) : List (BitVec 8) := beN m.cookie.toNat 8 ++ (beN m.cookieMask.toNat 8 ++ (nsEnc (fmZip m) ++ List.replicate 2 0#8))
def fmEnc (m : FlowMod) : List (BitVec 8) × Int := if fmRight m = true then (fmHead m ++ ((mEnc m.mat).1 ++ (inEnc m.insts).1), 0) else ([], 1)
def flowMod0 : FlowMod := ⟨0#64, 0#64, 0, 0, 0, 0, 0, 0, 0, 0, 0, [], []⟩
/-- a change with numbers -/
def fmTake (c k : BitVec 64) (n : List Int) (l : List Oxm) (i : List Inst) : FlowMod := ⟨c, k, nth n 0, nth n 1, nth n 2, nth n 3, nth n 4, nth n 5, nth n 6, nth n 7, nth n 8, l, i⟩
def fmDec (b : List (BitVec 8)) : FlowMod × Option (Int × Int) :=
  if b.length < 40 then (flowMod0, some (1, 6)) else if allZ ((b.drop 38).take 2) = false then (flowMod0, some (1, 6)) else
  match (mDec (b.drop 40)).2.2 with
  | some c => (flowMod0, some c)
  | none => match (inDec (b.drop (40 + (mDec (b.drop 40)).2.1))).2 with
    | some c => (flowMod0, some c)
    | none => match fmCheck (fmTake (wGet b 8).1.lo (wGet (b.drop 8) 8).1.lo (nsRead fmSizes b 16) (mDec (b.drop 40)).1 (inDec (b.drop (40 + (mDec (b.drop 40)).2.1))).1) with
      | some c => (flowMod0, some c)
      | none => (fmTake (wGet b 8).1.lo (wGet (b.drop 8) 8).1.lo (nsRead fmSizes b 16) (mDec (b.drop 40)).1 (inDec (b.drop (40 + (mDec (b.drop 40)).2.1))).1, none)
theorem fmZip_sizes (m : FlowMod) : (fmZip m).map (·.2) = fmSizes := rfl
theorem fmZip_nums (m : FlowMod) : (fmZip m).map (·.1) = fmNums m := rfl
theorem fmHead_len (m : FlowMod) : (fmHead m).length = 40 := by
  have h := nsEnc_len (fmZip m)
  rw [fmZip_sizes] at h
  have : fmSizes.sum = 22 := rfl
  unfold fmHead; simp [beN_len, h, this]
structure FmFit (m : FlowMod) : Prop where
  nums : ∀ x, x ∈ fmZip m → numOk x.1 x.2 = true
  mat : (mEnc m.mat).2 = 0
  ins : (inEnc m.insts).2 = 0
  chk : fmCheck m = none
theorem fmRight_facts {m : FlowMod} (h : fmRight m = true) : FmFit m := by
  unfold fmRight at h
  rw [Bool.and_eq_true, Bool.and_eq_true, Bool.and_eq_true, beq_iff_eq, beq_iff_eq, List.all_eq_true] at h
  exact ⟨h.1, h.2.1, h.2.2.1, by simpa using h.2.2.2⟩
theorem fmRight_of {m : FlowMod} (h : FmFit m) : fmRight m = true := by
  unfold fmRight
  rw [Bool.and_eq_true, Bool.and_eq_true, Bool.and_eq_true, beq_iff_eq, beq_iff_eq, List.all_eq_true]
  exact ⟨h.nums, h.mat, h.ins, by rw [h.chk]; rfl⟩
theorem fmEnc_bad {m : FlowMod} (h : fmRight m = false) : fmEnc m = ([], 1) := by unfold fmEnc; rw [if_neg (by rw [h]; exact Bool.false_ne_true)]
theorem fmEnc_len (m : FlowMod) : (fmEnc m).1.length ≤ 61052 := by
  unfold fmEnc
  split
  · have h1 := fmHead_len m
    have h2 := mEnc_len m.mat
    have h3 := inEnc_len m.insts
    simp only [List.length_append]; omega
  · simp
theorem fmEnc_back {m : FlowMod} (h : fmRight m = true) : fmDec (fmEnc m).1 = (m, none) := by
  obtain ⟨h1, h2, h3, h4⟩ := fmRight_facts h
  have hm := mEnc_back h2 (inEnc m.insts).1
  have hi := inEnc_back h3
  unfold fmEnc
  rw [if_pos h]
  simp only
  have hh := fmHead_len m
  obtain ⟨B, hB⟩ : ∃ B, fmHead m ++ ((mEnc m.mat).1 ++ (inEnc m.insts).1) = B := ⟨_, rfl⟩
  have d40 : B.drop 40 = (mEnc m.mat).1 ++ (inEnc m.insts).1 := by
    rw [← hB, List.drop_append_of_le_length (by omega), List.drop_of_length_le (by omega), List.nil_append]
  have dk : B.drop (40 + (mEnc m.mat).1.length) = (inEnc m.insts).1 := by
    rw [← List.drop_drop, d40, List.drop_append_of_le_length (Nat.le_refl _), List.drop_length, List.nil_append]
  have hl : 40 ≤ B.length := by rw [← hB, List.length_append]; omega
  rw [hB]
  unfold fmHead at hB
  simp only [List.append_assoc] at hB
  have z38 : (B.drop 38).take 2 = List.replicate 2 0#8 := by
    have e : B = (beN m.cookie.toNat 8 ++ (beN m.cookieMask.toNat 8 ++ nsEnc (fmZip m))) ++ (List.replicate 2 0#8 ++ ((mEnc m.mat).1 ++ (inEnc m.insts).1)) := by rw [← hB]; simp only [List.append_assoc]
    have l38 : (beN m.cookie.toNat 8 ++ (beN m.cookieMask.toNat 8 ++ nsEnc (fmZip m))).length = 38 := by
      have h := nsEnc_len (fmZip m)
      rw [fmZip_sizes] at h
      have : fmSizes.sum = 22 := rfl
      simp [beN_len, h, this]
    rw [e, List.drop_append_of_le_length (by omega), List.drop_of_length_le (by omega), List.nil_append, List.take_append_of_le_length (by simp), List.take_of_length_le (by simp)]
  have wlo : ∀ c : BitVec 64, wN (w64 c) = c.toNat := fun c => by simp [wN, w64]
  have wok : ∀ c : BitVec 64, (wN (w64 c) : Int) < 256 ^ 8 := fun c => wN_low rfl
  have c0 : wGet B 8 = (w64 m.cookie, true) := by
    have := wGet_beN (w64 m.cookie) 8 (beN m.cookieMask.toNat 8 ++ (nsEnc (fmZip m) ++ (List.replicate 2 0#8 ++ ((mEnc m.mat).1 ++ (inEnc m.insts).1)))) (by omega) (wok _)
    rw [wlo, hB] at this
    exact this
  have d8 : B.drop 8 = beN m.cookieMask.toNat 8 ++ (nsEnc (fmZip m) ++ (List.replicate 2 0#8 ++ ((mEnc m.mat).1 ++ (inEnc m.insts).1))) := by
    rw [← hB, List.drop_append_of_le_length (by simp [beN_len]), List.drop_of_length_le (by simp [beN_len]), List.nil_append]
  have c1 : wGet (B.drop 8) 8 = (w64 m.cookieMask, true) := by
    have := wGet_beN (w64 m.cookieMask) 8 (nsEnc (fmZip m) ++ (List.replicate 2 0#8 ++ ((mEnc m.mat).1 ++ (inEnc m.insts).1))) (by omega) (wok _)
    rw [wlo, ← d8] at this
    exact this
  have ns : nsRead fmSizes B 16 = fmNums m := by
    have := nsRead_enc (fmZip m) B (beN m.cookie.toNat 8 ++ beN m.cookieMask.toNat 8) (List.replicate 2 0#8 ++ ((mEnc m.mat).1 ++ (inEnc m.insts).1)) 16 (by rw [← hB]; simp only [List.append_assoc]) (by simp [beN_len]) h1
    rw [fmZip_sizes, fmZip_nums] at this
    exact this
  unfold fmDec
  rw [if_neg (by omega), z38, if_neg (by rw [allZ_rep]; exact Bool.noConfusion), d40, hm]
  simp only
  rw [dk, hi]
  simp only
  rw [c0, c1, ns]
  show (match fmCheck m with | some c => (flowMod0, some c) | none => (m, none)) = _
  rw [h4]
theorem fmDec_bad {b : List (BitVec 8)} {m : FlowMod} {c : Int × Int} (h : fmDec b = (m, some c)) : m = flowMod0 := by
  unfold fmDec at h
  split at h
  · cases h; rfl
  split at h
  · cases h; rfl
  split at h
  · cases h; rfl
  split at h
  · cases h; rfl
  split at h
  · cases h; rfl
  · cases h
theorem fmDec_back {b : List (BitVec 8)} {m : FlowMod} (h : fmDec b = (m, none)) (hb : b.length ≤ 60000) : fmRight m = true ∧ fmEnc m = (b, 0) := by
  unfold fmDec at h
  split at h
  · cases h
  rename_i c0
  split at h
  · cases h
  rename_i c1
  rw [Bool.not_eq_false] at c1
  obtain ⟨l, n, c, hm⟩ : ∃ l n c, mDec (b.drop 40) = (l, n, c) := ⟨_, _, _, rfl⟩
  rw [hm] at h
  cases c with
  | some c => simp at h
  | none =>
  simp only at h
  obtain ⟨i, c, hi⟩ : ∃ i c, inDec (b.drop (40 + n)) = (i, c) := ⟨_, _, rfl⟩
  rw [hi] at h
  cases c with
  | some c => simp at h
  | none =>
  simp only at h
  split at h
  · cases h
  rename_i hck
  simp only [Prod.mk.injEq, and_true] at h
  subst h
  obtain ⟨g1, g2, g3, g4, g5⟩ := mDec_back hm
  have g6 := inDec_back hi (by rw [List.length_drop]; omega)
  rw [List.length_drop] at g1
  obtain ⟨n1, n2⟩ := nsEnc_read fmSizes b 16 (by show 16 + 22 ≤ b.length; omega)
  have hz : fmZip (fmTake (wGet b 8).1.lo (wGet (b.drop 8) 8).1.lo (nsRead fmSizes b 16) l i) = (nsRead fmSizes b 16).zip fmSizes := rfl
  have hfit : FmFit (fmTake (wGet b 8).1.lo (wGet (b.drop 8) 8).1.lo (nsRead fmSizes b 16) l i) := ⟨by rw [hz]; exact n2, by show (mEnc l).2 = 0; rw [g4], by show (inEnc i).2 = 0; rw [g6], hck⟩
  have hr := fmRight_of hfit
  refine ⟨hr, ?_⟩
  unfold fmEnc
  rw [if_pos hr]
  refine Prod.ext ?_ rfl
  show fmHead _ ++ ((mEnc l).1 ++ (inEnc i).1) = b
  rw [g4, g6]
  unfold fmHead
  rw [hz, n1]
  show beN (wGet b 8).1.lo.toNat 8 ++ (beN (wGet (b.drop 8) 8).1.lo.toNat 8 ++ _) ++ _ = b
  have w1 : ∀ B : List (BitVec 8), 8 ≤ B.length → beN (wGet B 8).1.lo.toNat 8 = B.take 8 := fun B hB => by
    have h1 := wide_back B hB
    have h2 := wGet8_hi hB
    unfold wN at h1
    rw [h2] at h1
    simpa using h1
  rw [w1 b (by omega), w1 (b.drop 8) (by rw [List.length_drop]; omega)]
  have hzr : List.replicate 2 0#8 = (b.drop 38).take 2 := by
    rw [allZ_iff] at c1
    rw [c1, List.length_take, List.length_drop, Nat.min_eq_left (by omega)]
  rw [hzr, show fmSizes.sum = 22 from rfl]
  have ta : ∀ p q r s : Nat, r = p + q → (b.drop p).take q ++ (b.drop r).take s = (b.drop p).take (q + s) := fun p q r s e => by subst e; rw [List.take_add, List.drop_drop]
  have t0 : b.take 8 = (b.drop 0).take 8 := by rw [List.drop_zero]
  rw [ta 16 22 38 2 rfl, ta 8 8 16 _ rfl, t0, ta 0 8 8 _ rfl, List.drop_zero, take_take_drop (b) 40 n (40 + n) rfl, List.take_append_drop]
end Go.Proofs.YtcccfbjkcahgfaaGreat
end

section
set_option linter.unusedVariables false
set_option linter.unusedSimpArgs false
namespace Go.Proofs.YtcccfbjkcahgfaaGreat
open Go Go.AI Go.Proofs
attribute [local irreducible] FnP FnO FnB FnT FnSeq WK RunQ RunQW RunX RunXW

theorem ibad_c (c : Int) : FnP Tryz.prog 136 [.int .i64 c] (.agg (gFault (some (3, c)))) := by
  refine FnP.intro Tryz.func136 rfl rfl fun G w => ?_
  repeat' (first
   | refine WK.seq ?_
   | (refine Hid.h hQ _ _ ?_; clear hQ hA)
   | (refine WK.regH Tryz.ntmps136 (by kernel_rfl) ?_; intro A hA Q hQ; simp [*])
   | (refine WK.ret Tryz.func136 ?_ ?_ <;> simp (maxDischargeDepth := 120) [Tryz.results136, gFault, *])
   | fail)
theorem or_zero64 (x y : BitVec 64) : ((x ||| y) == 0#64) = (x == 0#64 && y == 0#64) := by
  rw [Bool.eq_iff_iff, Bool.and_eq_true, beq_iff_eq, beq_iff_eq, beq_iff_eq]
  exact BitVec.or_eq_zero_iff
theorem imeta_c (i : Inst) : FnP Tryz.prog 167 [.agg i.enc] (.bool (inMeta i.value i.mask)) := by
  have l := less_c i.value i.mask
  have z := zero_c (i.value.less i.mask)
  have e : inMeta i.value i.mask = ((i.value.hi ||| i.mask.hi) == 0#64 && (i.value.less i.mask).zero) := by
    unfold inMeta; rw [or_zero64, Bool.and_assoc]
  obtain ⟨r, hr⟩ : ∃ r, (i.value.less i.mask).zero = r := ⟨_, rfl⟩
  rw [hr] at z e
  obtain ⟨q, hq⟩ : ∃ q, ((i.value.hi ||| i.mask.hi) == 0#64) = q := ⟨_, rfl⟩
  rw [hq] at e
  unfold Wide.enc at l z
  refine FnP.intro Tryz.func167 rfl rfl fun G w => ?_
  repeat' (first
   | refine WK.seq ?_
   | (refine Hid.h hQ _ _ ?_; clear hQ hA)
   | (refine Fork.mk (fun h => ?_) (fun h => ?_) <;> (first | (simp [*] at h; done) | (have h2 := h; simp at h2; exfalso; omega) | (have h2 := h; simp at h2; try simp only [Bool.not_eq_true', Bool.not_eq_false'] at h) | skip))
   | (refine WK.regH Tryz.ntmps167 (by kernel_rfl) ?_; intro A hA Q hQ; simp [Inst.enc, *])
   | (refine RunQ.gd rfl (by rw [hA.h]; rfl) ?_; simp [Inst.enc, *])
   | (refine RunQW.call rfl rfl rfl rfl ?_ (l) ?_ ?_; (focus (simp (maxDischargeDepth := 120) [Inst.enc, *]; done)); (focus (simp [Inst.enc, *]; done)); refine RunQ.evalH ?_; simp [Inst.enc, *])
   | (refine RunQW.call rfl rfl rfl rfl ?_ (z) ?_ ?_; (focus (simp (maxDischargeDepth := 120) [Inst.enc, *]; done)); (focus (simp [Inst.enc, *]; done)); refine RunQ.evalH ?_; simp [Inst.enc, *])
   | (refine WK.ret Tryz.func167 ?_ ?_ <;> simp (maxDischargeDepth := 120) [Tryz.results167, Inst.enc, *])
   | fail)
theorem iempty1_c (x : BitVec 8) : FnP Tryz.prog 200 [.int .u8 (bI x)] (.bool (!(x == 0#8))) := by
  have e := bI_zero x
  refine FnP.intro Tryz.func200 rfl rfl fun G w => ?_
  repeat' (first
   | refine WK.seq ?_
   | (refine Hid.h hQ _ _ ?_; clear hQ hA)
   | (refine WK.regH Tryz.ntmps200 (by kernel_rfl) ?_; intro A hA Q hQ; simp [bne, *])
   | (refine WK.ret Tryz.func200 ?_ ?_ <;> simp (maxDischargeDepth := 120) [Tryz.results200, bne, *])
   | fail)
theorem iempty_c (b : List (BitVec 8)) (hb : b.length ≤ 9223372036854775807) : FnP Tryz.prog 192 [byS b] (.bool (allZ b)) := by
  have hco := containsf_by 200 [] (fun x => !(x == 0#8)) b rfl hb (fun x _ => iempty1_c x)
  have e : allZ b = !(b.any fun x => !(x == 0#8)) := by rw [any_allZ]; simp
  rw [e]
  refine FnP.intro Tryz.func192 rfl rfl fun G w => ?_
  repeat' (first
   | refine WK.seq ?_
   | (refine Hid.h hQ _ _ ?_; clear hQ hA)
   | (refine WK.regH Tryz.ntmps192 (by kernel_rfl) ?_; intro A hA Q hQ; simp [*])
   | (refine RunQ.call rfl rfl rfl rfl rfl ?_ (hco) ?_ ?_; (focus (simp (maxDischargeDepth := 120) [*]; done)); (focus (simp [*]; done)); refine RunQ.evalH ?_; simp [*])
   | (refine WK.ret Tryz.func192 ?_ ?_ <;> simp (maxDischargeDepth := 120) [Tryz.results192, *])
   | fail)
theorem ilaid_c (k : Int) (b : List (BitVec 8)) (hb : b.length ≤ 1000000) (h8 : 8 ≤ b.length) : FnP Tryz.prog 166 [.int .i64 k, byS b] (.bool (inLaid k b)) := by
  have p5 := iempty_c (b.drop 5) (by rw [List.length_drop]; omega)
  have p4 := iempty_c (b.drop 4) (by rw [List.length_drop]; omega)
  have p44 := iempty_c ((b.drop 4).take 4) (by rw [List.length_take, List.length_drop]; omega)
  have s5 : ((byL b).drop 5).take (b.length - 5) = byL (b.drop 5) := by rw [byL_drop]; exact by_full _ _ (by rw [List.length_drop])
  have s4 : ((byL b).drop 4).take (b.length - 4) = byL (b.drop 4) := by rw [byL_drop]; exact by_full _ _ (by rw [List.length_drop])
  have s44 : ((byL b).drop 4).take 4 = byL ((b.drop 4).take 4) := by rw [byL_drop, byL_take]
  have l44 : ((b.drop 4).take 4).length = 4 := by rw [List.length_take, List.length_drop]; omega
  have u5 : (5 : Int) ≤ b.length := by omega
  have u4 : (4 : Int) ≤ b.length := by omega
  have u8 : (8 : Int) ≤ b.length := by omega
  have z8 : ((b.length : Int) == 8) = (b.length == 8) := by rw [Bool.eq_iff_iff, beq_iff_eq, beq_iff_eq]; omega
  have z24 : ((b.length : Int) == 24) = (b.length == 24) := by rw [Bool.eq_iff_iff, beq_iff_eq, beq_iff_eq]; omega
  obtain ⟨q8, hq8⟩ : ∃ q, (b.length == 8) = q := ⟨_, rfl⟩
  obtain ⟨q24, hq24⟩ : ∃ q, (b.length == 24) = q := ⟨_, rfl⟩
  have hdef : inLaid k b = if k = 1 then q8 && allZ (b.drop 5) else if k = 2 then q24 && allZ ((b.drop 4).take 4) else if k = 5 then q8 && allZ (b.drop 4) else allZ ((b.drop 4).take 4) := by
    unfold inLaid; rw [hq8, hq24]
  rw [hq8] at z8
  rw [hq24] at z24
  simp only [byS, List.length_drop, l44] at p5 p4 p44 ⊢
  obtain ⟨a5, ha5⟩ : ∃ q, allZ (b.drop 5) = q := ⟨_, rfl⟩
  obtain ⟨a4, ha4⟩ : ∃ q, allZ (b.drop 4) = q := ⟨_, rfl⟩
  obtain ⟨a44, ha44⟩ : ∃ q, allZ ((b.drop 4).take 4) = q := ⟨_, rfl⟩
  rw [ha5] at p5 hdef
  rw [ha4] at p4 hdef
  rw [ha44] at p44 hdef
  obtain ⟨B5, hB5⟩ : ∃ q, b.drop 5 = q := ⟨_, rfl⟩
  obtain ⟨B44, hB44⟩ : ∃ q, (b.drop 4).take 4 = q := ⟨_, rfl⟩
  rw [hB44] at p44 s44
  obtain ⟨B4, hB4⟩ : ∃ q, b.drop 4 = q := ⟨_, rfl⟩
  rw [hB5] at p5 s5
  rw [hB4] at p4 s4
  rw [hdef]
  clear ha5 ha4 ha44 hdef l44 hq8 hq24 hB5 hB4 hB44
  refine FnP.intro Tryz.func166 rfl rfl fun G w => ?_
  by_cases k1 : k = 1
  · subst k1
    repeat' (first
     | refine WK.seq ?_
     | refine WK.block ?_
     | refine WK.condT rfl ?_
     | (refine Hid.h hQ _ _ ?_; clear hQ hA)
     | (refine Fork.mk (fun h => ?_) (fun h => ?_) <;> (first | (simp [*] at h; done) | (have h2 := h; simp at h2; exfalso; omega) | (have h2 := h; simp at h2; try simp only [Bool.not_eq_true', Bool.not_eq_false'] at h) | skip))
     | (refine WK.regH Tryz.ntmps166 (by kernel_rfl) ?_; intro A hA Q hQ; simp [*])
     | (refine RunQ.gd rfl (by rw [hA.h]; rfl) ?_; simp [*])
     | (refine RunQW.call rfl rfl rfl rfl ?_ (p5) ?_ ?_; (focus (simp (maxDischargeDepth := 120) [*]; done)); (focus (simp [*]; done)); refine RunQ.evalH ?_; simp [*])
     | (refine WK.ret Tryz.func166 ?_ ?_ <;> simp (maxDischargeDepth := 120) [Tryz.results166, *])
     | fail)
  have j1 : (k == 1) = false := by simpa using k1
  by_cases k2 : k = 2
  · subst k2
    repeat' (first
     | refine WK.seq ?_
     | refine WK.block ?_
     | refine WK.condT rfl ?_
     | refine WK.condF rfl ?_
     | (refine Hid.h hQ _ _ ?_; clear hQ hA)
     | (refine Fork.mk (fun h => ?_) (fun h => ?_) <;> (first | (simp [*] at h; done) | (have h2 := h; simp at h2; exfalso; omega) | (have h2 := h; simp at h2; try simp only [Bool.not_eq_true', Bool.not_eq_false'] at h) | skip))
     | (refine WK.regH Tryz.ntmps166 (by kernel_rfl) ?_; intro A hA Q hQ; simp [*])
     | (refine RunQ.gd rfl (by rw [hA.h]; rfl) ?_; simp [*])
     | (refine RunQW.call rfl rfl rfl rfl ?_ (p44) ?_ ?_; (focus (simp (maxDischargeDepth := 120) [*]; done)); (focus (simp [*]; done)); refine RunQ.evalH ?_; simp [*])
     | (refine WK.ret Tryz.func166 ?_ ?_ <;> simp (maxDischargeDepth := 120) [Tryz.results166, *])
     | fail)
  have j2 : (k == 2) = false := by simpa using k2
  by_cases k5 : k = 5
  · subst k5
    repeat' (first
     | refine WK.seq ?_
     | refine WK.block ?_
     | refine WK.condT rfl ?_
     | refine WK.condF rfl ?_
     | (refine Hid.h hQ _ _ ?_; clear hQ hA)
     | (refine Fork.mk (fun h => ?_) (fun h => ?_) <;> (first | (simp [*] at h; done) | (have h2 := h; simp at h2; exfalso; omega) | (have h2 := h; simp at h2; try simp only [Bool.not_eq_true', Bool.not_eq_false'] at h) | skip))
     | (refine WK.regH Tryz.ntmps166 (by kernel_rfl) ?_; intro A hA Q hQ; simp [*])
     | (refine RunQ.gd rfl (by rw [hA.h]; rfl) ?_; simp [*])
     | (refine RunQW.call rfl rfl rfl rfl ?_ (p4) ?_ ?_; (focus (simp (maxDischargeDepth := 120) [*]; done)); (focus (simp [*]; done)); refine RunQ.evalH ?_; simp [*])
     | (refine WK.ret Tryz.func166 ?_ ?_ <;> simp (maxDischargeDepth := 120) [Tryz.results166, *])
     | fail)
  have j5 : (k == 5) = false := by simpa using k5
  repeat' (first
   | refine WK.seq ?_
   | refine WK.block ?_
   | refine WK.inBlock ?_
   | refine WK.skip ?_
   | refine WK.condF rfl ?_
   | (refine Hid.h hQ _ _ ?_; clear hQ hA)
   | (refine WK.regH Tryz.ntmps166 (by kernel_rfl) ?_; intro A hA Q hQ; simp [*])
   | (refine RunQ.call rfl rfl rfl rfl rfl ?_ (p44) ?_ ?_; (focus (simp (maxDischargeDepth := 120) [*]; done)); (focus (simp [*]; done)); refine RunQ.evalH ?_; simp [*])
   | (refine WK.ret Tryz.func166 ?_ ?_ <;> simp (maxDischargeDepth := 120) [Tryz.results166, *])
   | fail)
set_option maxHeartbeats 4000000 in
theorem icut_c (b : List (BitVec 8)) (hb : b.length ≤ 1000000) : FnP Tryz.prog 135 [byS b] (.tup [.int .i64 (inCut b).1, byS (b.take (inCut b).2.1), .agg (gFault (inCut b).2.2)]) := by
  have b7 := ibad_c 7
  have b1 := ibad_c 1
  have b0 := ibad_c 0
  have g0 := nget_c b 0 2 Sz2 (by omega) (by omega)
  have g1 := nget_c b 2 2 Sz2 (by omega) (by omega)
  by_cases c0 : b.length < 8
  · have e : inCut b = (0, 0, some (3, 7)) := by unfold inCut; rw [if_pos c0]
    have c0' : (b.length : Int) < 8 := by omega
    obtain ⟨q0, hq0⟩ : ∃ q, getN b 0 2 = q := ⟨_, rfl⟩
    obtain ⟨q1, hq1⟩ : ∃ q, getN b 2 2 = q := ⟨_, rfl⟩
    rw [hq0] at g0
    rw [hq1] at g1
    rw [e]
    simp only [byS, List.take_zero, List.length_nil, byL_nil] at *
    clear b1 b0 hq0 hq1
    refine FnP.intro Tryz.func135 rfl rfl fun G w => ?_
    repeat' (first
     | refine WK.seq ?_
     | refine WK.block ?_
     | refine WK.condT rfl ?_
     | (refine Hid.h hQ _ _ ?_; clear hQ hA)
     | (refine WK.regH Tryz.ntmps135 (by kernel_rfl) ?_; intro A hA Q hQ; simp [gFault, *])
     | (refine RunQ.gd rfl (by rw [hA.h]; rfl) ?_; simp [gFault, *])
     | (refine RunQ.call rfl rfl rfl rfl rfl ?_ (g0) ?_ ?_; (focus (simp (maxDischargeDepth := 120) [gFault, *]; done)); (focus (simp [gFault, *]; done)); refine RunQ.evalH ?_; simp [gFault, *])
     | (refine RunQ.call rfl rfl rfl rfl rfl ?_ (g1) ?_ ?_; (focus (simp (maxDischargeDepth := 120) [gFault, *]; done)); (focus (simp [gFault, *]; done)); refine RunQ.evalH ?_; simp [gFault, *])
     | (refine RunQ.call rfl rfl rfl rfl rfl ?_ (b7) ?_ ?_; (focus (simp (maxDischargeDepth := 120) [gFault, *]; done)); (focus (simp [gFault, *]; done)); refine RunQ.evalH ?_; simp [gFault, *])
     | (refine WK.ret Tryz.func135 ?_ ?_ <;> simp (maxDischargeDepth := 120) [Tryz.results135, gFault, *])
     | fail)
  have c0' : ¬ (b.length : Int) < 8 := by omega
  have hlt : valN ((b.drop 2).take 2) < 65536 := valN_lt 2 _ (by simp; omega)
  have hlk : valN ((b.drop 0).take 2) < 65536 := valN_lt 2 _ (by simp; omega)
  have hdef : inCut b = if valN ((b.drop 2).take 2) < 8 ∨ ¬ valN ((b.drop 2).take 2) % 8 = 0 ∨ b.length < valN ((b.drop 2).take 2) then (0, 0, some (3, 7))
    else if valN ((b.drop 0).take 2) = 6 then (0, 0, some (3, 1))
    else if valN ((b.drop 0).take 2) < 1 ∨ 5 < valN ((b.drop 0).take 2) then (0, 0, some (3, 0))
    else if inLaid (valN ((b.drop 0).take 2)) (b.take (valN ((b.drop 2).take 2))) = false then (0, 0, some (3, 7))
    else ((valN ((b.drop 0).take 2) : Int), valN ((b.drop 2).take 2), none) := by unfold inCut; rw [if_neg c0]
  rw [getN_val (by omega)] at g0 g1
  obtain ⟨n, hn⟩ : ∃ n, valN ((b.drop 2).take 2) = n := ⟨_, rfl⟩
  obtain ⟨k, hk⟩ : ∃ k, valN ((b.drop 0).take 2) = k := ⟨_, rfl⟩
  rw [hn] at g1 hdef hlt
  rw [hk] at g0 hdef hlk
  clear hn hk
  have m7 := bAnd7 n hlt
  have z7 : (((n % 8 : Nat) : Int) == 0) = (n % 8 == 0) := by rw [Bool.eq_iff_iff, beq_iff_eq, beq_iff_eq]; omega
  by_cases c1 : n < 8
  · have e : inCut b = (0, 0, some (3, 7)) := by rw [hdef, if_pos (.inl (by omega))]
    have d1 : (n : Int) < 8 := by omega
    rw [e]
    simp only [byS, List.take_zero, List.length_nil, byL_nil] at *
    clear hdef b1 b0
    refine FnP.intro Tryz.func135 rfl rfl fun G w => ?_
    repeat' (first
     | refine WK.seq ?_
     | refine WK.block ?_
     | refine WK.condT rfl ?_
     | (refine Hid.h hQ _ _ ?_; clear hQ hA)
     | (refine WK.regH Tryz.ntmps135 (by kernel_rfl) ?_; intro A hA Q hQ; simp [gFault, *])
     | (refine RunQ.gd rfl (by rw [hA.h]; rfl) ?_; simp [gFault, *])
     | (refine RunQ.call rfl rfl rfl rfl rfl ?_ (g0) ?_ ?_; (focus (simp (maxDischargeDepth := 120) [gFault, *]; done)); (focus (simp [gFault, *]; done)); refine RunQ.evalH ?_; simp [gFault, *])
     | (refine RunQ.call rfl rfl rfl rfl rfl ?_ (g1) ?_ ?_; (focus (simp (maxDischargeDepth := 120) [gFault, *]; done)); (focus (simp [gFault, *]; done)); refine RunQ.evalH ?_; simp [gFault, *])
     | (refine RunQ.call rfl rfl rfl rfl rfl ?_ (b7) ?_ ?_; (focus (simp (maxDischargeDepth := 120) [gFault, *]; done)); (focus (simp [gFault, *]; done)); refine RunQ.evalH ?_; simp [gFault, *])
     | (refine WK.ret Tryz.func135 ?_ ?_ <;> simp (maxDischargeDepth := 120) [Tryz.results135, gFault, *])
     | fail)
  have d1 : ¬ (n : Int) < 8 := by omega
  by_cases c2 : n % 8 = 0
  case neg =>
    have e : inCut b = (0, 0, some (3, 7)) := by rw [hdef, if_pos (.inr (.inl (by omega)))]
    have d2 : (n % 8 == 0) = false := by simpa using c2
    rw [d2] at z7
    rw [e]
    simp only [byS, List.take_zero, List.length_nil, byL_nil] at *
    obtain ⟨r, hr⟩ : ∃ r, n % 8 = r := ⟨_, rfl⟩
    rw [hr] at m7 z7
    clear hdef hr c2 d2 b1 b0
    refine FnP.intro Tryz.func135 rfl rfl fun G w => ?_
    repeat' (first
     | refine WK.seq ?_
     | refine WK.block ?_
     | refine WK.condT rfl ?_
     | (refine Hid.h hQ _ _ ?_; clear hQ hA)
     | (refine WK.regH Tryz.ntmps135 (by kernel_rfl) ?_; intro A hA Q hQ; simp [gFault, bne, *])
     | (refine RunQ.gd rfl (by rw [hA.h]; rfl) ?_; simp [gFault, bne, *])
     | (refine RunQ.call rfl rfl rfl rfl rfl ?_ (g0) ?_ ?_; (focus (simp (maxDischargeDepth := 120) [gFault, bne, *]; done)); (focus (simp [gFault, bne, *]; done)); refine RunQ.evalH ?_; simp [gFault, bne, *])
     | (refine RunQ.call rfl rfl rfl rfl rfl ?_ (g1) ?_ ?_; (focus (simp (maxDischargeDepth := 120) [gFault, bne, *]; done)); (focus (simp [gFault, bne, *]; done)); refine RunQ.evalH ?_; simp [gFault, bne, *])
     | (refine RunQ.call rfl rfl rfl rfl rfl ?_ (b7) ?_ ?_; (focus (simp (maxDischargeDepth := 120) [gFault, bne, *]; done)); (focus (simp [gFault, bne, *]; done)); refine RunQ.evalH ?_; simp [gFault, bne, *])
     | (refine WK.ret Tryz.func135 ?_ ?_ <;> simp (maxDischargeDepth := 120) [Tryz.results135, gFault, bne, *])
     | fail)
  have d2 : (n % 8 == 0) = true := by simpa using c2
  rw [d2] at z7
  by_cases c3 : b.length < n
  · have e : inCut b = (0, 0, some (3, 7)) := by rw [hdef, if_pos (.inr (.inr (by omega)))]
    have d3 : (b.length : Int) < n := by omega
    rw [e]
    simp only [byS, List.take_zero, List.length_nil, byL_nil] at *
    obtain ⟨r, hr⟩ : ∃ r, n % 8 = r := ⟨_, rfl⟩
    rw [hr] at m7 z7
    clear hdef hr c2 d2 b1 b0
    refine FnP.intro Tryz.func135 rfl rfl fun G w => ?_
    repeat' (first
     | refine WK.seq ?_
     | refine WK.block ?_
     | refine WK.condT rfl ?_
     | (refine Hid.h hQ _ _ ?_; clear hQ hA)
     | (refine WK.regH Tryz.ntmps135 (by kernel_rfl) ?_; intro A hA Q hQ; simp [gFault, bne, *])
     | (refine RunQ.gd rfl (by rw [hA.h]; rfl) ?_; simp [gFault, bne, *])
     | (refine RunQ.call rfl rfl rfl rfl rfl ?_ (g0) ?_ ?_; (focus (simp (maxDischargeDepth := 120) [gFault, bne, *]; done)); (focus (simp [gFault, bne, *]; done)); refine RunQ.evalH ?_; simp [gFault, bne, *])
     | (refine RunQ.call rfl rfl rfl rfl rfl ?_ (g1) ?_ ?_; (focus (simp (maxDischargeDepth := 120) [gFault, bne, *]; done)); (focus (simp [gFault, bne, *]; done)); refine RunQ.evalH ?_; simp [gFault, bne, *])
     | (refine RunQ.call rfl rfl rfl rfl rfl ?_ (b7) ?_ ?_; (focus (simp (maxDischargeDepth := 120) [gFault, bne, *]; done)); (focus (simp [gFault, bne, *]; done)); refine RunQ.evalH ?_; simp [gFault, bne, *])
     | (refine WK.ret Tryz.func135 ?_ ?_ <;> simp (maxDischargeDepth := 120) [Tryz.results135, gFault, bne, *])
     | fail)
  have d3 : ¬ (b.length : Int) < n := by omega
  rw [if_neg (by rintro (h | h | h); omega; exact h c2; omega)] at hdef
  obtain ⟨r, hr⟩ : ∃ r, n % 8 = r := ⟨_, rfl⟩
  rw [hr] at m7 z7
  clear hr c2 d2
  by_cases k6 : k = 6
  · subst k6
    rw [if_pos rfl] at hdef
    rw [hdef]
    simp only [byS, List.take_zero, List.length_nil, byL_nil] at *
    clear hdef b0 b7
    refine FnP.intro Tryz.func135 rfl rfl fun G w => ?_
    repeat' (first
     | refine WK.seq ?_
     | refine WK.block ?_
     | refine WK.condT rfl ?_
     | refine WK.condF rfl ?_
     | (refine Hid.h hQ _ _ ?_; clear hQ hA)
     | (refine WK.regH Tryz.ntmps135 (by kernel_rfl) ?_; intro A hA Q hQ; simp [gFault, bne, *])
     | (refine RunQ.gd rfl (by rw [hA.h]; rfl) ?_; simp [gFault, bne, *])
     | (refine RunQ.call rfl rfl rfl rfl rfl ?_ (g0) ?_ ?_; (focus (simp (maxDischargeDepth := 120) [gFault, bne, *]; done)); (focus (simp [gFault, bne, *]; done)); refine RunQ.evalH ?_; simp [gFault, bne, *])
     | (refine RunQ.call rfl rfl rfl rfl rfl ?_ (g1) ?_ ?_; (focus (simp (maxDischargeDepth := 120) [gFault, bne, *]; done)); (focus (simp [gFault, bne, *]; done)); refine RunQ.evalH ?_; simp [gFault, bne, *])
     | (refine RunQ.call rfl rfl rfl rfl rfl ?_ (b1) ?_ ?_; (focus (simp (maxDischargeDepth := 120) [gFault, bne, *]; done)); (focus (simp [gFault, bne, *]; done)); refine RunQ.evalH ?_; simp [gFault, bne, *])
     | (refine WK.ret Tryz.func135 ?_ ?_ <;> simp (maxDischargeDepth := 120) [Tryz.results135, gFault, bne, *])
     | fail)
  have j6 : ((k : Int) == 6) = false := by rw [beq_eq_false_iff_ne]; omega
  rw [if_neg k6] at hdef
  by_cases k0 : k < 1
  · rw [if_pos (.inl k0)] at hdef
    have j0 : (k : Int) < 1 := by omega
    rw [hdef]
    simp only [byS, List.take_zero, List.length_nil, byL_nil] at *
    clear hdef b1 b7 k6
    refine FnP.intro Tryz.func135 rfl rfl fun G w => ?_
    repeat' (first
     | refine WK.seq ?_
     | refine WK.block ?_
     | refine WK.condT rfl ?_
     | refine WK.condF rfl ?_
     | (refine Hid.h hQ _ _ ?_; clear hQ hA)
     | (refine WK.regH Tryz.ntmps135 (by kernel_rfl) ?_; intro A hA Q hQ; simp [gFault, bne, *])
     | (refine RunQ.gd rfl (by rw [hA.h]; rfl) ?_; simp [gFault, bne, *])
     | (refine RunQ.call rfl rfl rfl rfl rfl ?_ (g0) ?_ ?_; (focus (simp (maxDischargeDepth := 120) [gFault, bne, *]; done)); (focus (simp [gFault, bne, *]; done)); refine RunQ.evalH ?_; simp [gFault, bne, *])
     | (refine RunQ.call rfl rfl rfl rfl rfl ?_ (g1) ?_ ?_; (focus (simp (maxDischargeDepth := 120) [gFault, bne, *]; done)); (focus (simp [gFault, bne, *]; done)); refine RunQ.evalH ?_; simp [gFault, bne, *])
     | (refine RunQ.call rfl rfl rfl rfl rfl ?_ (b0) ?_ ?_; (focus (simp (maxDischargeDepth := 120) [gFault, bne, *]; done)); (focus (simp [gFault, bne, *]; done)); refine RunQ.evalH ?_; simp [gFault, bne, *])
     | (refine WK.ret Tryz.func135 ?_ ?_ <;> simp (maxDischargeDepth := 120) [Tryz.results135, gFault, bne, *])
     | fail)
  have j0 : ¬ (k : Int) < 1 := by omega
  by_cases k5 : 5 < k
  · rw [if_pos (.inr k5)] at hdef
    have j5 : (5 : Int) < k := by omega
    rw [hdef]
    simp only [byS, List.take_zero, List.length_nil, byL_nil] at *
    clear hdef b1 b7 k6
    refine FnP.intro Tryz.func135 rfl rfl fun G w => ?_
    repeat' (first
     | refine WK.seq ?_
     | refine WK.block ?_
     | refine WK.condT rfl ?_
     | refine WK.condF rfl ?_
     | (refine Hid.h hQ _ _ ?_; clear hQ hA)
     | (refine WK.regH Tryz.ntmps135 (by kernel_rfl) ?_; intro A hA Q hQ; simp [gFault, bne, *])
     | (refine RunQ.gd rfl (by rw [hA.h]; rfl) ?_; simp [gFault, bne, *])
     | (refine RunQ.call rfl rfl rfl rfl rfl ?_ (g0) ?_ ?_; (focus (simp (maxDischargeDepth := 120) [gFault, bne, *]; done)); (focus (simp [gFault, bne, *]; done)); refine RunQ.evalH ?_; simp [gFault, bne, *])
     | (refine RunQ.call rfl rfl rfl rfl rfl ?_ (g1) ?_ ?_; (focus (simp (maxDischargeDepth := 120) [gFault, bne, *]; done)); (focus (simp [gFault, bne, *]; done)); refine RunQ.evalH ?_; simp [gFault, bne, *])
     | (refine RunQ.call rfl rfl rfl rfl rfl ?_ (b0) ?_ ?_; (focus (simp (maxDischargeDepth := 120) [gFault, bne, *]; done)); (focus (simp [gFault, bne, *]; done)); refine RunQ.evalH ?_; simp [gFault, bne, *])
     | (refine WK.ret Tryz.func135 ?_ ?_ <;> simp (maxDischargeDepth := 120) [Tryz.results135, gFault, bne, *])
     | fail)
  have j5 : ¬ (5 : Int) < k := by omega
  rw [if_neg (by omega)] at hdef
  have hl := ilaid_c k (b.take n) (by rw [List.length_take]; omega) (by rw [List.length_take]; omega)
  have hs : (byL b).take n = byL (b.take n) := byL_take _ _
  have hsl : (b.take n).length = n := by rw [List.length_take]; omega
  obtain ⟨q, hq⟩ : ∃ q, inLaid k (b.take n) = q := ⟨_, rfl⟩
  rw [hq] at hl hdef
  have d4 : (n : Int) ≤ b.length := by omega
  cases q
  · rw [if_pos rfl] at hdef
    rw [hdef]
    simp only [byS, List.take_zero, List.length_nil, byL_nil, hsl] at *
    clear hdef b1 b0 k6 hq k0 k5
    refine FnP.intro Tryz.func135 rfl rfl fun G w => ?_
    repeat' (first
     | refine WK.seq ?_
     | refine WK.block ?_
     | refine WK.condT rfl ?_
     | refine WK.condF rfl ?_
     | (refine Hid.h hQ _ _ ?_; clear hQ hA)
     | (refine WK.regH Tryz.ntmps135 (by kernel_rfl) ?_; intro A hA Q hQ; simp [gFault, bne, *])
     | (refine RunQ.gd rfl (by rw [hA.h]; rfl) ?_; simp [gFault, bne, *])
     | (refine RunQ.call rfl rfl rfl rfl rfl ?_ (g0) ?_ ?_; (focus (simp (maxDischargeDepth := 120) [gFault, bne, *]; done)); (focus (simp [gFault, bne, *]; done)); refine RunQ.evalH ?_; simp [gFault, bne, *])
     | (refine RunQ.call rfl rfl rfl rfl rfl ?_ (g1) ?_ ?_; (focus (simp (maxDischargeDepth := 120) [gFault, bne, *]; done)); (focus (simp [gFault, bne, *]; done)); refine RunQ.evalH ?_; simp [gFault, bne, *])
     | (refine RunQ.call rfl rfl rfl rfl rfl ?_ (hl) ?_ ?_; (focus (simp (maxDischargeDepth := 120) [gFault, bne, *]; done)); (focus (simp [gFault, bne, *]; done)); refine RunQ.evalH ?_; simp [gFault, bne, *])
     | (refine RunQ.call rfl rfl rfl rfl rfl ?_ (b7) ?_ ?_; (focus (simp (maxDischargeDepth := 120) [gFault, bne, *]; done)); (focus (simp [gFault, bne, *]; done)); refine RunQ.evalH ?_; simp [gFault, bne, *])
     | (refine WK.ret Tryz.func135 ?_ ?_ <;> simp (maxDischargeDepth := 120) [Tryz.results135, gFault, bne, *])
     | fail)
  · rw [if_neg (by simp)] at hdef
    rw [hdef]
    simp only [byS, hsl] at *
    clear hdef b1 b0 k6 hq k0 k5 b7
    refine FnP.intro Tryz.func135 rfl rfl fun G w => ?_
    repeat' (first
     | refine WK.seq ?_
     | refine WK.block ?_
     | refine WK.inBlock ?_
     | refine WK.skip ?_
     | refine WK.condF rfl ?_
     | (refine Hid.h hQ _ _ ?_; clear hQ hA)
     | (refine WK.regH Tryz.ntmps135 (by kernel_rfl) ?_; intro A hA Q hQ; simp [gFault, bne, *])
     | (refine WK.regX (by kernel_rfl) Tryz.ntmps135 (by kernel_rfl) ?_; intro A hA Q hQ; simp [gFault, bne, *])
     | (refine Hid.h hQ _ _ _ (by decide +kernel) ?_; clear hQ hA)
     | (refine RunQ.gd rfl (by rw [hA.h]; rfl) ?_; simp [gFault, bne, *])
     | (refine RunQ.call rfl rfl rfl rfl rfl ?_ (g0) ?_ ?_; (focus (simp (maxDischargeDepth := 120) [gFault, bne, *]; done)); (focus (simp [gFault, bne, *]; done)); refine RunQ.evalH ?_; simp [gFault, bne, *])
     | (refine RunQ.call rfl rfl rfl rfl rfl ?_ (g1) ?_ ?_; (focus (simp (maxDischargeDepth := 120) [gFault, bne, *]; done)); (focus (simp [gFault, bne, *]; done)); refine RunQ.evalH ?_; simp [gFault, bne, *])
     | (refine RunQ.call rfl rfl rfl rfl rfl ?_ (hl) ?_ ?_; (focus (simp (maxDischargeDepth := 120) [gFault, bne, *]; done)); (focus (simp [gFault, bne, *]; done)); refine RunQ.evalH ?_; simp [gFault, bne, *])
     | (refine WK.ret Tryz.func135 ?_ ?_ <;> simp (maxDischargeDepth := 120) [Tryz.results135, gFault, bne, *])
     | fail)
end Go.Proofs.YtcccfbjkcahgfaaGreat
end
