/- Buckets: what may be, and their bytes, by the program and by the reference. -/
import Derived.Test.YteonfhnljphbpaaGreatWk10
set_option linter.all false
set_option linter.unnecessarySimpa false
section
set_option linter.unusedVariables false
set_option linter.unusedSimpArgs false
namespace Go.Proofs.YteonfhnljphbpaaGreat
open Go Go.AI Go.Proofs
attribute [local irreducible] FnP FnO FnB FnT FnSeq WK RunQ RunQW RunX RunXW

theorem bright_c (x : Bucket) (hx : x.acts.length ≤ 1000000) : FnP Tryz.prog 79 [.agg x.enc] (.bool (bkRight x)) := by
  have p := acencP_c x.acts hx
  have n1 := nright_c x.weight 2 Sz2
  have n2 := nright_c x.watch 4 Sz4
  have n3 := nright_c x.wgroup 4 Sz4
  have e : bkRight x = ((acEnc x.acts).2 == 0 && (numOk x.weight 2 && (numOk x.watch 4 && numOk x.wgroup 4))) := rfl
  obtain ⟨R, hR⟩ : ∃ R, acEnc x.acts = R := ⟨_, rfl⟩
  rw [hR] at p e
  unfold byS actS at p
  refine FnP.intro Tryz.func79 rfl rfl fun G w => ?_
  repeat' (first
   | refine WK.seq ?_
   | refine WK.block ?_
   | refine WK.inBlock ?_
   | refine WK.skip ?_
   | refine WK.label ?_
   | refine WK.scope ?_
   | refine WK.inScope ?_
   | refine WK.exit rfl ?_
   | refine WK.condT rfl ?_
   | refine WK.condF rfl ?_
   | (refine Hid.h hQ _ _ ?_; clear hQ hA)
   | refine WK.condAny rfl ?_ ?_
   | ((first | refine WK.cond2 rfl (fun h => ?_) (fun h => ?_) | refine Fork.mk (fun h => ?_) (fun h => ?_)) <;> (first | (simp [*] at h; done) | (have h2 := h; simp at h2; exfalso; omega) | (have h2 := h; simp at h2; try simp only [Bool.not_eq_true', Bool.not_eq_false'] at h) | skip))
   | (refine WK.regH Tryz.ntmps79 (by kernel_rfl) ?_; intro A hA Q hQ; simp [Bucket.enc, *])
   | (refine RunQ.gd rfl (by rw [hA.h]; rfl) ?_; simp [Bucket.enc, *])
   | ((first | ((first | refine RunQ.call rfl rfl rfl rfl rfl ?_ (p) ?_ ?_ | refine RunQW.call rfl rfl rfl rfl ?_ (p) ?_ ?_); (focus (simp (maxDischargeDepth := 120) [Bucket.enc, *]; done))) | ((first | refine RunQ.call rfl rfl rfl rfl rfl ?_ (n1) ?_ ?_ | refine RunQW.call rfl rfl rfl rfl ?_ (n1) ?_ ?_); (focus (simp (maxDischargeDepth := 120) [Bucket.enc, *]; done))) | ((first | refine RunQ.call rfl rfl rfl rfl rfl ?_ (n2) ?_ ?_ | refine RunQW.call rfl rfl rfl rfl ?_ (n2) ?_ ?_); (focus (simp (maxDischargeDepth := 120) [Bucket.enc, *]; done))) | ((first | refine RunQ.call rfl rfl rfl rfl rfl ?_ (n3) ?_ ?_ | refine RunQW.call rfl rfl rfl rfl ?_ (n3) ?_ ?_); (focus (simp (maxDischargeDepth := 120) [Bucket.enc, *]; done)))); (focus (simp [Bucket.enc, *]; done)); refine RunQ.evalH ?_; simp [Bucket.enc, *])
   | (refine WK.ret Tryz.func79 ?_ ?_ <;> simp (maxDischargeDepth := 120) [Tryz.results79, Bucket.enc, *])
   | fail)
theorem rbright_c (x : Bucket) (hx : x.acts.length ≤ 1000000) : FnP Tryz.prog 80 [.agg x.enc] (.bool (bkRight x)) := by
  have p := racencP_c x.acts hx
  have n1 := rright_c x.weight 2 Sz2
  have n2 := rright_c x.watch 4 Sz4
  have n3 := rright_c x.wgroup 4 Sz4
  have e : bkRight x = ((acEnc x.acts).2 == 0 && (numOk x.weight 2 && (numOk x.watch 4 && numOk x.wgroup 4))) := rfl
  obtain ⟨R, hR⟩ : ∃ R, acEnc x.acts = R := ⟨_, rfl⟩
  rw [hR] at p e
  unfold byS actS at p
  refine FnP.intro Tryz.func80 rfl rfl fun G w => ?_
  repeat' (first
   | refine WK.seq ?_
   | refine WK.block ?_
   | refine WK.inBlock ?_
   | refine WK.skip ?_
   | refine WK.label ?_
   | refine WK.scope ?_
   | refine WK.inScope ?_
   | refine WK.exit rfl ?_
   | refine WK.condT rfl ?_
   | refine WK.condF rfl ?_
   | (refine Hid.h hQ _ _ ?_; clear hQ hA)
   | refine WK.condAny rfl ?_ ?_
   | ((first | refine WK.cond2 rfl (fun h => ?_) (fun h => ?_) | refine Fork.mk (fun h => ?_) (fun h => ?_)) <;> (first | (simp [*] at h; done) | (have h2 := h; simp at h2; exfalso; omega) | (have h2 := h; simp at h2; try simp only [Bool.not_eq_true', Bool.not_eq_false'] at h) | skip))
   | (refine WK.regH Tryz.ntmps80 (by kernel_rfl) ?_; intro A hA Q hQ; simp [Bucket.enc, *])
   | (refine RunQ.gd rfl (by rw [hA.h]; rfl) ?_; simp [Bucket.enc, *])
   | ((first | ((first | refine RunQ.call rfl rfl rfl rfl rfl ?_ (p) ?_ ?_ | refine RunQW.call rfl rfl rfl rfl ?_ (p) ?_ ?_); (focus (simp (maxDischargeDepth := 120) [Bucket.enc, *]; done))) | ((first | refine RunQ.call rfl rfl rfl rfl rfl ?_ (n1) ?_ ?_ | refine RunQW.call rfl rfl rfl rfl ?_ (n1) ?_ ?_); (focus (simp (maxDischargeDepth := 120) [Bucket.enc, *]; done))) | ((first | refine RunQ.call rfl rfl rfl rfl rfl ?_ (n2) ?_ ?_ | refine RunQW.call rfl rfl rfl rfl ?_ (n2) ?_ ?_); (focus (simp (maxDischargeDepth := 120) [Bucket.enc, *]; done))) | ((first | refine RunQ.call rfl rfl rfl rfl rfl ?_ (n3) ?_ ?_ | refine RunQW.call rfl rfl rfl rfl ?_ (n3) ?_ ?_); (focus (simp (maxDischargeDepth := 120) [Bucket.enc, *]; done)))); (focus (simp [Bucket.enc, *]; done)); refine RunQ.evalH ?_; simp [Bucket.enc, *])
   | (refine WK.ret Tryz.func80 ?_ ?_ <;> simp (maxDischargeDepth := 120) [Tryz.results80, Bucket.enc, *])
   | fail)
theorem bwrong_c (x : Bucket) (hx : x.acts.length ≤ 1000000) : FnP Tryz.prog 78 [.agg x.enc] (.bool (!bkRight x)) := by
  have p := bright_c x hx
  refine FnP.intro Tryz.func78 rfl rfl fun G w => ?_
  repeat' (first
   | refine WK.seq ?_
   | refine WK.block ?_
   | refine WK.inBlock ?_
   | refine WK.skip ?_
   | refine WK.label ?_
   | refine WK.scope ?_
   | refine WK.inScope ?_
   | refine WK.exit rfl ?_
   | refine WK.condT rfl ?_
   | refine WK.condF rfl ?_
   | (refine Hid.h hQ _ _ ?_; clear hQ hA)
   | refine WK.condAny rfl ?_ ?_
   | ((first | refine WK.cond2 rfl (fun h => ?_) (fun h => ?_)) <;> (first | (simp [*] at h; done) | (have h2 := h; simp at h2; exfalso; omega) | (have h2 := h; simp at h2; try simp only [Bool.not_eq_true', Bool.not_eq_false'] at h) | skip))
   | (refine WK.regH Tryz.ntmps78 (by kernel_rfl) ?_; intro A hA Q hQ; simp [*])
   | ((refine RunQ.call rfl rfl rfl rfl rfl ?_ (p) ?_ ?_; (focus (simp (maxDischargeDepth := 120) [*]; done))); (focus (simp [*]; done)); refine RunQ.evalH ?_; simp [*])
   | (refine WK.ret Tryz.func78 ?_ ?_ <;> simp (maxDischargeDepth := 120) [Tryz.results78, *])
   | fail)
structure BkFit (x : Bucket) : Prop where
  e0 : (acEnc x.acts).2 = 0
  n0 : numOk ((16 + (acEnc x.acts).1.length : Nat) : Int) 2 = true
  n1 : numOk x.weight 2 = true
  n2 : numOk x.watch 4 = true
  n3 : numOk x.wgroup 4 = true
theorem bkFit {x : Bucket} (h : bkRight x = true) : BkFit x := by
  unfold bkRight at h
  rw [Bool.and_eq_true, Bool.and_eq_true, Bool.and_eq_true, beq_iff_eq] at h
  obtain ⟨h0, h1, h2, h3⟩ := h
  have := acEnc_len x.acts
  exact ⟨h0, numOk2 (by omega), h1, h2, h3⟩
theorem bkFlat_succ {l : List Bucket} {i : Nat} (h : i < l.length) : rwFlat bkOne (l.take (i + 1)) = rwFlat bkOne (l.take i) ++ bkOne (nth l i) := by
  unfold rwFlat; rw [take_nth h, List.flatMap_append]; simp
theorem bkFlat_len (l : List Bucket) : (rwFlat bkOne l).length ≤ l.length * 6100 := by
  induction l with
  | nil => simp [rwFlat]
  | cons x l ih =>
    have h1 := bkOne_len x
    have h2 := acEnc_len x.acts
    have e : rwFlat bkOne (x :: l) = bkOne x ++ rwFlat bkOne l := rfl
    rw [e, List.length_append, List.length_cons]
    omega
theorem bkEnc_bad1 {l : List Bucket} (h : ¬ (l.length ≤ 100 ∧ l.all bkRight = true ∧ (rwFlat bkOne l).length ≤ 60000)) : bkEnc l = ([], 1) := by unfold bkEnc; rw [if_neg h]
theorem all_true_bk {l : List Bucket} {p : Bucket → Bool} (h : ∀ j, j < l.length → p (nth l j) = true) : l.all p = true := by
  rw [List.all_eq_true]; intro x hx
  obtain ⟨j, hj, rfl⟩ := mem_nth hx
  exact h j hj
theorem anyNot_all {α : Type} (p : α → Bool) (l : List α) : (l.any fun x => !p x) = !l.all p := by rw [List.not_all_eq_any_not]
set_option maxHeartbeats 4000000 in
theorem bkenc_c (l : List Bucket) (hl : l.length ≤ 1000000) (ha : ∀ x, x ∈ l → x.acts.length ≤ 1000000) : FnT Tryz.prog 44 [bukS l] (bkEnc l).1.length 1 (byL (bkEnc l).1) [.int .i64 (bkEnc l).2] := by
  have q := containsf_buk 78 [] (fun x => !bkRight x) l rfl hl (fun x hx => bwrong_c x (ha x hx))
  rw [anyNot_all] at q
  unfold bukS at *
  by_cases h100 : 100 < l.length
  · have e := bkEnc_bad1 (l := l) (fun h => by omega)
    have j : (100 : Int) < l.length := by omega
    rw [e]
    clear q
    refine FnT.intro Tryz.func44 rfl rfl fun G w => ?_
    repeat' (first
     | refine WK.seq ?_
     | refine WK.block ?_
     | refine WK.inBlock ?_
     | refine WK.skip ?_
     | refine WK.label ?_
     | refine WK.scope ?_
     | refine WK.inScope ?_
     | refine WK.exit rfl ?_
     | refine WK.condT rfl ?_
     | refine WK.condF rfl ?_
     | (refine Hid.h hQ _ _ ?_; clear hQ hA)
     | refine WK.condAny rfl ?_ ?_
     | ((first | refine WK.cond2 rfl (fun h => ?_) (fun h => ?_) | refine Fork.mk (fun h => ?_) (fun h => ?_)) <;> (first | (simp [*] at h; done) | (have h2 := h; simp at h2; exfalso; omega) | (have h2 := h; simp at h2; try simp only [Bool.not_eq_true', Bool.not_eq_false'] at h) | skip))
     | ((first | refine WK.regH Tryz.ntmps44 (by kernel_rfl) ?_ | refine WK.regX (by kernel_rfl) Tryz.ntmps44 (by kernel_rfl) ?_); intro A hA Q hQ; simp [*])
     | (refine Hid.h hQ _ _ _ (by decide +kernel) ?_; clear hQ hA)
     | ((first | refine RunQ.gd rfl (by rw [hA.h]; rfl) ?_ | refine RunX.gd rfl (by rw [hA.h]; rfl) ?_); simp [*])
     | fail)
    repeat (first | refine WK.seq ?_ | refine WK.block ?_ | refine WK.inBlock ?_ | refine WK.skip ?_ | refine WK.label ?_ | refine WK.scope ?_ | refine WK.inScope ?_ | refine WK.exit rfl ?_)
    refine WK.ghost (Ghost.own 2 900 1 rfl rfl) ?_
    repeat (first | refine WK.seq ?_ | refine WK.block ?_ | refine WK.inBlock ?_ | refine WK.skip ?_ | refine WK.label ?_ | refine WK.scope ?_ | refine WK.inScope ?_ | refine WK.exit rfl ?_)
    refine WK.retT2 Tryz.func44 ?_ ?_ ?_ <;> simp (maxDischargeDepth := 120) [Tryz.results44, byL_nil]
  have j : ¬ (100 : Int) < l.length := by omega
  cases hr : l.all bkRight
  · have e := bkEnc_bad1 (l := l) (fun h => by rw [hr] at h; exact Bool.noConfusion h.2.1)
    rw [e]
    rw [hr] at q
    refine FnT.intro Tryz.func44 rfl rfl fun G w => ?_
    repeat' (first
     | refine WK.seq ?_
     | refine WK.block ?_
     | refine WK.inBlock ?_
     | refine WK.skip ?_
     | refine WK.label ?_
     | refine WK.scope ?_
     | refine WK.inScope ?_
     | refine WK.exit rfl ?_
     | refine WK.condT rfl ?_
     | refine WK.condF rfl ?_
     | (refine Hid.h hQ _ _ ?_; clear hQ hA)
     | refine WK.condAny rfl ?_ ?_
     | ((first | refine WK.cond2 rfl (fun h => ?_) (fun h => ?_) | refine Fork.mk (fun h => ?_) (fun h => ?_)) <;> (first | (simp [*] at h; done) | (have h2 := h; simp at h2; exfalso; omega) | (have h2 := h; simp at h2; try simp only [Bool.not_eq_true', Bool.not_eq_false'] at h) | skip))
     | ((first | refine WK.regH Tryz.ntmps44 (by kernel_rfl) ?_ | refine WK.regX (by kernel_rfl) Tryz.ntmps44 (by kernel_rfl) ?_); intro A hA Q hQ; simp [*])
     | (refine Hid.h hQ _ _ _ (by decide +kernel) ?_; clear hQ hA)
     | ((first | refine RunQ.gd rfl (by rw [hA.h]; rfl) ?_ | refine RunX.gd rfl (by rw [hA.h]; rfl) ?_); simp [*])
     | (((first | refine RunQ.call rfl rfl rfl rfl rfl ?_ (q) ?_ ?_ | refine RunQW.call rfl rfl rfl rfl ?_ (q) ?_ ?_ | refine RunX.call rfl rfl rfl rfl ?_ (q) ?_ ?_ | refine RunXW.call rfl rfl rfl ?_ (q) ?_ ?_); (focus (simp (maxDischargeDepth := 120) [*]; done))); (focus (simp [*]; done)); (first | refine RunQ.evalH ?_ | refine RunX.evalY ?_); simp [*])
     | fail)
    repeat (first | refine WK.seq ?_ | refine WK.block ?_ | refine WK.inBlock ?_ | refine WK.skip ?_ | refine WK.label ?_ | refine WK.scope ?_ | refine WK.inScope ?_ | refine WK.exit rfl ?_)
    refine WK.ghost (Ghost.own 2 900 1 rfl rfl) ?_
    repeat (first | refine WK.seq ?_ | refine WK.block ?_ | refine WK.inBlock ?_ | refine WK.skip ?_ | refine WK.label ?_ | refine WK.scope ?_ | refine WK.inScope ?_ | refine WK.exit rfl ?_)
    refine WK.retT2 Tryz.func44 ?_ ?_ ?_ <;> simp (maxDischargeDepth := 120) [Tryz.results44, byL_nil]
  rw [hr] at q
  have hall : ∀ x, x ∈ l → bkRight x = true := List.all_eq_true.1 hr
  have hdef : bkEnc l = if (rwFlat bkOne l).length ≤ 60000 then (rwFlat bkOne l, 0) else ([], 1) := by
    unfold bkEnc
    by_cases hh : (rwFlat bkOne l).length ≤ 60000
    · rw [if_pos hh, if_pos ⟨by omega, hr, hh⟩]
    · rw [if_neg hh, if_neg fun h => hh h.2.2]
  refine FnT.intro Tryz.func44 rfl rfl fun G w => ?_
  repeat' (first
   | refine WK.seq ?_
   | refine WK.block ?_
   | refine WK.inBlock ?_
   | refine WK.skip ?_
   | refine WK.label ?_
   | refine WK.scope ?_
   | refine WK.inScope ?_
   | refine WK.exit rfl ?_
   | refine WK.condT rfl ?_
   | refine WK.condF rfl ?_
   | (refine Hid.h hQ _ _ ?_; clear hQ hA)
   | refine WK.condAny rfl ?_ ?_
   | ((first | refine WK.cond2 rfl (fun h => ?_) (fun h => ?_) | refine Fork.mk (fun h => ?_) (fun h => ?_)) <;> (first | (simp [*] at h; done) | (have h2 := h; simp at h2; exfalso; omega) | (have h2 := h; simp at h2; try simp only [Bool.not_eq_true', Bool.not_eq_false'] at h) | skip))
   | ((first | refine WK.regH Tryz.ntmps44 (by kernel_rfl) ?_ | refine WK.regX (by kernel_rfl) Tryz.ntmps44 (by kernel_rfl) ?_); intro A hA Q hQ; simp [*])
   | (refine Hid.h hQ _ _ _ (by decide +kernel) ?_; clear hQ hA)
   | ((first | refine RunQ.gd rfl (by rw [hA.h]; rfl) ?_ | refine RunX.gd rfl (by rw [hA.h]; rfl) ?_); simp [*])
   | (((first | refine RunQ.call rfl rfl rfl rfl rfl ?_ (q) ?_ ?_ | refine RunQW.call rfl rfl rfl rfl ?_ (q) ?_ ?_ | refine RunX.call rfl rfl rfl rfl ?_ (q) ?_ ?_ | refine RunXW.call rfl rfl rfl ?_ (q) ?_ ?_); (focus (simp (maxDischargeDepth := 120) [*]; done))); (focus (simp [*]; done)); (first | refine RunQ.evalH ?_ | refine RunX.evalY ?_); simp [*])
   | fail)
  repeat (first | refine WK.seq ?_ | refine WK.block ?_ | refine WK.inBlock ?_ | refine WK.skip ?_ | refine WK.label ?_ | refine WK.scope ?_ | refine WK.inScope ?_ | refine WK.exit rfl ?_)
  refine WK.ghost (Ghost.own 4 900 1 rfl rfl) ?_
  repeat (first | refine WK.seq ?_ | refine WK.block ?_ | refine WK.inBlock ?_ | refine WK.skip ?_ | refine WK.label ?_ | refine WK.scope ?_ | refine WK.inScope ?_ | refine WK.exit rfl ?_)
  refine WK.loopI (fun n => if n = 1 then 900 else n) (fun i : Nat => (⟨(upd (upd (upd (upd (upd (upd J 2 (.sl true 0 [])) 3 (.int .i64 0)) 4 (.msl 1 0 (rwFlat bkOne (l.take i)).length)) 16 (.sl false l.length (bukL l))) 17 (.int .i64 l.length)) 18 (.int .i64 i)), (upd B0 1 (.buf 1 (byL (rwFlat bkOne (l.take i))))), 0⟩ : St)) (fun i => i ≤ l.length) (fun i => l.length - i) (0) (by repeat (first | exact TmW.nil | refine TmW.upd ?_ (by simp (maxDischargeDepth := 120) [rwFlat, byL_nil]))) (by repeat (first | exact BxW.nil | refine BxW.upd ?_ (by simp (maxDischargeDepth := 120) [rwFlat, byL_nil]))) (by first | exact InjW.id | exact InjW.nil | exact InjW.one | exact InjW.two (by simp) | exact InjW.three (by simp) (by simp) (by simp)) (by omega) (fun i hi IH => ?_)
  have hfl := bkFlat_len (l.take i)
  have htl : (l.take i).length ≤ 100 := by rw [List.length_take]; omega
  by_cases h1 : i < l.length
  · obtain ⟨h4, h3⟩ := buk_load l i h1
    have h6 : IntKind.i64.wrap ((i : Int) + 1) = i + 1 := wrap_i64 (by omega) (by omega)
    have hs := bkFlat_succ h1
    have fit := bkFit (hall _ (nth_mem h1))
    have hx := ha _ (nth_mem h1)
    obtain ⟨x, hxx⟩ : ∃ x, nth l i = x := ⟨_, rfl⟩
    rw [hxx] at h4 hs fit hx
    have p := acencP_c x.acts hx
    have hEl := acEnc_len x.acts
    have hone : bkOne x = beN (16 + (acEnc x.acts).1.length : Nat) 2 ++ (beN x.weight 2 ++ (beN x.watch 4 ++ (beN x.wgroup 4 ++ (List.replicate 4 0#8 ++ (acEnc x.acts).1)))) := rfl
    obtain ⟨f0, f1, f2, f3, f4⟩ := fit
    obtain ⟨R, hR⟩ : ∃ R, acEnc x.acts = R := ⟨_, rfl⟩
    rw [hR] at p hEl f0 f1 hone
    obtain ⟨E, c⟩ := R
    simp only at p hEl f0 f1 hone
    subst f0
    obtain ⟨F, hF⟩ : ∃ F, rwFlat bkOne (l.take i) = F := ⟨_, rfl⟩
    rw [hF] at hs hfl ⊢
    have hFl : F.length ≤ 700000 := by omega
    have c1 := nput_c F ((16 + E.length : Nat) : Int) 2 Sz2 (by omega)
    rw [putN_beN f1] at c1
    obtain ⟨F1, hF1⟩ : ∃ F1, F ++ beN ((16 + E.length : Nat) : Int) 2 = F1 := ⟨_, rfl⟩
    rw [hF1] at c1
    have hF1l : F1.length = F.length + 2 := by rw [← hF1, List.length_append, beN_len]
    have c2 := nput_c F1 x.weight 2 Sz2 (by omega)
    rw [putN_beN f2] at c2
    obtain ⟨F2, hF2⟩ : ∃ F2, F1 ++ beN x.weight 2 = F2 := ⟨_, rfl⟩
    rw [hF2] at c2
    have hF2l : F2.length = F.length + 4 := by rw [← hF2, List.length_append, beN_len]; omega
    have c3 := nput_c F2 x.watch 4 Sz4 (by omega)
    rw [putN_beN f3] at c3
    obtain ⟨F3, hF3⟩ : ∃ F3, F2 ++ beN x.watch 4 = F3 := ⟨_, rfl⟩
    rw [hF3] at c3
    have hF3l : F3.length = F.length + 8 := by rw [← hF3, List.length_append, beN_len]; omega
    have c4 := nput_c F3 x.wgroup 4 Sz4 (by omega)
    rw [putN_beN f4] at c4
    obtain ⟨F4, hF4⟩ : ∃ F4, F3 ++ beN x.wgroup 4 = F4 := ⟨_, rfl⟩
    rw [hF4] at c4
    have hF4l : F4.length = F.length + 12 := by rw [← hF4, List.length_append, beN_len]; omega
    have hs2 : rwFlat bkOne (l.take (i + 1)) = F4 ++ (List.replicate 4 0#8 ++ E) := by
      rw [hs, hone, ← hF4, ← hF3, ← hF2, ← hF1]; simp only [List.append_assoc]
    have hz : byL (List.replicate 4 0#8) = [.int .u8 0, .int .u8 0, .int .u8 0, .int .u8 0] := rfl
    have hs3 : byL F4 ++ (AV.int .u8 0 :: AV.int .u8 0 :: AV.int .u8 0 :: AV.int .u8 0 :: byL E) = byL (rwFlat bkOne (l.take (i + 1))) := by rw [hs2, byL_app, byL_app, hz]; rfl
    have hs4 : (rwFlat bkOne (l.take (i + 1))).length = F4.length + 4 + E.length := by rw [hs2, List.length_append, List.length_append, List.length_replicate]; omega
    have w16 : IntKind.i64.wrap (16 + (E.length : Int)) = 16 + (E.length : Int) := wrap_i64 (by omega) (by omega)
    have hbd1 : F4.length + 4 ≤ 140737488355328 := by omega
    have hbd2 : F4.length + 4 + E.length ≤ 140737488355328 := by omega
    have hfu1 : (byL F).take F.length = byL F := by_full _ _ rfl
    have hfu2 : (byL F1).take F1.length = byL F1 := by_full _ _ rfl
    have hfu3 : (byL F2).take F2.length = byL F2 := by_full _ _ rfl
    have hfu4 : (byL F3).take F3.length = byL F3 := by_full _ _ rfl
    have hfu5 : (byL E).take E.length = byL E := by_full _ _ rfl
    unfold byS actS at *
    clear hF hF1 hF2 hF3 hF4 hs hs2 hone hR f1 f2 f3 f4 hxx hF1l hF2l hF3l hF4l hfl htl hr
    repeat' (first
     | refine WK.seq ?_
     | refine WK.block ?_
     | refine WK.inBlock ?_
     | refine WK.skip ?_
     | refine WK.label ?_
     | refine WK.scope ?_
     | refine WK.inScope ?_
     | refine WK.exit rfl ?_
     | refine WK.condT rfl ?_
     | refine WK.condF rfl ?_
     | (refine Hid.h hQ _ _ ?_; clear hQ hA)
     | refine WK.condAny rfl ?_ ?_
     | ((first | refine WK.cond2 rfl (fun h => ?_) (fun h => ?_) | refine Fork.mk (fun h => ?_) (fun h => ?_)) <;> (first | (simp [*] at h; done) | (have h2 := h; simp at h2; exfalso; omega) | (have h2 := h; simp at h2; try simp only [Bool.not_eq_true', Bool.not_eq_false'] at h) | skip))
     | ((first | refine WK.regH Tryz.ntmps44 (by kernel_rfl) ?_ | refine WK.regX (by kernel_rfl) Tryz.ntmps44 (by kernel_rfl) ?_); intro A hA Q hQ; simp [Bucket.enc, *])
     | (refine Hid.h hQ _ _ _ (by decide +kernel) ?_; clear hQ hA)
     | ((first | refine RunQ.gd rfl (by rw [hA.h]; rfl) ?_ | refine RunX.gd rfl (by rw [hA.h]; rfl) ?_); simp [Bucket.enc, *])
     | (refine RunQ.callOz 901 28 1 rfl rfl rfl rfl rfl rfl rfl ?_ (c1) ?_ ?_ (by simp) (by decide) ?_; (focus (simp (maxDischargeDepth := 120) [Bucket.enc, *]; done)); (focus (simp [Bucket.enc, *]; done)); (focus (simp [Bucket.enc, *]; done)); refine RunQ.evalH ?_; simp [Bucket.enc, *])
     | (refine RunQW.by (fun hw => ?_); refine RunQ.callOz 901 28 1 rfl rfl hw rfl rfl rfl rfl ?_ (c1) ?_ ?_ (by simp) (by decide) ?_; (focus (simp (maxDischargeDepth := 120) [Bucket.enc, *]; done)); (focus (simp [Bucket.enc, *]; done)); (focus (simp [Bucket.enc, *]; done)); clear hw; refine RunQ.evalH ?_; simp [Bucket.enc, *])
     | (refine RunX.callOz 901 28 1 rfl rfl rfl rfl rfl rfl ?_ (c1) ?_ ?_ (by simp) (by decide) ?_; (focus (simp (maxDischargeDepth := 120) [Bucket.enc, *]; done)); (focus (simp [Bucket.enc, *]; done)); (focus (simp [Bucket.enc, *]; done)); refine RunX.evalY ?_; simp [Bucket.enc, *])
     | (refine RunX.by (fun hw => ?_); refine RunX.callOz 901 28 1 rfl rfl hw rfl rfl rfl ?_ (c1) ?_ ?_ (by simp) (by decide) ?_; (focus (simp (maxDischargeDepth := 120) [Bucket.enc, *]; done)); (focus (simp [Bucket.enc, *]; done)); (focus (simp [Bucket.enc, *]; done)); clear hw; refine RunX.evalY ?_; simp [Bucket.enc, *])
     | (refine RunQ.callOz 902 32 1 rfl rfl rfl rfl rfl rfl rfl ?_ (c2) ?_ ?_ (by simp) (by decide) ?_; (focus (simp (maxDischargeDepth := 120) [Bucket.enc, *]; done)); (focus (simp [Bucket.enc, *]; done)); (focus (simp [Bucket.enc, *]; done)); refine RunQ.evalH ?_; simp [Bucket.enc, *])
     | (refine RunQW.by (fun hw => ?_); refine RunQ.callOz 902 32 1 rfl rfl hw rfl rfl rfl rfl ?_ (c2) ?_ ?_ (by simp) (by decide) ?_; (focus (simp (maxDischargeDepth := 120) [Bucket.enc, *]; done)); (focus (simp [Bucket.enc, *]; done)); (focus (simp [Bucket.enc, *]; done)); clear hw; refine RunQ.evalH ?_; simp [Bucket.enc, *])
     | (refine RunX.callOz 902 32 1 rfl rfl rfl rfl rfl rfl ?_ (c2) ?_ ?_ (by simp) (by decide) ?_; (focus (simp (maxDischargeDepth := 120) [Bucket.enc, *]; done)); (focus (simp [Bucket.enc, *]; done)); (focus (simp [Bucket.enc, *]; done)); refine RunX.evalY ?_; simp [Bucket.enc, *])
     | (refine RunX.by (fun hw => ?_); refine RunX.callOz 902 32 1 rfl rfl hw rfl rfl rfl ?_ (c2) ?_ ?_ (by simp) (by decide) ?_; (focus (simp (maxDischargeDepth := 120) [Bucket.enc, *]; done)); (focus (simp [Bucket.enc, *]; done)); (focus (simp [Bucket.enc, *]; done)); clear hw; refine RunX.evalY ?_; simp [Bucket.enc, *])
     | (refine RunQ.callOz 903 36 1 rfl rfl rfl rfl rfl rfl rfl ?_ (c3) ?_ ?_ (by simp) (by decide) ?_; (focus (simp (maxDischargeDepth := 120) [Bucket.enc, *]; done)); (focus (simp [Bucket.enc, *]; done)); (focus (simp [Bucket.enc, *]; done)); refine RunQ.evalH ?_; simp [Bucket.enc, *])
     | (refine RunQW.by (fun hw => ?_); refine RunQ.callOz 903 36 1 rfl rfl hw rfl rfl rfl rfl ?_ (c3) ?_ ?_ (by simp) (by decide) ?_; (focus (simp (maxDischargeDepth := 120) [Bucket.enc, *]; done)); (focus (simp [Bucket.enc, *]; done)); (focus (simp [Bucket.enc, *]; done)); clear hw; refine RunQ.evalH ?_; simp [Bucket.enc, *])
     | (refine RunX.callOz 903 36 1 rfl rfl rfl rfl rfl rfl ?_ (c3) ?_ ?_ (by simp) (by decide) ?_; (focus (simp (maxDischargeDepth := 120) [Bucket.enc, *]; done)); (focus (simp [Bucket.enc, *]; done)); (focus (simp [Bucket.enc, *]; done)); refine RunX.evalY ?_; simp [Bucket.enc, *])
     | (refine RunX.by (fun hw => ?_); refine RunX.callOz 903 36 1 rfl rfl hw rfl rfl rfl ?_ (c3) ?_ ?_ (by simp) (by decide) ?_; (focus (simp (maxDischargeDepth := 120) [Bucket.enc, *]; done)); (focus (simp [Bucket.enc, *]; done)); (focus (simp [Bucket.enc, *]; done)); clear hw; refine RunX.evalY ?_; simp [Bucket.enc, *])
     | (refine RunQ.callOz 904 39 1 rfl rfl rfl rfl rfl rfl rfl ?_ (c4) ?_ ?_ (by simp) (by decide) ?_; (focus (simp (maxDischargeDepth := 120) [Bucket.enc, *]; done)); (focus (simp [Bucket.enc, *]; done)); (focus (simp [Bucket.enc, *]; done)); refine RunQ.evalH ?_; simp [Bucket.enc, *])
     | (refine RunQW.by (fun hw => ?_); refine RunQ.callOz 904 39 1 rfl rfl hw rfl rfl rfl rfl ?_ (c4) ?_ ?_ (by simp) (by decide) ?_; (focus (simp (maxDischargeDepth := 120) [Bucket.enc, *]; done)); (focus (simp [Bucket.enc, *]; done)); (focus (simp [Bucket.enc, *]; done)); clear hw; refine RunQ.evalH ?_; simp [Bucket.enc, *])
     | (refine RunX.callOz 904 39 1 rfl rfl rfl rfl rfl rfl ?_ (c4) ?_ ?_ (by simp) (by decide) ?_; (focus (simp (maxDischargeDepth := 120) [Bucket.enc, *]; done)); (focus (simp [Bucket.enc, *]; done)); (focus (simp [Bucket.enc, *]; done)); refine RunX.evalY ?_; simp [Bucket.enc, *])
     | (refine RunX.by (fun hw => ?_); refine RunX.callOz 904 39 1 rfl rfl hw rfl rfl rfl ?_ (c4) ?_ ?_ (by simp) (by decide) ?_; (focus (simp (maxDischargeDepth := 120) [Bucket.enc, *]; done)); (focus (simp [Bucket.enc, *]; done)); (focus (simp [Bucket.enc, *]; done)); clear hw; refine RunX.evalY ?_; simp [Bucket.enc, *])
     | (refine RunQ.append 905 appByte rfl rfl rfl rfl rfl rfl rfl rfl rfl ?_ ?_ ?_ ?_ ?_; (focus (first | omega | (simp [Bucket.enc, *]; done); done)); (focus (first | omega | (simp [Bucket.enc, *]; done); done)); (focus (first | omega | (simp [Bucket.enc, *]; done); done)); (focus (first | omega | (simp [Bucket.enc, *]; done); done)); refine RunQ.evalH ?_; simp [Bucket.enc, *])
     | (refine RunQW.by (fun hw => ?_); refine RunQ.append 905 appByte rfl rfl rfl rfl rfl rfl rfl hw rfl ?_ ?_ ?_ ?_ ?_; (focus (first | omega | (simp [Bucket.enc, *]; done); done)); (focus (first | omega | (simp [Bucket.enc, *]; done); done)); (focus (first | omega | (simp [Bucket.enc, *]; done); done)); (focus (first | omega | (simp [Bucket.enc, *]; done); done)); clear hw; refine RunQ.evalH ?_; simp [Bucket.enc, *])
     | (refine RunX.append 905 appByte rfl rfl rfl rfl rfl rfl rfl rfl ?_ ?_ ?_ ?_ ?_; (focus (first | omega | (simp [Bucket.enc, *]; done); done)); (focus (first | omega | (simp [Bucket.enc, *]; done); done)); (focus (first | omega | (simp [Bucket.enc, *]; done); done)); (focus (first | omega | (simp [Bucket.enc, *]; done); done)); refine RunX.evalY ?_; simp [Bucket.enc, *])
     | (refine RunX.by (fun hw => ?_); refine RunX.append 905 appByte rfl rfl rfl rfl rfl rfl rfl hw ?_ ?_ ?_ ?_ ?_; (focus (first | omega | (simp [Bucket.enc, *]; done); done)); (focus (first | omega | (simp [Bucket.enc, *]; done); done)); (focus (first | omega | (simp [Bucket.enc, *]; done); done)); (focus (first | omega | (simp [Bucket.enc, *]; done); done)); clear hw; refine RunX.evalY ?_; simp [Bucket.enc, *])
     | (refine RunQ.append 906 appByte rfl rfl rfl rfl rfl rfl rfl rfl rfl ?_ ?_ ?_ ?_ ?_; (focus (first | omega | (simp [Bucket.enc, *]; done); done)); (focus (first | omega | (simp [Bucket.enc, *]; done); done)); (focus (first | omega | (simp [Bucket.enc, *]; done); done)); (focus (first | omega | (simp [Bucket.enc, *]; done); done)); refine RunQ.evalH ?_; simp [Bucket.enc, *])
     | (refine RunQW.by (fun hw => ?_); refine RunQ.append 906 appByte rfl rfl rfl rfl rfl rfl rfl hw rfl ?_ ?_ ?_ ?_ ?_; (focus (first | omega | (simp [Bucket.enc, *]; done); done)); (focus (first | omega | (simp [Bucket.enc, *]; done); done)); (focus (first | omega | (simp [Bucket.enc, *]; done); done)); (focus (first | omega | (simp [Bucket.enc, *]; done); done)); clear hw; refine RunQ.evalH ?_; simp [Bucket.enc, *])
     | (refine RunX.append 906 appByte rfl rfl rfl rfl rfl rfl rfl rfl ?_ ?_ ?_ ?_ ?_; (focus (first | omega | (simp [Bucket.enc, *]; done); done)); (focus (first | omega | (simp [Bucket.enc, *]; done); done)); (focus (first | omega | (simp [Bucket.enc, *]; done); done)); (focus (first | omega | (simp [Bucket.enc, *]; done); done)); refine RunX.evalY ?_; simp [Bucket.enc, *])
     | (refine RunX.by (fun hw => ?_); refine RunX.append 906 appByte rfl rfl rfl rfl rfl rfl rfl hw ?_ ?_ ?_ ?_ ?_; (focus (first | omega | (simp [Bucket.enc, *]; done); done)); (focus (first | omega | (simp [Bucket.enc, *]; done); done)); (focus (first | omega | (simp [Bucket.enc, *]; done); done)); (focus (first | omega | (simp [Bucket.enc, *]; done); done)); clear hw; refine RunX.evalY ?_; simp [Bucket.enc, *])
     | (((first | refine RunQ.call rfl rfl rfl rfl rfl ?_ (p) ?_ ?_ | refine RunQW.call rfl rfl rfl rfl ?_ (p) ?_ ?_ | refine RunX.call rfl rfl rfl rfl ?_ (p) ?_ ?_ | refine RunXW.call rfl rfl rfl ?_ (p) ?_ ?_); (focus (simp (maxDischargeDepth := 120) [Bucket.enc, *]; done))); (focus (simp [Bucket.enc, *]; done)); (first | refine RunQ.evalH ?_ | refine RunX.evalY ?_); simp [Bucket.enc, *])
     | fail)
    repeat (first | refine WK.seq ?_ | refine WK.block ?_ | refine WK.inBlock ?_ | refine WK.skip ?_ | refine WK.label ?_ | refine WK.scope ?_ | refine WK.inScope ?_ | refine WK.exit rfl ?_)
    refine WK.next (fun n => if n = 1 then 906 else n) (IH (i + 1) (by omega) (by first | omega | (dsimp only; omega))) (by repeat (first | exact TmW.nil | refine TmW.upd ?_ (by simp (maxDischargeDepth := 120) [hs3, hs4]))) (by repeat (first | exact BxW.nil | refine BxW.upd ?_ (by simp (maxDischargeDepth := 120) [hs3, hs4]))) (by first | exact InjW.id | exact InjW.nil | exact InjW.one | exact InjW.two (by simp) | exact InjW.three (by simp) (by simp) (by simp))
  · have hT : l.take i = l := List.take_of_length_le (by omega)
    rw [hT] at hfl ⊢
    obtain ⟨F, hF⟩ : ∃ F, rwFlat bkOne l = F := ⟨_, rfl⟩
    rw [hF] at hdef hfl ⊢
    by_cases h6 : F.length ≤ 60000
    · have j6 : ¬ (60000 : Int) < F.length := by omega
      rw [if_pos h6] at hdef
      rw [hdef]
      clear hF hdef
      repeat' (first
       | refine WK.seq ?_
       | refine WK.block ?_
       | refine WK.inBlock ?_
       | refine WK.skip ?_
       | refine WK.label ?_
       | refine WK.scope ?_
       | refine WK.inScope ?_
       | refine WK.exit rfl ?_
       | refine WK.condT rfl ?_
       | refine WK.condF rfl ?_
       | (refine Hid.h hQ _ _ ?_; clear hQ hA)
       | refine WK.condAny rfl ?_ ?_
       | ((first | refine WK.cond2 rfl (fun h => ?_) (fun h => ?_) | refine Fork.mk (fun h => ?_) (fun h => ?_)) <;> (first | (simp [*] at h; done) | (have h2 := h; simp at h2; exfalso; omega) | (have h2 := h; simp at h2; try simp only [Bool.not_eq_true', Bool.not_eq_false'] at h) | skip))
       | ((first | refine WK.regH Tryz.ntmps44 (by kernel_rfl) ?_ | refine WK.regX (by kernel_rfl) Tryz.ntmps44 (by kernel_rfl) ?_); intro A hA Q hQ; simp [*])
       | (refine Hid.h hQ _ _ _ (by decide +kernel) ?_; clear hQ hA)
       | ((first | refine RunQ.gd rfl (by rw [hA.h]; rfl) ?_ | refine RunX.gd rfl (by rw [hA.h]; rfl) ?_); simp [*])
       | (refine WK.retT2 Tryz.func44 ?_ ?_ ?_ <;> simp (maxDischargeDepth := 120) [Tryz.results44, *])
       | fail)
    · have j6 : (60000 : Int) < F.length := by omega
      rw [if_neg h6] at hdef
      rw [hdef]
      clear hF hdef
      repeat' (first
       | refine WK.seq ?_
       | refine WK.block ?_
       | refine WK.inBlock ?_
       | refine WK.skip ?_
       | refine WK.label ?_
       | refine WK.scope ?_
       | refine WK.inScope ?_
       | refine WK.exit rfl ?_
       | refine WK.condT rfl ?_
       | refine WK.condF rfl ?_
       | (refine Hid.h hQ _ _ ?_; clear hQ hA)
       | refine WK.condAny rfl ?_ ?_
       | ((first | refine WK.cond2 rfl (fun h => ?_) (fun h => ?_) | refine Fork.mk (fun h => ?_) (fun h => ?_)) <;> (first | (simp [*] at h; done) | (have h2 := h; simp at h2; exfalso; omega) | (have h2 := h; simp at h2; try simp only [Bool.not_eq_true', Bool.not_eq_false'] at h) | skip))
       | ((first | refine WK.regH Tryz.ntmps44 (by kernel_rfl) ?_ | refine WK.regX (by kernel_rfl) Tryz.ntmps44 (by kernel_rfl) ?_); intro A hA Q hQ; simp [*])
       | (refine Hid.h hQ _ _ _ (by decide +kernel) ?_; clear hQ hA)
       | ((first | refine RunQ.gd rfl (by rw [hA.h]; rfl) ?_ | refine RunX.gd rfl (by rw [hA.h]; rfl) ?_); simp [*])
       | fail)
      repeat (first | refine WK.seq ?_ | refine WK.block ?_ | refine WK.inBlock ?_ | refine WK.skip ?_ | refine WK.label ?_ | refine WK.scope ?_ | refine WK.inScope ?_ | refine WK.exit rfl ?_)
      refine WK.ghost (Ghost.own 2 907 1 rfl rfl) ?_
      repeat (first | refine WK.seq ?_ | refine WK.block ?_ | refine WK.inBlock ?_ | refine WK.skip ?_ | refine WK.label ?_ | refine WK.scope ?_ | refine WK.inScope ?_ | refine WK.exit rfl ?_)
      refine WK.retT2 Tryz.func44 ?_ ?_ ?_ <;> simp (maxDischargeDepth := 120) [Tryz.results44, byL_nil]
set_option maxHeartbeats 4000000 in
theorem rbkenc_c (l : List Bucket) (hl : l.length ≤ 1000000) (ha : ∀ x, x ∈ l → x.acts.length ≤ 1000000) : FnT Tryz.prog 46 [bukS l] (bkEnc l).1.length 1 (byL (bkEnc l).1) [.int .i64 (bkEnc l).2] := by
  unfold bukS at *
  by_cases h100 : 100 < l.length
  · have e := bkEnc_bad1 (l := l) (fun h => by omega)
    have j : (100 : Int) < l.length := by omega
    rw [e]
    refine FnT.intro Tryz.func46 rfl rfl fun G w => ?_
    repeat' (first
     | refine WK.seq ?_
     | refine WK.block ?_
     | refine WK.inBlock ?_
     | refine WK.skip ?_
     | refine WK.label ?_
     | refine WK.scope ?_
     | refine WK.inScope ?_
     | refine WK.exit rfl ?_
     | refine WK.condT rfl ?_
     | refine WK.condF rfl ?_
     | (refine Hid.h hQ _ _ ?_; clear hQ hA)
     | refine WK.condAny rfl ?_ ?_
     | ((first | refine WK.cond2 rfl (fun h => ?_) (fun h => ?_)) <;> (first | (simp [*] at h; done) | (have h2 := h; simp at h2; exfalso; omega) | (have h2 := h; simp at h2; try simp only [Bool.not_eq_true', Bool.not_eq_false'] at h) | skip))
     | ((first | refine WK.regH Tryz.ntmps46 (by kernel_rfl) ?_ | refine WK.regX (by kernel_rfl) Tryz.ntmps46 (by kernel_rfl) ?_); intro A hA Q hQ; simp [*])
     | (refine Hid.h hQ _ _ _ (by decide +kernel) ?_; clear hQ hA)
     | fail)
    repeat (first | refine WK.seq ?_ | refine WK.block ?_ | refine WK.inBlock ?_ | refine WK.skip ?_ | refine WK.label ?_ | refine WK.scope ?_ | refine WK.inScope ?_ | refine WK.exit rfl ?_)
    refine WK.ghost (Ghost.own 2 900 1 rfl rfl) ?_
    repeat (first | refine WK.seq ?_ | refine WK.block ?_ | refine WK.inBlock ?_ | refine WK.skip ?_ | refine WK.label ?_ | refine WK.scope ?_ | refine WK.inScope ?_ | refine WK.exit rfl ?_)
    refine WK.retT2 Tryz.func46 ?_ ?_ ?_ <;> simp (maxDischargeDepth := 120) [Tryz.results46, byL_nil]
  have j : ¬ (100 : Int) < l.length := by omega
  refine FnT.intro Tryz.func46 rfl rfl fun G w => ?_
  repeat' (first
   | refine WK.seq ?_
   | refine WK.block ?_
   | refine WK.inBlock ?_
   | refine WK.skip ?_
   | refine WK.label ?_
   | refine WK.scope ?_
   | refine WK.inScope ?_
   | refine WK.exit rfl ?_
   | refine WK.condT rfl ?_
   | refine WK.condF rfl ?_
   | (refine Hid.h hQ _ _ ?_; clear hQ hA)
   | refine WK.condAny rfl ?_ ?_
   | ((first | refine WK.cond2 rfl (fun h => ?_) (fun h => ?_)) <;> (first | (simp [*] at h; done) | (have h2 := h; simp at h2; exfalso; omega) | (have h2 := h; simp at h2; try simp only [Bool.not_eq_true', Bool.not_eq_false'] at h) | skip))
   | ((first | refine WK.regH Tryz.ntmps46 (by kernel_rfl) ?_ | refine WK.regX (by kernel_rfl) Tryz.ntmps46 (by kernel_rfl) ?_); intro A hA Q hQ; simp [*])
   | (refine Hid.h hQ _ _ _ (by decide +kernel) ?_; clear hQ hA)
   | fail)
  repeat (first | refine WK.seq ?_ | refine WK.block ?_ | refine WK.inBlock ?_ | refine WK.skip ?_ | refine WK.label ?_ | refine WK.scope ?_ | refine WK.inScope ?_ | refine WK.exit rfl ?_)
  refine WK.ghost (Ghost.own 4 900 1 rfl rfl) ?_
  repeat (first | refine WK.seq ?_ | refine WK.block ?_ | refine WK.inBlock ?_ | refine WK.skip ?_ | refine WK.label ?_ | refine WK.scope ?_ | refine WK.inScope ?_ | refine WK.exit rfl ?_)
  refine WK.loopI (fun n => if n = 1 then 900 else n) (fun i : Nat => (⟨(upd (upd (upd (upd (upd J 0 (.sl false l.length (bukL l))) 2 (.sl true 0 [])) 3 (.int .i64 0)) 4 (.msl 1 0 (rwFlat bkOne (l.take i)).length)) 5 (.int .i64 i)), (upd B0 1 (.buf 1 (byL (rwFlat bkOne (l.take i))))), 0⟩ : St)) (fun i => i ≤ l.length ∧ ∀ j, j < i → bkRight (nth l j) = true) (fun i => l.length - i) (0) (by repeat (first | exact TmW.nil | refine TmW.upd ?_ (by simp (maxDischargeDepth := 120) [rwFlat, byL_nil]))) (by repeat (first | exact BxW.nil | refine BxW.upd ?_ (by simp (maxDischargeDepth := 120) [rwFlat, byL_nil]))) (by first | exact InjW.id | exact InjW.nil | exact InjW.one | exact InjW.two (by simp) | exact InjW.three (by simp) (by simp) (by simp)) (⟨by omega, by simp⟩) (fun i hi IH => ?_)
  have hfl := bkFlat_len (l.take i)
  have htl : (l.take i).length ≤ 100 := by rw [List.length_take]; omega
  by_cases h1 : i < l.length
  · obtain ⟨h4, h3⟩ := buk_load l i h1
    have g0 := buk_get l i 0 h1 (by omega)
    have g1 := buk_get l i 1 h1 (by omega)
    have g2 := buk_get l i 2 h1 (by omega)
    have g3 := buk_get l i 3 h1 (by omega)
    have l0 : i * 4 + 0 < l.length * 4 := by omega
    have l1 : i * 4 + 1 < l.length * 4 := by omega
    have l2 : i * 4 + 2 < l.length * 4 := by omega
    have l3 : i * 4 + 3 < l.length * 4 := by omega
    have h6 : IntKind.i64.wrap ((i : Int) + 1) = i + 1 := wrap_i64 (by omega) (by omega)
    have hs := bkFlat_succ h1
    have hx := ha _ (nth_mem h1)
    have hrc := rbright_c (nth l i) hx
    cases hr : bkRight (nth l i)
    · have e := bkEnc_bad1 (l := l) (fun h => by have := List.all_eq_true.1 h.2.1 _ (nth_mem h1); rw [hr] at this; cases this)
      rw [hr] at hrc
      rw [e]
      clear hs g0 g1 g2 g3
      repeat' (first
       | refine WK.seq ?_
       | refine WK.block ?_
       | refine WK.inBlock ?_
       | refine WK.skip ?_
       | refine WK.label ?_
       | refine WK.scope ?_
       | refine WK.inScope ?_
       | refine WK.exit rfl ?_
       | refine WK.condT rfl ?_
       | refine WK.condF rfl ?_
       | (refine Hid.h hQ _ _ ?_; clear hQ hA)
       | refine WK.condAny rfl ?_ ?_
       | ((first | refine WK.cond2 rfl (fun h => ?_) (fun h => ?_)) <;> (first | (simp [*] at h; done) | (have h2 := h; simp at h2; exfalso; omega) | (have h2 := h; simp at h2; try simp only [Bool.not_eq_true', Bool.not_eq_false'] at h) | skip))
       | ((first | refine WK.regH Tryz.ntmps46 (by kernel_rfl) ?_ | refine WK.regX (by kernel_rfl) Tryz.ntmps46 (by kernel_rfl) ?_); intro A hA Q hQ; simp [*])
       | (refine Hid.h hQ _ _ _ (by decide +kernel) ?_; clear hQ hA)
       | (((first | refine RunQ.call rfl rfl rfl rfl rfl ?_ (hrc) ?_ ?_ | refine RunX.call rfl rfl rfl rfl ?_ (hrc) ?_ ?_); (focus (simp (maxDischargeDepth := 120) [*]; done))); (focus (simp [*]; done)); (first | refine RunQ.evalH ?_ | refine RunX.evalY ?_); simp [*])
       | fail)
      repeat (first | refine WK.seq ?_ | refine WK.block ?_ | refine WK.inBlock ?_ | refine WK.skip ?_ | refine WK.label ?_ | refine WK.scope ?_ | refine WK.inScope ?_ | refine WK.exit rfl ?_)
      refine WK.ghost (Ghost.own 2 901 1 rfl rfl) ?_
      repeat (first | refine WK.seq ?_ | refine WK.block ?_ | refine WK.inBlock ?_ | refine WK.skip ?_ | refine WK.label ?_ | refine WK.scope ?_ | refine WK.inScope ?_ | refine WK.exit rfl ?_)
      refine WK.retT2 Tryz.func46 ?_ ?_ ?_ <;> simp (maxDischargeDepth := 120) [Tryz.results46, byL_nil]
    have fit := bkFit hr
    rw [hr] at hrc
    obtain ⟨x, hxx⟩ : ∃ x, nth l i = x := ⟨_, rfl⟩
    rw [hxx] at h4 hs fit hx hrc hr
    simp only [hxx, Bucket.enc, List.getElem_cons_zero, List.getElem_cons_succ, Nat.add_zero] at g0 g1 g2 g3 l0
    have p := racencP_c x.acts hx
    have hEl := acEnc_len x.acts
    have hone : bkOne x = beN (16 + (acEnc x.acts).1.length : Nat) 2 ++ (beN x.weight 2 ++ (beN x.watch 4 ++ (beN x.wgroup 4 ++ (List.replicate 4 0#8 ++ (acEnc x.acts).1)))) := rfl
    obtain ⟨f0, f1, f2, f3, f4⟩ := fit
    obtain ⟨R, hR⟩ : ∃ R, acEnc x.acts = R := ⟨_, rfl⟩
    rw [hR] at p hEl f0 f1 hone
    obtain ⟨E, c⟩ := R
    simp only at p hEl f0 f1 hone
    subst f0
    obtain ⟨F, hF⟩ : ∃ F, rwFlat bkOne (l.take i) = F := ⟨_, rfl⟩
    rw [hF] at hs hfl ⊢
    have hFl : F.length ≤ 700000 := by omega
    have c1 := rput_c F ((16 + E.length : Nat) : Int) 2 Sz2 (by omega)
    rw [putN_beN f1] at c1
    obtain ⟨F1, hF1⟩ : ∃ F1, F ++ beN ((16 + E.length : Nat) : Int) 2 = F1 := ⟨_, rfl⟩
    rw [hF1] at c1
    have hF1l : F1.length = F.length + 2 := by rw [← hF1, List.length_append, beN_len]
    have c2 := rput_c F1 x.weight 2 Sz2 (by omega)
    rw [putN_beN f2] at c2
    obtain ⟨F2, hF2⟩ : ∃ F2, F1 ++ beN x.weight 2 = F2 := ⟨_, rfl⟩
    rw [hF2] at c2
    have hF2l : F2.length = F.length + 4 := by rw [← hF2, List.length_append, beN_len]; omega
    have c3 := rput_c F2 x.watch 4 Sz4 (by omega)
    rw [putN_beN f3] at c3
    obtain ⟨F3, hF3⟩ : ∃ F3, F2 ++ beN x.watch 4 = F3 := ⟨_, rfl⟩
    rw [hF3] at c3
    have hF3l : F3.length = F.length + 8 := by rw [← hF3, List.length_append, beN_len]; omega
    have c4 := rput_c F3 x.wgroup 4 Sz4 (by omega)
    rw [putN_beN f4] at c4
    obtain ⟨F4, hF4⟩ : ∃ F4, F3 ++ beN x.wgroup 4 = F4 := ⟨_, rfl⟩
    rw [hF4] at c4
    have hF4l : F4.length = F.length + 12 := by rw [← hF4, List.length_append, beN_len]; omega
    have hs2 : rwFlat bkOne (l.take (i + 1)) = F4 ++ (List.replicate 4 0#8 ++ E) := by
      rw [hs, hone, ← hF4, ← hF3, ← hF2, ← hF1]; simp only [List.append_assoc]
    have hz : byL (List.replicate 4 0#8) = [.int .u8 0, .int .u8 0, .int .u8 0, .int .u8 0] := rfl
    have hs3 : byL F4 ++ (AV.int .u8 0 :: AV.int .u8 0 :: AV.int .u8 0 :: AV.int .u8 0 :: byL E) = byL (rwFlat bkOne (l.take (i + 1))) := by rw [hs2, byL_app, byL_app, hz]; rfl
    have hs4 : (rwFlat bkOne (l.take (i + 1))).length = F4.length + 4 + E.length := by rw [hs2, List.length_append, List.length_append, List.length_replicate]; omega
    have w16 : IntKind.i64.wrap (16 + (E.length : Int)) = 16 + (E.length : Int) := wrap_i64 (by omega) (by omega)
    have hbd1 : F4.length + 4 ≤ 140737488355328 := by omega
    have hbd2 : F4.length + 4 + E.length ≤ 140737488355328 := by omega
    have hfu1 : (byL F).take F.length = byL F := by_full _ _ rfl
    have hfu2 : (byL F1).take F1.length = byL F1 := by_full _ _ rfl
    have hfu3 : (byL F2).take F2.length = byL F2 := by_full _ _ rfl
    have hfu4 : (byL F3).take F3.length = byL F3 := by_full _ _ rfl
    have hfu5 : (byL E).take E.length = byL E := by_full _ _ rfl
    have hj : ∀ j, j < i + 1 → bkRight (nth l j) = true := fun j hj => by
      by_cases h7 : j = i
      · subst h7; rw [hxx]; exact hr
      · exact hi.2 j (by omega)
    unfold byS actS at *
    clear hF hF1 hF2 hF3 hF4 hs hs2 hone hR f1 f2 f3 f4 hxx hF1l hF2l hF3l hF4l hfl htl hr
    repeat' (first
     | refine WK.seq ?_
     | refine WK.block ?_
     | refine WK.inBlock ?_
     | refine WK.skip ?_
     | refine WK.label ?_
     | refine WK.scope ?_
     | refine WK.inScope ?_
     | refine WK.exit rfl ?_
     | refine WK.condT rfl ?_
     | refine WK.condF rfl ?_
     | (refine Hid.h hQ _ _ ?_; clear hQ hA)
     | refine WK.condAny rfl ?_ ?_
     | ((first | refine WK.cond2 rfl (fun h => ?_) (fun h => ?_)) <;> (first | (simp [*] at h; done) | (have h2 := h; simp at h2; exfalso; omega) | (have h2 := h; simp at h2; try simp only [Bool.not_eq_true', Bool.not_eq_false'] at h) | skip))
     | ((first | refine WK.regH Tryz.ntmps46 (by kernel_rfl) ?_ | refine WK.regX (by kernel_rfl) Tryz.ntmps46 (by kernel_rfl) ?_); intro A hA Q hQ; simp [*])
     | (refine Hid.h hQ _ _ _ (by decide +kernel) ?_; clear hQ hA)
     | (refine RunQ.callOz 901 33 1 rfl rfl rfl rfl rfl rfl rfl ?_ (c1) ?_ ?_ (by simp) (by decide) ?_; (focus (simp (maxDischargeDepth := 120) [*]; done)); (focus (simp [*]; done)); (focus (simp [*]; done)); refine RunQ.evalH ?_; simp [*])
     | (refine RunX.callOz 901 33 1 rfl rfl rfl rfl rfl rfl ?_ (c1) ?_ ?_ (by simp) (by decide) ?_; (focus (simp (maxDischargeDepth := 120) [*]; done)); (focus (simp [*]; done)); (focus (simp [*]; done)); refine RunX.evalY ?_; simp [*])
     | (refine RunQ.callOz 902 37 1 rfl rfl rfl rfl rfl rfl rfl ?_ (c2) ?_ ?_ (by simp) (by decide) ?_; (focus (simp (maxDischargeDepth := 120) [*]; done)); (focus (simp [*]; done)); (focus (simp [*]; done)); refine RunQ.evalH ?_; simp [*])
     | (refine RunX.callOz 902 37 1 rfl rfl rfl rfl rfl rfl ?_ (c2) ?_ ?_ (by simp) (by decide) ?_; (focus (simp (maxDischargeDepth := 120) [*]; done)); (focus (simp [*]; done)); (focus (simp [*]; done)); refine RunX.evalY ?_; simp [*])
     | (refine RunQ.callOz 903 44 1 rfl rfl rfl rfl rfl rfl rfl ?_ (c3) ?_ ?_ (by simp) (by decide) ?_; (focus (simp (maxDischargeDepth := 120) [*]; done)); (focus (simp [*]; done)); (focus (simp [*]; done)); refine RunQ.evalH ?_; simp [*])
     | (refine RunX.callOz 903 44 1 rfl rfl rfl rfl rfl rfl ?_ (c3) ?_ ?_ (by simp) (by decide) ?_; (focus (simp (maxDischargeDepth := 120) [*]; done)); (focus (simp [*]; done)); (focus (simp [*]; done)); refine RunX.evalY ?_; simp [*])
     | (refine RunQ.callOz 904 50 1 rfl rfl rfl rfl rfl rfl rfl ?_ (c4) ?_ ?_ (by simp) (by decide) ?_; (focus (simp (maxDischargeDepth := 120) [*]; done)); (focus (simp [*]; done)); (focus (simp [*]; done)); refine RunQ.evalH ?_; simp [*])
     | (refine RunX.callOz 904 50 1 rfl rfl rfl rfl rfl rfl ?_ (c4) ?_ ?_ (by simp) (by decide) ?_; (focus (simp (maxDischargeDepth := 120) [*]; done)); (focus (simp [*]; done)); (focus (simp [*]; done)); refine RunX.evalY ?_; simp [*])
     | (refine RunQ.append 905 appByte rfl rfl rfl rfl rfl rfl rfl rfl rfl ?_ ?_ ?_ ?_ ?_; (focus (first | omega | (simp [*]; done); done)); (focus (first | omega | (simp [*]; done); done)); (focus (first | omega | (simp [*]; done); done)); (focus (first | omega | (simp [*]; done); done)); refine RunQ.evalH ?_; simp [*])
     | (refine RunX.append 905 appByte rfl rfl rfl rfl rfl rfl rfl rfl ?_ ?_ ?_ ?_ ?_; (focus (first | omega | (simp [*]; done); done)); (focus (first | omega | (simp [*]; done); done)); (focus (first | omega | (simp [*]; done); done)); (focus (first | omega | (simp [*]; done); done)); refine RunX.evalY ?_; simp [*])
     | (refine RunQ.append 906 appByte rfl rfl rfl rfl rfl rfl rfl rfl rfl ?_ ?_ ?_ ?_ ?_; (focus (first | omega | (simp [*]; done); done)); (focus (first | omega | (simp [*]; done); done)); (focus (first | omega | (simp [*]; done); done)); (focus (first | omega | (simp [*]; done); done)); refine RunQ.evalH ?_; simp [*])
     | (refine RunX.append 906 appByte rfl rfl rfl rfl rfl rfl rfl rfl ?_ ?_ ?_ ?_ ?_; (focus (first | omega | (simp [*]; done); done)); (focus (first | omega | (simp [*]; done); done)); (focus (first | omega | (simp [*]; done); done)); (focus (first | omega | (simp [*]; done); done)); refine RunX.evalY ?_; simp [*])
     | ((first | ((first | refine RunQ.call rfl rfl rfl rfl rfl ?_ (hrc) ?_ ?_ | refine RunX.call rfl rfl rfl rfl ?_ (hrc) ?_ ?_); (focus (simp (maxDischargeDepth := 120) [*]; done))) | ((first | refine RunQ.call rfl rfl rfl rfl rfl ?_ (p) ?_ ?_ | refine RunX.call rfl rfl rfl rfl ?_ (p) ?_ ?_); (focus (simp (maxDischargeDepth := 120) [*]; done)))); (focus (simp [*]; done)); (first | refine RunQ.evalH ?_ | refine RunX.evalY ?_); simp [*])
     | fail)
    repeat (first | refine WK.seq ?_ | refine WK.block ?_ | refine WK.inBlock ?_ | refine WK.skip ?_ | refine WK.label ?_ | refine WK.scope ?_ | refine WK.inScope ?_ | refine WK.exit rfl ?_)
    refine WK.next (fun n => if n = 1 then 906 else n) (IH (i + 1) (⟨by omega, hj⟩) (by first | omega | (dsimp only; omega))) (by repeat (first | exact TmW.nil | refine TmW.upd ?_ (by simp (maxDischargeDepth := 120) [hs3, hs4]))) (by repeat (first | exact BxW.nil | refine BxW.upd ?_ (by simp (maxDischargeDepth := 120) [hs3, hs4]))) (by first | exact InjW.id | exact InjW.nil | exact InjW.one | exact InjW.two (by simp) | exact InjW.three (by simp) (by simp) (by simp))
  · have hT : l.take i = l := List.take_of_length_le (by omega)
    have hr : l.all bkRight = true := all_true_bk fun j hj => hi.2 j (by omega)
    have hdef : bkEnc l = if (rwFlat bkOne l).length ≤ 60000 then (rwFlat bkOne l, 0) else ([], 1) := by
      unfold bkEnc
      by_cases hh : (rwFlat bkOne l).length ≤ 60000
      · rw [if_pos hh, if_pos ⟨by omega, hr, hh⟩]
      · rw [if_neg hh, if_neg fun h => hh h.2.2]
    rw [hT] at hfl ⊢
    obtain ⟨F, hF⟩ : ∃ F, rwFlat bkOne l = F := ⟨_, rfl⟩
    rw [hF] at hdef hfl ⊢
    by_cases h6 : F.length ≤ 60000
    · have j6 : ¬ (60000 : Int) < F.length := by omega
      rw [if_pos h6] at hdef
      rw [hdef]
      clear hF hdef
      repeat' (first
       | refine WK.seq ?_
       | refine WK.block ?_
       | refine WK.inBlock ?_
       | refine WK.skip ?_
       | refine WK.label ?_
       | refine WK.scope ?_
       | refine WK.inScope ?_
       | refine WK.exit rfl ?_
       | refine WK.condT rfl ?_
       | refine WK.condF rfl ?_
       | (refine Hid.h hQ _ _ ?_; clear hQ hA)
       | refine WK.condAny rfl ?_ ?_
       | ((first | refine WK.cond2 rfl (fun h => ?_) (fun h => ?_)) <;> (first | (simp [*] at h; done) | (have h2 := h; simp at h2; exfalso; omega) | (have h2 := h; simp at h2; try simp only [Bool.not_eq_true', Bool.not_eq_false'] at h) | skip))
       | ((first | refine WK.regH Tryz.ntmps46 (by kernel_rfl) ?_ | refine WK.regX (by kernel_rfl) Tryz.ntmps46 (by kernel_rfl) ?_); intro A hA Q hQ; simp [*])
       | (refine Hid.h hQ _ _ _ (by decide +kernel) ?_; clear hQ hA)
       | (refine WK.retT2 Tryz.func46 ?_ ?_ ?_ <;> simp (maxDischargeDepth := 120) [Tryz.results46, *])
       | fail)
    · have j6 : (60000 : Int) < F.length := by omega
      rw [if_neg h6] at hdef
      rw [hdef]
      clear hF hdef
      repeat' (first
       | refine WK.seq ?_
       | refine WK.block ?_
       | refine WK.inBlock ?_
       | refine WK.skip ?_
       | refine WK.label ?_
       | refine WK.scope ?_
       | refine WK.inScope ?_
       | refine WK.exit rfl ?_
       | refine WK.condT rfl ?_
       | refine WK.condF rfl ?_
       | (refine Hid.h hQ _ _ ?_; clear hQ hA)
       | refine WK.condAny rfl ?_ ?_
       | ((first | refine WK.cond2 rfl (fun h => ?_) (fun h => ?_)) <;> (first | (simp [*] at h; done) | (have h2 := h; simp at h2; exfalso; omega) | (have h2 := h; simp at h2; try simp only [Bool.not_eq_true', Bool.not_eq_false'] at h) | skip))
       | ((first | refine WK.regH Tryz.ntmps46 (by kernel_rfl) ?_ | refine WK.regX (by kernel_rfl) Tryz.ntmps46 (by kernel_rfl) ?_); intro A hA Q hQ; simp [*])
       | (refine Hid.h hQ _ _ _ (by decide +kernel) ?_; clear hQ hA)
       | fail)
      repeat (first | refine WK.seq ?_ | refine WK.block ?_ | refine WK.inBlock ?_ | refine WK.skip ?_ | refine WK.label ?_ | refine WK.scope ?_ | refine WK.inScope ?_ | refine WK.exit rfl ?_)
      refine WK.ghost (Ghost.own 2 907 1 rfl rfl) ?_
      repeat (first | refine WK.seq ?_ | refine WK.block ?_ | refine WK.inBlock ?_ | refine WK.skip ?_ | refine WK.label ?_ | refine WK.scope ?_ | refine WK.inScope ?_ | refine WK.exit rfl ?_)
      refine WK.retT2 Tryz.func46 ?_ ?_ ?_ <;> simp (maxDischargeDepth := 120) [Tryz.results46, byL_nil]
end Go.Proofs.YteonfhnljphbpaaGreat
end

section
set_option linter.unusedVariables false
set_option linter.unusedSimpArgs false
namespace Go.Proofs.YteonfhnljphbpaaGreat
open Go Go.AI Go.Proofs
attribute [local irreducible] FnP FnO FnB FnT FnSeq WK RunQ RunQW RunX RunXW

def Bucket.same (a b : Bucket) : Bool := a.weight == b.weight && (a.watch == b.watch && (a.wgroup == b.wgroup && eqBy (· == ·) a.acts b.acts))
theorem bkSame_self (x : Bucket) : Bucket.same x x = true := by unfold Bucket.same; simp [eqBy_selfA]
theorem bsame_c (a b : Bucket) (ha : a.acts.length ≤ 1000000) : FnP Tryz.prog 82 [.agg a.enc, .agg b.enc] (.bool (Bucket.same a b)) := by
  have hsa := acsame_c a.acts b.acts ha
  unfold actS at hsa
  have e : Bucket.same a b = (a.weight == b.weight && (a.watch == b.watch && (a.wgroup == b.wgroup && eqBy (· == ·) a.acts b.acts))) := rfl
  obtain ⟨s, hs⟩ : ∃ s, eqBy (· == ·) a.acts b.acts = s := ⟨_, rfl⟩
  rw [hs] at hsa e
  refine FnP.intro Tryz.func82 rfl rfl fun G w => ?_
  repeat' (first
   | refine WK.seq ?_
   | refine WK.block ?_
   | refine WK.inBlock ?_
   | refine WK.skip ?_
   | refine WK.label ?_
   | refine WK.scope ?_
   | refine WK.inScope ?_
   | refine WK.exit rfl ?_
   | refine WK.condT rfl ?_
   | refine WK.condF rfl ?_
   | (refine Hid.h hQ _ _ ?_; clear hQ hA)
   | refine WK.condAny rfl ?_ ?_
   | ((first | refine WK.cond2 rfl (fun h => ?_) (fun h => ?_) | refine Fork.mk (fun h => ?_) (fun h => ?_)) <;> (first | (simp [*] at h; done) | (have h2 := h; simp at h2; exfalso; omega) | (have h2 := h; simp at h2; try simp only [Bool.not_eq_true', Bool.not_eq_false'] at h) | skip))
   | (refine WK.regH Tryz.ntmps82 (by kernel_rfl) ?_; intro A hA Q hQ; simp [Bucket.enc, *])
   | (refine RunQ.gd rfl (by rw [hA.h]; rfl) ?_; simp [Bucket.enc, *])
   | (((first | refine RunQ.call rfl rfl rfl rfl rfl ?_ (hsa) ?_ ?_ | refine RunQW.call rfl rfl rfl rfl ?_ (hsa) ?_ ?_); (focus (simp (maxDischargeDepth := 120) [Bucket.enc, *]; done))); (focus (simp [Bucket.enc, *]; done)); refine RunQ.evalH ?_; simp [Bucket.enc, *])
   | (refine WK.ret Tryz.func82 ?_ ?_ <;> simp (maxDischargeDepth := 120) [Tryz.results82, Bucket.enc, *])
   | fail)
theorem bsameL_c (l m : List Bucket) (hl : l.length ≤ 1000000) (ha : ∀ x, x ∈ l → x.acts.length ≤ 1000000) : FnP Tryz.prog 50 [bukS l, bukS m] (.bool (eqBy Bucket.same l m)) := by
  have h := eqf_buk 82 [] Bucket.same l m rfl hl (fun x hx y _ => bsame_c x y (ha x hx))
  unfold bukS at *
  refine FnP.intro Tryz.func50 rfl rfl fun G w => ?_
  repeat' (first
   | refine WK.seq ?_
   | refine WK.block ?_
   | refine WK.inBlock ?_
   | refine WK.skip ?_
   | refine WK.label ?_
   | refine WK.scope ?_
   | refine WK.inScope ?_
   | refine WK.exit rfl ?_
   | refine WK.condT rfl ?_
   | refine WK.condF rfl ?_
   | (refine Hid.h hQ _ _ ?_; clear hQ hA)
   | refine WK.condAny rfl ?_ ?_
   | ((first | refine WK.cond2 rfl (fun h => ?_) (fun h => ?_)) <;> (first | (simp [*] at h; done) | (have h2 := h; simp at h2; exfalso; omega) | (have h2 := h; simp at h2; try simp only [Bool.not_eq_true', Bool.not_eq_false'] at h) | skip))
   | (refine WK.regH Tryz.ntmps50 (by kernel_rfl) ?_; intro A hA Q hQ; simp [*])
   | ((refine RunQ.call rfl rfl rfl rfl rfl ?_ (h) ?_ ?_; (focus (simp (maxDischargeDepth := 120) [*]; done))); (focus (simp [*]; done)); refine RunQ.evalH ?_; simp [*])
   | (refine WK.ret Tryz.func50 ?_ ?_ <;> simp (maxDischargeDepth := 120) [Tryz.results50, *])
   | fail)
set_option maxHeartbeats 4000000 in
theorem rbsameL_c (l m : List Bucket) (hl : l.length ≤ 1000000) (ha : ∀ x, x ∈ l → x.acts.length ≤ 1000000) : FnP Tryz.prog 40 [bukS l, bukS m] (.bool (eqBy Bucket.same l m)) := by
  unfold bukS
  by_cases hlm : l.length = m.length
  case neg =>
    have e : eqBy Bucket.same l m = false := by unfold eqBy; simp; intro e; omega
    have e2 : ((l.length : Int) == (m.length : Int)) = false := by rw [beq_eq_false_iff_ne]; omega
    refine FnP.intro Tryz.func40 rfl rfl fun G w => ?_
    repeat' (first
     | refine WK.seq ?_
     | refine WK.block ?_
     | refine WK.inBlock ?_
     | refine WK.skip ?_
     | refine WK.label ?_
     | refine WK.scope ?_
     | refine WK.inScope ?_
     | refine WK.exit rfl ?_
     | refine WK.condT rfl ?_
     | refine WK.condF rfl ?_
     | (refine Hid.h hQ _ _ ?_; clear hQ hA)
     | refine WK.condAny rfl ?_ ?_
     | ((first | refine WK.cond2 rfl (fun h => ?_) (fun h => ?_) | refine Fork.mk (fun h => ?_) (fun h => ?_)) <;> (first | (simp [*] at h; done) | (have h2 := h; simp at h2; exfalso; omega) | (have h2 := h; simp at h2; try simp only [Bool.not_eq_true', Bool.not_eq_false'] at h) | skip))
     | ((first | refine WK.regH Tryz.ntmps40 (by kernel_rfl) ?_ | refine WK.regX (by kernel_rfl) Tryz.ntmps40 (by kernel_rfl) ?_); intro A hA Q hQ; simp [bne, *])
     | (refine Hid.h hQ _ _ _ (by decide +kernel) ?_; clear hQ hA)
     | ((first | refine RunQ.gd rfl (by rw [hA.h]; rfl) ?_ | refine RunX.gd rfl (by rw [hA.h]; rfl) ?_); simp [bne, *])
     | (refine WK.ret Tryz.func40 ?_ ?_ <;> simp (maxDischargeDepth := 120) [Tryz.results40, bne, *])
     | fail)
  have e2 : ((l.length : Int) == (m.length : Int)) = true := by rw [beq_iff_eq]; omega
  have hl1 : ¬ l.length < m.length := by omega
  have hl2 : ¬ m.length < l.length := by omega
  clear hlm
  refine FnP.intro Tryz.func40 rfl rfl fun G w => ?_
  repeat' (first
   | refine WK.seq ?_
   | refine WK.block ?_
   | refine WK.inBlock ?_
   | refine WK.skip ?_
   | refine WK.label ?_
   | refine WK.scope ?_
   | refine WK.inScope ?_
   | refine WK.exit rfl ?_
   | refine WK.condT rfl ?_
   | refine WK.condF rfl ?_
   | (refine Hid.h hQ _ _ ?_; clear hQ hA)
   | refine WK.condAny rfl ?_ ?_
   | ((first | refine WK.cond2 rfl (fun h => ?_) (fun h => ?_) | refine Fork.mk (fun h => ?_) (fun h => ?_)) <;> (first | (simp [*] at h; done) | (have h2 := h; simp at h2; exfalso; omega) | (have h2 := h; simp at h2; try simp only [Bool.not_eq_true', Bool.not_eq_false'] at h) | skip))
   | ((first | refine WK.regH Tryz.ntmps40 (by kernel_rfl) ?_ | refine WK.regX (by kernel_rfl) Tryz.ntmps40 (by kernel_rfl) ?_); intro A hA Q hQ; simp [bne, *])
   | (refine Hid.h hQ _ _ _ (by decide +kernel) ?_; clear hQ hA)
   | ((first | refine RunQ.gd rfl (by rw [hA.h]; rfl) ?_ | refine RunX.gd rfl (by rw [hA.h]; rfl) ?_); simp [bne, *])
   | fail)
  repeat (first | refine WK.seq ?_ | refine WK.block ?_ | refine WK.inBlock ?_ | refine WK.skip ?_ | refine WK.label ?_ | refine WK.scope ?_ | refine WK.inScope ?_ | refine WK.exit rfl ?_)
  refine WK.loopI (fun n => n) (fun i : Nat => (⟨(upd (upd (upd J 0 (.sl false l.length (bukL l))) 1 (.sl false m.length (bukL m))) 5 (.int .i64 i)), B0, 0⟩ : St)) (fun i => i ≤ l.length ∧ ∀ j, j < i → Bucket.same (nth l j) (nth m j) = true) (fun i => l.length - i) (0) (by repeat (first | exact TmW.nil | refine TmW.upd ?_ (by simp (maxDischargeDepth := 120)))) (by repeat (first | exact BxW.nil | refine BxW.upd ?_ (by simp (maxDischargeDepth := 120)))) (by first | exact InjW.id | exact InjW.nil | exact InjW.one | exact InjW.two (by simp) | exact InjW.three (by simp) (by simp) (by simp)) (⟨by omega, by simp⟩) (fun i hi IH => ?_)
  by_cases h1 : i < l.length
  · have h2 : i < m.length := by omega
    have g0 := buk_get l i 0 h1 (by omega)
    have g1 := buk_get l i 1 h1 (by omega)
    have g2 := buk_get l i 2 h1 (by omega)
    have g3 := buk_get l i 3 h1 (by omega)
    have k0 := buk_get m i 0 h2 (by omega)
    have k1 := buk_get m i 1 h2 (by omega)
    have k2 := buk_get m i 2 h2 (by omega)
    have k3 := buk_get m i 3 h2 (by omega)
    have l0 : i * 4 < l.length * 4 := by omega
    have l1 : i * 4 + 1 < l.length * 4 := by omega
    have l2 : i * 4 + 2 < l.length * 4 := by omega
    have l3 : i * 4 + 3 < l.length * 4 := by omega
    have m0 : i * 4 < m.length * 4 := by omega
    have m1 : i * 4 + 1 < m.length * 4 := by omega
    have m2 : i * 4 + 2 < m.length * 4 := by omega
    have m3 : i * 4 + 3 < m.length * 4 := by omega
    have h6 : IntKind.i64.wrap ((i : Int) + 1) = i + 1 := wrap_i64 (by omega) (by omega)
    have hc := rsame_act (nth l i).acts (nth m i).acts (ha _ (nth_mem h1))
    have hd : Bucket.same (nth l i) (nth m i) = ((nth l i).weight == (nth m i).weight && ((nth l i).watch == (nth m i).watch && ((nth l i).wgroup == (nth m i).wgroup && eqBy (· == ·) (nth l i).acts (nth m i).acts))) := rfl
    have hr : Bucket.same (nth l i) (nth m i) = false → eqBy Bucket.same l m = false := fun h => by unfold eqBy; rw [all_range_false (p := fun i => Bucket.same (nth l i) (nth m i)) h1 h]; simp
    have hj : Bucket.same (nth l i) (nth m i) = true → ∀ j, j < i + 1 → Bucket.same (nth l j) (nth m j) = true := fun h j hj => by
      by_cases h7 : j = i
      · subst h7; exact h
      · exact hi.2 j (by omega)
    obtain ⟨x, hx⟩ : ∃ x, nth l i = x := ⟨_, rfl⟩
    obtain ⟨y, hy⟩ : ∃ y, nth m i = y := ⟨_, rfl⟩
    simp only [hx, Bucket.enc, List.getElem_cons_zero, List.getElem_cons_succ, Nat.add_zero] at g0 g1 g2 g3
    simp only [hy, Bucket.enc, List.getElem_cons_zero, List.getElem_cons_succ, Nat.add_zero] at k0 k1 k2 k3
    simp only [hx, hy] at hc hd hr hj
    unfold actS at hc
    obtain ⟨z0, hz0⟩ : ∃ z, (x.weight == y.weight) = z := ⟨_, rfl⟩
    obtain ⟨z1, hz1⟩ : ∃ z, (x.watch == y.watch) = z := ⟨_, rfl⟩
    obtain ⟨z2, hz2⟩ : ∃ z, (x.wgroup == y.wgroup) = z := ⟨_, rfl⟩
    obtain ⟨z3, hz3⟩ : ∃ z, eqBy (· == ·) x.acts y.acts = z := ⟨_, rfl⟩
    rw [hz0, hz1, hz2, hz3] at hd
    rw [hz3] at hc
    clear hx hy hz3
    rw [hd] at hr hj
    cases hz : (z0 && (z1 && (z2 && z3)))
    · have e := hr hz
      rw [e]
      clear hr hj hd
      rcases and4_false hz with rfl | ⟨rfl, rfl⟩ | ⟨rfl, rfl, rfl⟩ | ⟨rfl, rfl, rfl, rfl⟩ <;>
      · clear hz
        repeat' (first
         | refine WK.seq ?_
         | refine WK.block ?_
         | refine WK.inBlock ?_
         | refine WK.skip ?_
         | refine WK.label ?_
         | refine WK.scope ?_
         | refine WK.inScope ?_
         | refine WK.exit rfl ?_
         | refine WK.condT rfl ?_
         | refine WK.condF rfl ?_
         | (refine Hid.h hQ _ _ ?_; clear hQ hA)
         | refine WK.condAny rfl ?_ ?_
         | ((first | refine WK.cond2 rfl (fun h => ?_) (fun h => ?_) | refine Fork.mk (fun h => ?_) (fun h => ?_)) <;> (first | (simp [*] at h; done) | (have h2 := h; simp at h2; exfalso; omega) | (have h2 := h; simp at h2; try simp only [Bool.not_eq_true', Bool.not_eq_false'] at h) | skip))
         | ((first | refine WK.regH Tryz.ntmps40 (by kernel_rfl) ?_ | refine WK.regX (by kernel_rfl) Tryz.ntmps40 (by kernel_rfl) ?_); intro A hA Q hQ; simp [bne, *])
         | (refine Hid.h hQ _ _ _ (by decide +kernel) ?_; clear hQ hA)
         | ((first | refine RunQ.gd rfl (by rw [hA.h]; rfl) ?_ | refine RunX.gd rfl (by rw [hA.h]; rfl) ?_); simp [bne, *])
         | (((first | refine RunQ.call rfl rfl rfl rfl rfl ?_ (hc) ?_ ?_ | refine RunQW.call rfl rfl rfl rfl ?_ (hc) ?_ ?_ | refine RunX.call rfl rfl rfl rfl ?_ (hc) ?_ ?_ | refine RunXW.call rfl rfl rfl ?_ (hc) ?_ ?_); (focus (simp (maxDischargeDepth := 120) [bne, *]; done))); (focus (simp [bne, *]; done)); (first | refine RunQ.evalH ?_ | refine RunX.evalY ?_); simp [bne, *])
         | (refine WK.ret Tryz.func40 ?_ ?_ <;> simp (maxDischargeDepth := 120) [Tryz.results40, bne, *])
         | fail)
    · have e := hj hz
      obtain ⟨rfl, rfl, rfl, rfl⟩ := and4_true hz
      clear hr hj hd hz
      repeat' (first
       | refine WK.seq ?_
       | refine WK.block ?_
       | refine WK.inBlock ?_
       | refine WK.skip ?_
       | refine WK.label ?_
       | refine WK.scope ?_
       | refine WK.inScope ?_
       | refine WK.exit rfl ?_
       | refine WK.condT rfl ?_
       | refine WK.condF rfl ?_
       | (refine Hid.h hQ _ _ ?_; clear hQ hA)
       | refine WK.condAny rfl ?_ ?_
       | ((first | refine WK.cond2 rfl (fun h => ?_) (fun h => ?_) | refine Fork.mk (fun h => ?_) (fun h => ?_)) <;> (first | (simp [*] at h; done) | (have h2 := h; simp at h2; exfalso; omega) | (have h2 := h; simp at h2; try simp only [Bool.not_eq_true', Bool.not_eq_false'] at h) | skip))
       | ((first | refine WK.regH Tryz.ntmps40 (by kernel_rfl) ?_ | refine WK.regX (by kernel_rfl) Tryz.ntmps40 (by kernel_rfl) ?_); intro A hA Q hQ; simp [bne, *])
       | (refine Hid.h hQ _ _ _ (by decide +kernel) ?_; clear hQ hA)
       | ((first | refine RunQ.gd rfl (by rw [hA.h]; rfl) ?_ | refine RunX.gd rfl (by rw [hA.h]; rfl) ?_); simp [bne, *])
       | (((first | refine RunQ.call rfl rfl rfl rfl rfl ?_ (hc) ?_ ?_ | refine RunQW.call rfl rfl rfl rfl ?_ (hc) ?_ ?_ | refine RunX.call rfl rfl rfl rfl ?_ (hc) ?_ ?_ | refine RunXW.call rfl rfl rfl ?_ (hc) ?_ ?_); (focus (simp (maxDischargeDepth := 120) [bne, *]; done))); (focus (simp [bne, *]; done)); (first | refine RunQ.evalH ?_ | refine RunX.evalY ?_); simp [bne, *])
       | fail)
      repeat (first | refine WK.seq ?_ | refine WK.block ?_ | refine WK.inBlock ?_ | refine WK.skip ?_ | refine WK.label ?_ | refine WK.scope ?_ | refine WK.inScope ?_ | refine WK.exit rfl ?_)
      refine WK.next (fun n => n) (IH (i + 1) (⟨by omega, e⟩) (by first | omega | (dsimp only; omega))) (by repeat (first | exact TmW.nil | refine TmW.upd ?_ (by simp (maxDischargeDepth := 120)))) (by repeat (first | exact BxW.nil | refine BxW.upd ?_ (by simp (maxDischargeDepth := 120)))) (by first | exact InjW.id | exact InjW.nil | exact InjW.one | exact InjW.two (by simp) | exact InjW.three (by simp) (by simp) (by simp))
  · have e : eqBy Bucket.same l m = true := by unfold eqBy; rw [all_range_true (p := fun i => Bucket.same (nth l i) (nth m i)) (fun j hj => hi.2 j (by omega))]; simp; omega
    repeat' (first
     | refine WK.seq ?_
     | refine WK.block ?_
     | refine WK.inBlock ?_
     | refine WK.skip ?_
     | refine WK.label ?_
     | refine WK.scope ?_
     | refine WK.inScope ?_
     | refine WK.exit rfl ?_
     | refine WK.condT rfl ?_
     | refine WK.condF rfl ?_
     | (refine Hid.h hQ _ _ ?_; clear hQ hA)
     | refine WK.condAny rfl ?_ ?_
     | ((first | refine WK.cond2 rfl (fun h => ?_) (fun h => ?_) | refine Fork.mk (fun h => ?_) (fun h => ?_)) <;> (first | (simp [*] at h; done) | (have h2 := h; simp at h2; exfalso; omega) | (have h2 := h; simp at h2; try simp only [Bool.not_eq_true', Bool.not_eq_false'] at h) | skip))
     | ((first | refine WK.regH Tryz.ntmps40 (by kernel_rfl) ?_ | refine WK.regX (by kernel_rfl) Tryz.ntmps40 (by kernel_rfl) ?_); intro A hA Q hQ; simp [*])
     | (refine Hid.h hQ _ _ _ (by decide +kernel) ?_; clear hQ hA)
     | ((first | refine RunQ.gd rfl (by rw [hA.h]; rfl) ?_ | refine RunX.gd rfl (by rw [hA.h]; rfl) ?_); simp [*])
     | (refine WK.ret Tryz.func40 ?_ ?_ <;> simp (maxDischargeDepth := 120) [Tryz.results40, *])
     | fail)
def bucketsPlain (l : List Bucket) (m : Int) : Bool := decide ((l.length : Int) ≤ m) && l.all fun x => actsPlain x.acts
theorem pbuk1_c (x : Bucket) : FnP Tryz.prog 42 [.agg x.enc] (.bool (!actsPlain x.acts)) := by
  have h := pacts_c x.acts
  unfold actS at h
  refine FnP.intro Tryz.func42 rfl rfl fun G w => ?_
  repeat' (first
   | refine WK.seq ?_
   | refine WK.block ?_
   | refine WK.inBlock ?_
   | refine WK.skip ?_
   | refine WK.label ?_
   | refine WK.scope ?_
   | refine WK.inScope ?_
   | refine WK.exit rfl ?_
   | refine WK.condT rfl ?_
   | refine WK.condF rfl ?_
   | (refine Hid.h hQ _ _ ?_; clear hQ hA)
   | refine WK.condAny rfl ?_ ?_
   | ((first | refine WK.cond2 rfl (fun h => ?_) (fun h => ?_)) <;> (first | (simp [*] at h; done) | (have h2 := h; simp at h2; exfalso; omega) | (have h2 := h; simp at h2; try simp only [Bool.not_eq_true', Bool.not_eq_false'] at h) | skip))
   | (refine WK.regH Tryz.ntmps42 (by kernel_rfl) ?_; intro A hA Q hQ; simp [Bucket.enc, *])
   | ((refine RunQ.call rfl rfl rfl rfl rfl ?_ (h) ?_ ?_; (focus (simp (maxDischargeDepth := 120) [Bucket.enc, *]; done))); (focus (simp [Bucket.enc, *]; done)); refine RunQ.evalH ?_; simp [Bucket.enc, *])
   | (refine WK.ret Tryz.func42 ?_ ?_ <;> simp (maxDischargeDepth := 120) [Tryz.results42, Bucket.enc, *])
   | fail)
theorem pbuckets_c (l : List Bucket) (m : Int) (hm : m ≤ 1000) : FnP Tryz.prog 11 [bukS l, .int .i64 m] (.bool (bucketsPlain l m)) := by
  unfold bucketsPlain
  by_cases h1 : (l.length : Int) ≤ m
  · have hco := containsf_buk 42 [] (fun x => !actsPlain x.acts) l rfl (by omega) (fun x _ => pbuk1_c x)
    rw [anyNot_all] at hco
    have e : decide ((l.length : Int) ≤ m) = true := by simpa using h1
    unfold bukS at *
    refine FnP.intro Tryz.func11 rfl rfl fun G w => ?_
    repeat' (first
     | refine WK.seq ?_
     | refine WK.block ?_
     | refine WK.inBlock ?_
     | refine WK.skip ?_
     | refine WK.label ?_
     | refine WK.scope ?_
     | refine WK.inScope ?_
     | refine WK.exit rfl ?_
     | refine WK.condT rfl ?_
     | refine WK.condF rfl ?_
     | (refine Hid.h hQ _ _ ?_; clear hQ hA)
     | refine WK.condAny rfl ?_ ?_
     | ((first | refine WK.cond2 rfl (fun h => ?_) (fun h => ?_) | refine Fork.mk (fun h => ?_) (fun h => ?_)) <;> (first | (simp [*] at h; done) | (have h2 := h; simp at h2; exfalso; omega) | (have h2 := h; simp at h2; try simp only [Bool.not_eq_true', Bool.not_eq_false'] at h) | skip))
     | (refine WK.regH Tryz.ntmps11 (by kernel_rfl) ?_; intro A hA Q hQ; simp [*])
     | (refine RunQ.gd rfl (by rw [hA.h]; rfl) ?_; simp [*])
     | (((first | refine RunQ.call rfl rfl rfl rfl rfl ?_ (hco) ?_ ?_ | refine RunQW.call rfl rfl rfl rfl ?_ (hco) ?_ ?_); (focus (simp (maxDischargeDepth := 120) [*]; done))); (focus (simp [*]; done)); refine RunQ.evalH ?_; simp [*])
     | (refine WK.ret Tryz.func11 ?_ ?_ <;> simp (maxDischargeDepth := 120) [Tryz.results11, *])
     | fail)
  · have e : decide ((l.length : Int) ≤ m) = false := by simpa using h1
    unfold bukS at *
    refine FnP.intro Tryz.func11 rfl rfl fun G w => ?_
    repeat' (first
     | refine WK.seq ?_
     | refine WK.block ?_
     | refine WK.inBlock ?_
     | refine WK.skip ?_
     | refine WK.label ?_
     | refine WK.scope ?_
     | refine WK.inScope ?_
     | refine WK.exit rfl ?_
     | refine WK.condT rfl ?_
     | refine WK.condF rfl ?_
     | (refine Hid.h hQ _ _ ?_; clear hQ hA)
     | refine WK.condAny rfl ?_ ?_
     | ((first | refine WK.cond2 rfl (fun h => ?_) (fun h => ?_) | refine Fork.mk (fun h => ?_) (fun h => ?_)) <;> (first | (simp [*] at h; done) | (have h2 := h; simp at h2; exfalso; omega) | (have h2 := h; simp at h2; try simp only [Bool.not_eq_true', Bool.not_eq_false'] at h) | skip))
     | (refine WK.regH Tryz.ntmps11 (by kernel_rfl) ?_; intro A hA Q hQ; simp [*])
     | (refine RunQ.gd rfl (by rw [hA.h]; rfl) ?_; simp [*])
     | (refine WK.ret Tryz.func11 ?_ ?_ <;> simp (maxDischargeDepth := 120) [Tryz.results11, *])
     | fail)
theorem bucketsPlain_facts {l : List Bucket} {m : Int} (h : bucketsPlain l m = true) : (l.length : Int) ≤ m ∧ ∀ x, x ∈ l → x.acts.length ≤ 12 := by
  unfold bucketsPlain at h
  rw [Bool.and_eq_true, decide_eq_true_eq, List.all_eq_true] at h
  exact ⟨h.1, fun x hx => by have := h.2 x hx; unfold actsPlain at this; simpa using this⟩
theorem bkencP_c (l : List Bucket) (hl : l.length ≤ 1000000) (ha : ∀ x, x ∈ l → x.acts.length ≤ 1000000) : FnP Tryz.prog 44 [bukS l] (.tup [byS (bkEnc l).1, .int .i64 (bkEnc l).2]) := by
  have h := (bkenc_c l hl ha).toP (by simp [byL_take]) (by rfl)
  rwa [Nat.mul_one, by_full _ _ rfl] at h
theorem rbkencP_c (l : List Bucket) (hl : l.length ≤ 1000000) (ha : ∀ x, x ∈ l → x.acts.length ≤ 1000000) : FnP Tryz.prog 46 [bukS l] (.tup [byS (bkEnc l).1, .int .i64 (bkEnc l).2]) := by
  have h := (rbkenc_c l hl ha).toP (by simp [byL_take]) (by rfl)
  rwa [Nat.mul_one, by_full _ _ rfl] at h
theorem bkdecP_c (b : List (BitVec 8)) (hb : b.length ≤ 1000000) : FnP Tryz.prog 36 [byS b] (.tup [bukS (bkDec b).1, .agg (gFault (bkDec b).2)]) := by
  have h := (bkdec_c b hb).toP (by simp) (by simp [ClL, Cl])
  rwa [bukL_take] at h
end Go.Proofs.YteonfhnljphbpaaGreat
end
