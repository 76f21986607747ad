/- Instructions: their bytes. -/
import Derived.Test.YteonfhnljphbpaaGreatWk11
set_option linter.all false
set_option linter.unnecessarySimpa false
section
set_option linter.unusedVariables false
set_option linter.unusedSimpArgs false
namespace Go.Proofs.YteonfhnljphbpaaGreat
open Go Go.AI Go.Proofs
attribute [local irreducible] FnP FnO FnB FnT FnSeq WK RunQ RunQW RunX RunXW

theorem z4L : byL (List.replicate 4 0#8) = [.int .u8 0, .int .u8 0, .int .u8 0, .int .u8 0] := rfl
set_option maxHeartbeats 4000000 in
theorem ibody_c (i : Inst) (hi : i.acts.length ≤ 1000000) : FnO Tryz.prog 59 [.agg i.enc] (inBody i).length 1 (byL (inBody i)) := by
  obtain ⟨kk, t, v, m, l⟩ := i
  by_cases k1 : kk = 1
  · subst k1
    have e : inBody ⟨1, t, v, m, l⟩ = BitVec.ofInt 8 t :: List.replicate 3 0#8 := by unfold inBody; rw [if_pos rfl]
    have w := wrap_u8 t
    have e2 : byL (BitVec.ofInt 8 t :: List.replicate 3 0#8) = [.int .u8 (bI (BitVec.ofInt 8 t)), .int .u8 0, .int .u8 0, .int .u8 0] := rfl
    have hl : (BitVec.ofInt 8 t :: List.replicate 3 0#8).length = 4 := rfl
    rw [e]
    obtain ⟨K, hK⟩ : ∃ K, BitVec.ofInt 8 t :: List.replicate 3 0#8 = K := ⟨_, rfl⟩
    rw [hK] at e2 hl ⊢
    rw [hl]
    clear hK e
    refine FnO.intro Tryz.func59 rfl rfl fun G w => ?_
    repeat' (first
     | refine WK.seq ?_
     | refine WK.block ?_
     | refine WK.inBlock ?_
     | refine WK.skip ?_
     | refine WK.label ?_
     | refine WK.scope ?_
     | refine WK.inScope ?_
     | refine WK.exit rfl ?_
     | refine WK.condT rfl ?_
     | refine WK.condF rfl ?_
     | (refine Hid.h hQ _ _ ?_; clear hQ hA)
     | refine WK.condAny rfl ?_ ?_
     | ((first | refine WK.cond2 rfl (fun h => ?_) (fun h => ?_)) <;> (first | (simp [*] at h; done) | (have h2 := h; simp at h2; exfalso; omega) | (have h2 := h; simp at h2; try simp only [Bool.not_eq_true', Bool.not_eq_false'] at h) | skip))
     | ((first | refine WK.regH Tryz.ntmps59 (by kernel_rfl) ?_ | refine WK.regX (by kernel_rfl) Tryz.ntmps59 (by kernel_rfl) ?_); intro A hA Q hQ; simp [Inst.enc, *])
     | (refine Hid.h hQ _ _ _ (by decide +kernel) ?_; clear hQ hA)
     | (refine RunQ.make (n := 4) (c := 24) (k := .i64) (k' := .i64) 900 appByte rfl rfl rfl ?_ ?_ (by omega) (by omega) ?_ ?_; (focus (simp (maxDischargeDepth := 120) [Inst.enc, *]; done)); (focus (simp (maxDischargeDepth := 120) [Inst.enc, *]; done)); (focus (simp [Inst.enc, *]; done)); refine RunQ.evalH ?_; simp [Inst.enc, *])
     | (refine RunX.make (n := 4) (c := 24) (k := .i64) (k' := .i64) 900 appByte rfl rfl ?_ ?_ (by omega) (by omega) ?_ ?_; (focus (simp (maxDischargeDepth := 120) [Inst.enc, *]; done)); (focus (simp (maxDischargeDepth := 120) [Inst.enc, *]; done)); (focus (simp [Inst.enc, *]; done)); refine RunX.evalY ?_; simp [Inst.enc, *])
     | (refine WK.retO Tryz.func59 rfl rfl ?_ ?_ <;> simp (maxDischargeDepth := 120) [Inst.enc, e2, *])
     | fail)
  have j1 : (kk == 1) = false := by simpa using k1
  by_cases k2 : kk = 2
  · subst k2
    have e : inBody ⟨2, t, v, m, l⟩ = List.replicate 4 0#8 ++ (beN (wN v) 8 ++ beN (wN m) 8) := by unfold inBody; simp only; rw [if_neg (by decide), if_pos (by decide)]
    have c1 := wput_c (List.replicate 4 0#8) v 8 (by omega) (by simp)
    rw [wPut_beN _ _ _ (by omega)] at c1
    have c2 := wput_c (List.replicate 4 0#8 ++ beN (wN v) 8) m 8 (by omega) (by simp [beN_len])
    rw [wPut_beN _ _ _ (by omega), List.append_assoc] at c2
    have hl : (List.replicate 4 0#8 ++ beN (wN v) 8).length = 12 := by simp [beN_len]
    have hz : (List.replicate 4 0#8).length = 4 := rfl
    rw [e]
    obtain ⟨F, hF⟩ : ∃ F, List.replicate 4 0#8 ++ beN (wN v) 8 = F := ⟨_, rfl⟩
    obtain ⟨K, hK⟩ : ∃ K, List.replicate 4 0#8 ++ (beN (wN v) 8 ++ beN (wN m) 8) = K := ⟨_, rfl⟩
    rw [hF] at c1 c2 hl
    rw [hK] at c2 ⊢
    have hfu : (byL F).take 12 = byL F := by_full _ _ hl.symm
    unfold byS at c1 c2
    rw [hl] at c1 c2
    rw [hz, z4L] at c1
    clear hF hK e
    unfold Wide.enc at c1 c2
    refine FnO.intro Tryz.func59 rfl rfl fun G w => ?_
    repeat' (first
     | refine WK.seq ?_
     | refine WK.block ?_
     | refine WK.inBlock ?_
     | refine WK.skip ?_
     | refine WK.label ?_
     | refine WK.scope ?_
     | refine WK.inScope ?_
     | refine WK.exit rfl ?_
     | refine WK.condT rfl ?_
     | refine WK.condF rfl ?_
     | (refine Hid.h hQ _ _ ?_; clear hQ hA)
     | refine WK.condAny rfl ?_ ?_
     | ((first | refine WK.cond2 rfl (fun h => ?_) (fun h => ?_)) <;> (first | (simp [*] at h; done) | (have h2 := h; simp at h2; exfalso; omega) | (have h2 := h; simp at h2; try simp only [Bool.not_eq_true', Bool.not_eq_false'] at h) | skip))
     | ((first | refine WK.regH Tryz.ntmps59 (by kernel_rfl) ?_ | refine WK.regX (by kernel_rfl) Tryz.ntmps59 (by kernel_rfl) ?_); intro A hA Q hQ; simp [Inst.enc, *])
     | (refine Hid.h hQ _ _ _ (by decide +kernel) ?_; clear hQ hA)
     | (refine RunQ.make (n := 4) (c := 24) (k := .i64) (k' := .i64) 900 appByte rfl rfl rfl ?_ ?_ (by omega) (by omega) ?_ ?_; (focus (simp (maxDischargeDepth := 120) [Inst.enc, *]; done)); (focus (simp (maxDischargeDepth := 120) [Inst.enc, *]; done)); (focus (simp [Inst.enc, *]; done)); refine RunQ.evalH ?_; simp [Inst.enc, *])
     | (refine RunX.make (n := 4) (c := 24) (k := .i64) (k' := .i64) 900 appByte rfl rfl ?_ ?_ (by omega) (by omega) ?_ ?_; (focus (simp (maxDischargeDepth := 120) [Inst.enc, *]; done)); (focus (simp (maxDischargeDepth := 120) [Inst.enc, *]; done)); (focus (simp [Inst.enc, *]; done)); refine RunX.evalY ?_; simp [Inst.enc, *])
     | (refine RunQ.callOz 901 18 1 rfl rfl rfl rfl rfl rfl rfl ?_ (c1) ?_ ?_ (by simp) (by decide) ?_; (focus (simp (maxDischargeDepth := 120) [Inst.enc, *]; done)); (focus (simp [Inst.enc, *]; done)); (focus (simp [Inst.enc, *]; done)); refine RunQ.evalH ?_; simp [Inst.enc, *])
     | (refine RunX.callOz 901 18 1 rfl rfl rfl rfl rfl rfl ?_ (c1) ?_ ?_ (by simp) (by decide) ?_; (focus (simp (maxDischargeDepth := 120) [Inst.enc, *]; done)); (focus (simp [Inst.enc, *]; done)); (focus (simp [Inst.enc, *]; done)); refine RunX.evalY ?_; simp [Inst.enc, *])
     | (refine RunQ.callOz 902 21 1 rfl rfl rfl rfl rfl rfl rfl ?_ (c2) ?_ ?_ (by simp) (by decide) ?_; (focus (simp (maxDischargeDepth := 120) [Inst.enc, *]; done)); (focus (simp [Inst.enc, *]; done)); (focus (simp [Inst.enc, *]; done)); refine RunQ.evalH ?_; simp [Inst.enc, *])
     | (refine RunX.callOz 902 21 1 rfl rfl rfl rfl rfl rfl ?_ (c2) ?_ ?_ (by simp) (by decide) ?_; (focus (simp (maxDischargeDepth := 120) [Inst.enc, *]; done)); (focus (simp [Inst.enc, *]; done)); (focus (simp [Inst.enc, *]; done)); refine RunX.evalY ?_; simp [Inst.enc, *])
     | (refine WK.retO Tryz.func59 rfl rfl ?_ ?_ <;> simp (maxDischargeDepth := 120) [Inst.enc, *])
     | fail)
  have j2 : (kk == 2) = false := by simpa using k2
  by_cases k34 : kk = 3 ∨ kk = 4
  · have e : inBody ⟨kk, t, v, m, l⟩ = List.replicate 4 0#8 ++ (acEnc l).1 := by unfold inBody; rw [if_neg k1, if_neg k2, if_pos k34]
    have p := acencP_c l hi
    have hEl := acEnc_len l
    rw [e]
    obtain ⟨R, hR⟩ : ∃ R, acEnc l = R := ⟨_, rfl⟩
    rw [hR] at p hEl ⊢
    obtain ⟨E, c⟩ := R
    simp only at p hEl ⊢
    have hKl : (List.replicate 4 0#8 ++ E).length = 4 + E.length := by rw [List.length_append, List.length_replicate]
    have hKb : byL (List.replicate 4 0#8 ++ E) = .int .u8 0 :: .int .u8 0 :: .int .u8 0 :: .int .u8 0 :: byL E := by rw [byL_app, z4L]; rfl
    obtain ⟨K, hK⟩ : ∃ K, List.replicate 4 0#8 ++ E = K := ⟨_, rfl⟩
    rw [hK] at hKl hKb ⊢
    rw [hKl]
    have hfu := by_full E E.length rfl
    have hbd : 4 + E.length ≤ 140737488355328 := by omega
    simp only [byS, actS] at p
    clear hR e hEl hK
    rcases k34 with rfl | rfl
    · refine FnO.intro Tryz.func59 rfl rfl fun G w => ?_
      repeat' (first
       | refine WK.seq ?_
       | refine WK.block ?_
       | refine WK.inBlock ?_
       | refine WK.skip ?_
       | refine WK.label ?_
       | refine WK.scope ?_
       | refine WK.inScope ?_
       | refine WK.exit rfl ?_
       | refine WK.condT rfl ?_
       | refine WK.condF rfl ?_
       | (refine Hid.h hQ _ _ ?_; clear hQ hA)
       | refine WK.condAny rfl ?_ ?_
       | ((first | refine WK.cond2 rfl (fun h => ?_) (fun h => ?_)) <;> (first | (simp [*] at h; done) | (have h2 := h; simp at h2; exfalso; omega) | (have h2 := h; simp at h2; try simp only [Bool.not_eq_true', Bool.not_eq_false'] at h) | skip))
       | ((first | refine WK.regH Tryz.ntmps59 (by kernel_rfl) ?_ | refine WK.regX (by kernel_rfl) Tryz.ntmps59 (by kernel_rfl) ?_); intro A hA Q hQ; simp [Inst.enc, *])
       | (refine Hid.h hQ _ _ _ (by decide +kernel) ?_; clear hQ hA)
       | (refine RunQ.make (n := 4) (c := 24) (k := .i64) (k' := .i64) 900 appByte rfl rfl rfl ?_ ?_ (by omega) (by omega) ?_ ?_; (focus (simp (maxDischargeDepth := 120) [Inst.enc, *]; done)); (focus (simp (maxDischargeDepth := 120) [Inst.enc, *]; done)); (focus (simp [Inst.enc, *]; done)); refine RunQ.evalH ?_; simp [Inst.enc, *])
       | (refine RunX.make (n := 4) (c := 24) (k := .i64) (k' := .i64) 900 appByte rfl rfl ?_ ?_ (by omega) (by omega) ?_ ?_; (focus (simp (maxDischargeDepth := 120) [Inst.enc, *]; done)); (focus (simp (maxDischargeDepth := 120) [Inst.enc, *]; done)); (focus (simp [Inst.enc, *]; done)); refine RunX.evalY ?_; simp [Inst.enc, *])
       | (refine RunQ.append 901 appByte rfl rfl rfl rfl rfl rfl rfl rfl rfl ?_ ?_ ?_ ?_ ?_; (focus (first | omega | (simp [Inst.enc, *]; done); done)); (focus (first | omega | (simp [Inst.enc, *]; done); done)); (focus (first | omega | (simp [Inst.enc, *]; done); done)); (focus (first | omega | (simp [Inst.enc, *]; done); done)); refine RunQ.evalH ?_; simp [Inst.enc, *])
       | (refine RunX.append 901 appByte rfl rfl rfl rfl rfl rfl rfl rfl ?_ ?_ ?_ ?_ ?_; (focus (first | omega | (simp [Inst.enc, *]; done); done)); (focus (first | omega | (simp [Inst.enc, *]; done); done)); (focus (first | omega | (simp [Inst.enc, *]; done); done)); (focus (first | omega | (simp [Inst.enc, *]; done); done)); refine RunX.evalY ?_; simp [Inst.enc, *])
       | (((first | refine RunQ.call rfl rfl rfl rfl rfl ?_ (p) ?_ ?_ | refine RunX.call rfl rfl rfl rfl ?_ (p) ?_ ?_); (focus (simp (maxDischargeDepth := 120) [Inst.enc, *]; done))); (focus (simp [Inst.enc, *]; done)); (first | refine RunQ.evalH ?_ | refine RunX.evalY ?_); simp [Inst.enc, *])
       | (refine WK.retO Tryz.func59 rfl rfl ?_ ?_ <;> simp (maxDischargeDepth := 120) [Inst.enc, *])
       | fail)
    · refine FnO.intro Tryz.func59 rfl rfl fun G w => ?_
      repeat' (first
       | refine WK.seq ?_
       | refine WK.block ?_
       | refine WK.inBlock ?_
       | refine WK.skip ?_
       | refine WK.label ?_
       | refine WK.scope ?_
       | refine WK.inScope ?_
       | refine WK.exit rfl ?_
       | refine WK.condT rfl ?_
       | refine WK.condF rfl ?_
       | (refine Hid.h hQ _ _ ?_; clear hQ hA)
       | refine WK.condAny rfl ?_ ?_
       | ((first | refine WK.cond2 rfl (fun h => ?_) (fun h => ?_)) <;> (first | (simp [*] at h; done) | (have h2 := h; simp at h2; exfalso; omega) | (have h2 := h; simp at h2; try simp only [Bool.not_eq_true', Bool.not_eq_false'] at h) | skip))
       | ((first | refine WK.regH Tryz.ntmps59 (by kernel_rfl) ?_ | refine WK.regX (by kernel_rfl) Tryz.ntmps59 (by kernel_rfl) ?_); intro A hA Q hQ; simp [Inst.enc, *])
       | (refine Hid.h hQ _ _ _ (by decide +kernel) ?_; clear hQ hA)
       | (refine RunQ.make (n := 4) (c := 24) (k := .i64) (k' := .i64) 900 appByte rfl rfl rfl ?_ ?_ (by omega) (by omega) ?_ ?_; (focus (simp (maxDischargeDepth := 120) [Inst.enc, *]; done)); (focus (simp (maxDischargeDepth := 120) [Inst.enc, *]; done)); (focus (simp [Inst.enc, *]; done)); refine RunQ.evalH ?_; simp [Inst.enc, *])
       | (refine RunX.make (n := 4) (c := 24) (k := .i64) (k' := .i64) 900 appByte rfl rfl ?_ ?_ (by omega) (by omega) ?_ ?_; (focus (simp (maxDischargeDepth := 120) [Inst.enc, *]; done)); (focus (simp (maxDischargeDepth := 120) [Inst.enc, *]; done)); (focus (simp [Inst.enc, *]; done)); refine RunX.evalY ?_; simp [Inst.enc, *])
       | (refine RunQ.append 901 appByte rfl rfl rfl rfl rfl rfl rfl rfl rfl ?_ ?_ ?_ ?_ ?_; (focus (first | omega | (simp [Inst.enc, *]; done); done)); (focus (first | omega | (simp [Inst.enc, *]; done); done)); (focus (first | omega | (simp [Inst.enc, *]; done); done)); (focus (first | omega | (simp [Inst.enc, *]; done); done)); refine RunQ.evalH ?_; simp [Inst.enc, *])
       | (refine RunX.append 901 appByte rfl rfl rfl rfl rfl rfl rfl rfl ?_ ?_ ?_ ?_ ?_; (focus (first | omega | (simp [Inst.enc, *]; done); done)); (focus (first | omega | (simp [Inst.enc, *]; done); done)); (focus (first | omega | (simp [Inst.enc, *]; done); done)); (focus (first | omega | (simp [Inst.enc, *]; done); done)); refine RunX.evalY ?_; simp [Inst.enc, *])
       | (((first | refine RunQ.call rfl rfl rfl rfl rfl ?_ (p) ?_ ?_ | refine RunX.call rfl rfl rfl rfl ?_ (p) ?_ ?_); (focus (simp (maxDischargeDepth := 120) [Inst.enc, *]; done))); (focus (simp [Inst.enc, *]; done)); (first | refine RunQ.evalH ?_ | refine RunX.evalY ?_); simp [Inst.enc, *])
       | (refine WK.retO Tryz.func59 rfl rfl ?_ ?_ <;> simp (maxDischargeDepth := 120) [Inst.enc, *])
       | fail)
  have j3 : (kk == 3) = false := by rw [beq_eq_false_iff_ne]; omega
  have j4 : (kk == 4) = false := by rw [beq_eq_false_iff_ne]; omega
  have e : inBody ⟨kk, t, v, m, l⟩ = List.replicate 4 0#8 := by unfold inBody; rw [if_neg k1, if_neg k2, if_neg k34]
  rw [e]
  have hKl : (List.replicate 4 0#8).length = 4 := rfl
  have hKb := z4L
  obtain ⟨K, hK⟩ : ∃ K, List.replicate 4 0#8 = K := ⟨_, rfl⟩
  rw [hK] at hKl hKb ⊢
  rw [hKl]
  clear k34 e hK
  refine FnO.intro Tryz.func59 rfl rfl fun G w => ?_
  repeat' (first
   | refine WK.seq ?_
   | refine WK.block ?_
   | refine WK.inBlock ?_
   | refine WK.skip ?_
   | refine WK.label ?_
   | refine WK.scope ?_
   | refine WK.inScope ?_
   | refine WK.exit rfl ?_
   | refine WK.condT rfl ?_
   | refine WK.condF rfl ?_
   | (refine Hid.h hQ _ _ ?_; clear hQ hA)
   | refine WK.condAny rfl ?_ ?_
   | ((first | refine WK.cond2 rfl (fun h => ?_) (fun h => ?_)) <;> (first | (simp [*] at h; done) | (have h2 := h; simp at h2; exfalso; omega) | (have h2 := h; simp at h2; try simp only [Bool.not_eq_true', Bool.not_eq_false'] at h) | skip))
   | ((first | refine WK.regH Tryz.ntmps59 (by kernel_rfl) ?_ | refine WK.regX (by kernel_rfl) Tryz.ntmps59 (by kernel_rfl) ?_); intro A hA Q hQ; simp [Inst.enc, *])
   | (refine Hid.h hQ _ _ _ (by decide +kernel) ?_; clear hQ hA)
   | (refine RunQ.make (n := 4) (c := 24) (k := .i64) (k' := .i64) 900 appByte rfl rfl rfl ?_ ?_ (by omega) (by omega) ?_ ?_; (focus (simp (maxDischargeDepth := 120) [Inst.enc, *]; done)); (focus (simp (maxDischargeDepth := 120) [Inst.enc, *]; done)); (focus (simp [Inst.enc, *]; done)); refine RunQ.evalH ?_; simp [Inst.enc, *])
   | (refine RunX.make (n := 4) (c := 24) (k := .i64) (k' := .i64) 900 appByte rfl rfl ?_ ?_ (by omega) (by omega) ?_ ?_; (focus (simp (maxDischargeDepth := 120) [Inst.enc, *]; done)); (focus (simp (maxDischargeDepth := 120) [Inst.enc, *]; done)); (focus (simp [Inst.enc, *]; done)); refine RunX.evalY ?_; simp [Inst.enc, *])
   | (refine WK.retO Tryz.func59 rfl rfl ?_ ?_ <;> simp (maxDischargeDepth := 120) [Inst.enc, *])
   | fail)
theorem mpOkInt : MpOk Tryz.prog 79 := MpOk.mk' Tryz.underlying79 Tryz.underlying3 (by kernel_rfl)
theorem inFlat_succ {l : List Inst} {i : Nat} (h : i < l.length) : rwFlat inOne (l.take (i + 1)) = rwFlat inOne (l.take i) ++ inOne (nth l i) := by
  unfold rwFlat; rw [take_nth h, List.flatMap_append]; simp
theorem inFlat_len (l : List Inst) : (rwFlat inOne l).length ≤ l.length * 6100 := by
  induction l with
  | nil => simp [rwFlat]
  | cons x l ih =>
    have h1 := inOne_len x
    have h2 := inBody_len x
    have e : rwFlat inOne (x :: l) = inOne x ++ rwFlat inOne l := rfl
    rw [e, List.length_append, List.length_cons]
    omega
theorem inKinds_succ {l : List Inst} {i : Nat} (h : i < l.length) : inKinds (l.take (i + 1)) = inKinds (l.take i) ++ [(nth l i).kind] := by
  unfold inKinds; rw [take_nth h, List.map_append]; rfl
theorem inKinds_take {l : List Inst} (h : (inKinds l).Nodup) (i : Nat) : (inKinds (l.take i)).Nodup := by
  unfold inKinds at *
  rw [List.map_take]
  exact h.sublist (List.take_sublist _ _)
theorem inEnc_two {l : List Inst} {i : Nat} (h : i < l.length) (hk : (nth l i).kind ∈ inKinds (l.take i)) : inEnc l = ([], 1) := by
  refine inEnc_bad1 fun hh => ?_
  have h1 := inKinds_take (inFit_facts hh.1).2 (i + 1)
  rw [inKinds_succ h, List.nodup_append] at h1
  exact h1.2.2 _ hk _ (by simp) rfl
theorem inEnc_wrong {l : List Inst} {i : Nat} (h : i < l.length) (hk : inRight (nth l i) = false) : inEnc l = ([], 1) := by
  refine inEnc_bad1 fun hh => ?_
  have h1 := (inFit_facts hh.1).1 _ (nth_mem h)
  rw [hk] at h1; cases h1
theorem inFit_of {l : List Inst} (h : ∀ j, j < l.length → inRight (nth l j) = true) (h2 : (inKinds l).Nodup) : inFit l = true := by
  unfold inFit
  rw [Bool.and_eq_true, List.all_eq_true, decide_eq_true_eq]
  refine ⟨fun x hx => ?_, h2⟩
  obtain ⟨j, hj, rfl⟩ := mem_nth hx
  exact h j hj
theorem nodup_snoc {ks : List Int} {k : Int} (h : ks.Nodup) (hk : k ∉ ks) : (ks ++ [k]).Nodup := by
  rw [List.nodup_append]
  exact ⟨h, by simp, fun a ha b hb => by simp at hb; subst hb; exact fun e => hk (e ▸ ha)⟩
set_option maxHeartbeats 4000000 in
theorem ienc_c (l : List Inst) (hl : l.length ≤ 100) (ha : ∀ x, x ∈ l → x.acts.length ≤ 1000000) : FnT Tryz.prog 23 [instS l] (inEnc l).1.length 1 (byL (inEnc l).1) [.int .i64 (inEnc l).2] := by
  unfold instS
  refine FnT.intro Tryz.func23 rfl rfl fun G w => ?_
  repeat' (first
   | refine WK.seq ?_
   | refine WK.block ?_
   | refine WK.inBlock ?_
   | refine WK.skip ?_
   | refine WK.label ?_
   | refine WK.scope ?_
   | refine WK.inScope ?_
   | refine WK.exit rfl ?_
   | refine WK.condT rfl ?_
   | refine WK.condF rfl ?_
   | (refine Hid.h hQ _ _ ?_; clear hQ hA)
   | refine WK.condAny rfl ?_ ?_
   | ((first | refine WK.cond2 rfl (fun h => ?_) (fun h => ?_) | refine Fork.mk (fun h => ?_) (fun h => ?_)) <;> (first | (simp [*] at h; done) | (have h2 := h; simp at h2; exfalso; omega) | (have h2 := h; simp at h2; try simp only [Bool.not_eq_true', Bool.not_eq_false'] at h) | skip))
   | (refine WK.regH Tryz.ntmps23 (by kernel_rfl) ?_; intro A hA Q hQ; simp [*])
   | (refine RunQ.gd rfl (by rw [hA.h]; rfl) ?_; simp [*])
   | (refine RunQ.makeMap 910 rfl rfl rfl ?_ ?_; (focus (simp [*]; done)); refine RunQ.evalH ?_; simp [*])
   | (refine RunQW.by (fun hw => ?_); refine RunQ.makeMap 910 rfl hw rfl ?_ ?_; (focus (simp [*]; done)); clear hw; refine RunQ.evalH ?_; simp [*])
   | fail)
  repeat (first | refine WK.seq ?_ | refine WK.block ?_ | refine WK.inBlock ?_ | refine WK.skip ?_ | refine WK.label ?_ | refine WK.scope ?_ | refine WK.inScope ?_ | refine WK.exit rfl ?_)
  refine WK.ghost (Ghost.own 4 900 1 rfl rfl) ?_
  repeat (first | refine WK.seq ?_ | refine WK.block ?_ | refine WK.inBlock ?_ | refine WK.skip ?_ | refine WK.label ?_ | refine WK.scope ?_ | refine WK.inScope ?_ | refine WK.exit rfl ?_)
  refine WK.loopI (fun n => if n = 1 then 900 else if n = 2 then 910 else n) (fun i : Nat => (⟨(upd (upd (upd (upd (upd (upd (upd J 2 (.sl true 0 [])) 3 (.int .i64 0)) 4 (.msl 1 0 (rwFlat inOne (l.take i)).length)) 5 (.mv 2)) 10 (.sl false l.length (instL l))) 11 (.int .i64 l.length)) 12 (.int .i64 i)), (upd (upd B0 1 (.buf 1 (byL (rwFlat inOne (l.take i))))) 2 (.obj (mpObj (mpSeen (inKinds (l.take i)))))), 0⟩ : St)) (fun i => i ≤ l.length ∧ (∀ j, j < i → inRight (nth l j) = true) ∧ (inKinds (l.take i)).Nodup) (fun i => l.length - i) (0) (by repeat (first | exact TmW.nil | refine TmW.upd ?_ (by simp (maxDischargeDepth := 120) [rwFlat, byL_nil, inKinds, mpSeen]))) (by repeat (first | exact BxW.nil | refine BxW.upd ?_ (by simp (maxDischargeDepth := 120) [rwFlat, byL_nil, inKinds, mpSeen]))) (by first | exact InjW.id | exact InjW.nil | exact InjW.one | exact InjW.two (by simp) | exact InjW.three (by simp) (by simp) (by simp)) (⟨by omega, by simp, by simp [inKinds]⟩) (fun i hi IH => ?_)
  have hfl := inFlat_len (l.take i)
  have htl : (l.take i).length ≤ 100 := by rw [List.length_take]; omega
  by_cases h1 : i < l.length
  · have h4 := inst_sub l i h1
    have h3 : 7 ≤ l.length * 7 - i * 7 := by omega
    have h6 : IntKind.i64.wrap ((i : Int) + 1) = i + 1 := wrap_i64 (by omega) (by omega)
    have hs := inFlat_succ h1
    have hx := ha _ (nth_mem h1)
    have hrc := iright_c (nth l i) hx
    have hks := inKinds_succ h1
    have hsn := mpSeen_snoc (inKinds (l.take i)) (nth l i).kind
    have hvl := mpSeen_val (inKinds (l.take i)) (nth l i).kind
    rw [← hks] at hsn
    have htwo : (nth l i).kind ∈ inKinds (l.take i) → inEnc l = ([], 1) := inEnc_two h1
    have hwr : inRight (nth l i) = false → inEnc l = ([], 1) := inEnc_wrong h1
    have hle := List.count_le_length (l := inKinds (l.take i)) (a := (nth l i).kind)
    have hkl : (inKinds (l.take i)).length ≤ 100 := by unfold inKinds; rw [List.length_map]; exact htl
    have hpos : 0 < (inKinds (l.take i)).count (nth l i).kind ↔ (nth l i).kind ∈ inKinds (l.take i) := List.count_pos_iff
    obtain ⟨c, hc⟩ : ∃ c, (inKinds (l.take i)).count (nth l i).kind = c := ⟨_, rfl⟩
    rw [hc] at hvl hle hpos
    have hnd := hi.2.2
    have hall := hi.2.1
    obtain ⟨S, hS⟩ : ∃ S, mpSeen (inKinds (l.take i)) = S := ⟨_, rfl⟩
    rw [hS] at hsn hvl ⊢
    rw [hvl] at hsn
    have hput := mpVal_put S (nth l i).kind ((c : Int) + 1) (nth l i).kind
    rw [if_pos rfl] at hput
    have wc : IntKind.i64.wrap ((c : Int) + 1) = c + 1 := wrap_i64 (by omega) (by omega)
    clear hc hle hkl hS
    have hjr : inRight (nth l i) = true → ∀ j, j < i + 1 → inRight (nth l j) = true := fun hr j hj => by
      by_cases h7 : j = i
      · subst h7; exact hr
      · exact hall j (by omega)
    have hjn : c = 0 → (inKinds (l.take (i + 1))).Nodup := fun h0 => by
      rw [hks]; exact nodup_snoc hnd fun h => by have := hpos.2 h; omega
    have hbody := ibody_c (nth l i) hx
    have hbl := inBody_len (nth l i)
    have hone : inOne (nth l i) = beN (nth l i).kind 2 ++ (beN (4 + (inBody (nth l i)).length : Nat) 2 ++ inBody (nth l i)) := rfl
    have hkd : inRight (nth l i) = true → numOk (nth l i).kind 2 = true := fun hr => by
      have := inKind_of (inRight_facts hr).1
      rw [numOk_iff]; exact ⟨by omega, by show (nth l i).kind < 65536; omega⟩
    have hn2 : numOk ((4 + (inBody (nth l i)).length : Nat) : Int) 2 = true := numOk2 (by omega)
    obtain ⟨x, hxx⟩ : ∃ x, nth l i = x := ⟨_, rfl⟩
    rw [hxx] at h4 hs hx hrc hsn hput htwo hwr hvl hpos hjr hbody hbl hone hkd hn2
    obtain ⟨E, hE⟩ : ∃ E, inBody x = E := ⟨_, rfl⟩
    rw [hE] at hbody hbl hone hn2
    obtain ⟨F, hF⟩ : ∃ F, rwFlat inOne (l.take i) = F := ⟨_, rfl⟩
    rw [hF] at hs hfl ⊢
    have hFl : F.length ≤ 700000 := by omega
    have hKs : ∃ K, inKinds (l.take (i + 1)) = K := ⟨_, rfl⟩
    obtain ⟨K, hK⟩ := hKs
    rw [hK] at hsn hjn
    obtain ⟨r, hr⟩ : ∃ r, inRight x = r := ⟨_, rfl⟩
    rw [hr] at hrc hwr hjr hkd
    simp only [Inst.enc] at h4 hrc hbody
    clear hi hall hnd hks hE hF hxx hr hfl htl
    cases r
    · have e := hwr rfl
      rw [e]
      clear htwo hwr hjr hjn hbody hone hkd hn2 hsn hpos hs hK
      repeat' (first
       | refine WK.seq ?_
       | refine WK.block ?_
       | refine WK.inBlock ?_
       | refine WK.skip ?_
       | refine WK.label ?_
       | refine WK.scope ?_
       | refine WK.inScope ?_
       | refine WK.exit rfl ?_
       | refine WK.condT rfl ?_
       | refine WK.condF rfl ?_
       | (refine Hid.h hQ _ _ ?_; clear hQ hA)
       | refine WK.condAny rfl ?_ ?_
       | ((first | refine WK.cond2 rfl (fun h => ?_) (fun h => ?_) | refine Fork.mk (fun h => ?_) (fun h => ?_)) <;> (first | (simp [*] at h; done) | (have h2 := h; simp at h2; exfalso; omega) | (have h2 := h; simp at h2; try simp only [Bool.not_eq_true', Bool.not_eq_false'] at h) | skip))
       | (refine WK.regH Tryz.ntmps23 (by kernel_rfl) ?_; intro A hA Q hQ; simp [*])
       | (refine RunQ.gd rfl (by rw [hA.h]; rfl) ?_; simp [*])
       | (refine RunQ.mapUpdate mpOkInt rfl rfl rfl rfl rfl rfl rfl ?_; refine RunQ.evalH ?_; simp [*])
       | (refine RunQW.by (fun hw => ?_); refine RunQ.mapUpdate mpOkInt rfl hw rfl rfl rfl rfl rfl ?_; clear hw; refine RunQ.evalH ?_; simp [*])
       | (refine RunQ.lookup mpOkInt rfl rfl rfl rfl rfl rfl ?_; refine RunQ.evalH ?_; simp [*])
       | (refine RunQW.by (fun hw => ?_); refine RunQ.lookup mpOkInt rfl hw rfl rfl rfl rfl ?_; clear hw; refine RunQ.evalH ?_; simp [*])
       | (((first | refine RunQ.call rfl rfl rfl rfl rfl ?_ (hrc) ?_ ?_ | refine RunQW.call rfl rfl rfl rfl ?_ (hrc) ?_ ?_); (focus (simp (maxDischargeDepth := 120) [*]; done))); (focus (simp [*]; done)); refine RunQ.evalH ?_; simp [*])
       | fail)
      repeat (first | refine WK.seq ?_ | refine WK.block ?_ | refine WK.inBlock ?_ | refine WK.skip ?_ | refine WK.label ?_ | refine WK.scope ?_ | refine WK.inScope ?_ | refine WK.exit rfl ?_)
      refine WK.ghost (Ghost.own 2 905 1 rfl rfl) ?_
      repeat (first | refine WK.seq ?_ | refine WK.block ?_ | refine WK.inBlock ?_ | refine WK.skip ?_ | refine WK.label ?_ | refine WK.scope ?_ | refine WK.inScope ?_ | refine WK.exit rfl ?_)
      refine WK.retT2 Tryz.func23 ?_ ?_ ?_ <;> simp (maxDischargeDepth := 120) [Tryz.results23, byL_nil]
    by_cases hc0 : c = 0
    case neg =>
      have e := htwo (hpos.1 (by omega))
      rw [e]
      have hgt : (1 : Int) < (c : Int) + 1 := by omega
      have hgt2 : 0 < c := by omega
      clear htwo hwr hjr hjn hbody hone hkd hn2 hsn hpos hs hK
      repeat' (first
       | refine WK.seq ?_
       | refine WK.block ?_
       | refine WK.inBlock ?_
       | refine WK.skip ?_
       | refine WK.label ?_
       | refine WK.scope ?_
       | refine WK.inScope ?_
       | refine WK.exit rfl ?_
       | refine WK.condT rfl ?_
       | refine WK.condF rfl ?_
       | (refine Hid.h hQ _ _ ?_; clear hQ hA)
       | refine WK.condAny rfl ?_ ?_
       | ((first | refine WK.cond2 rfl (fun h => ?_) (fun h => ?_) | refine Fork.mk (fun h => ?_) (fun h => ?_)) <;> (first | (simp [*] at h; done) | (have h2 := h; simp at h2; exfalso; omega) | (have h2 := h; simp at h2; try simp only [Bool.not_eq_true', Bool.not_eq_false'] at h) | skip))
       | (refine WK.regH Tryz.ntmps23 (by kernel_rfl) ?_; intro A hA Q hQ; simp [*])
       | (refine RunQ.gd rfl (by rw [hA.h]; rfl) ?_; simp [*])
       | (refine RunQ.mapUpdate mpOkInt rfl rfl rfl rfl rfl rfl rfl ?_; refine RunQ.evalH ?_; simp [*])
       | (refine RunQW.by (fun hw => ?_); refine RunQ.mapUpdate mpOkInt rfl hw rfl rfl rfl rfl rfl ?_; clear hw; refine RunQ.evalH ?_; simp [*])
       | (refine RunQ.lookup mpOkInt rfl rfl rfl rfl rfl rfl ?_; refine RunQ.evalH ?_; simp [*])
       | (refine RunQW.by (fun hw => ?_); refine RunQ.lookup mpOkInt rfl hw rfl rfl rfl rfl ?_; clear hw; refine RunQ.evalH ?_; simp [*])
       | (((first | refine RunQ.call rfl rfl rfl rfl rfl ?_ (hrc) ?_ ?_ | refine RunQW.call rfl rfl rfl rfl ?_ (hrc) ?_ ?_); (focus (simp (maxDischargeDepth := 120) [*]; done))); (focus (simp [*]; done)); refine RunQ.evalH ?_; simp [*])
       | fail)
      repeat (first | refine WK.seq ?_ | refine WK.block ?_ | refine WK.inBlock ?_ | refine WK.skip ?_ | refine WK.label ?_ | refine WK.scope ?_ | refine WK.inScope ?_ | refine WK.exit rfl ?_)
      refine WK.ghost (Ghost.own 2 905 1 rfl rfl) ?_
      repeat (first | refine WK.seq ?_ | refine WK.block ?_ | refine WK.inBlock ?_ | refine WK.skip ?_ | refine WK.label ?_ | refine WK.scope ?_ | refine WK.inScope ?_ | refine WK.exit rfl ?_)
      refine WK.retT2 Tryz.func23 ?_ ?_ ?_ <;> simp (maxDischargeDepth := 120) [Tryz.results23, byL_nil]
    subst hc0
    have hK2 := hjn rfl
    have hput1 : mpVal (mpPut S x.kind 1) x.kind = 1 := by simpa using hput
    have hsn1 : mpSeen K = mpPut S x.kind 1 := by simpa using hsn
    have hvl1 : mpVal S x.kind = 0 := by simpa using hvl
    have wc1 : IntKind.i64.wrap 1 = 1 := rfl
    clear hput hsn hvl wc
    have hj2 := hjr rfl
    rw [← hK] at hK2
    have c1 := nput_c F x.kind 2 Sz2 (by omega)
    rw [putN_beN (hkd rfl)] at c1
    obtain ⟨F1, hF1⟩ : ∃ F1, F ++ beN x.kind 2 = F1 := ⟨_, rfl⟩
    rw [hF1] at c1
    have hF1l : F1.length = F.length + 2 := by rw [← hF1, List.length_append, beN_len]
    have c2 := nput_c F1 ((4 + E.length : Nat) : Int) 2 Sz2 (by omega)
    rw [putN_beN hn2] at c2
    obtain ⟨F2, hF2⟩ : ∃ F2, F1 ++ beN ((4 + E.length : Nat) : Int) 2 = F2 := ⟨_, rfl⟩
    rw [hF2] at c2
    have hF2l : F2.length = F.length + 4 := by rw [← hF2, List.length_append, beN_len]; omega
    have hs2 : rwFlat inOne (l.take (i + 1)) = F2 ++ E := by rw [hs, hone, ← hF2, ← hF1]; simp only [List.append_assoc]
    have hs3 : byL F2 ++ byL E = byL (rwFlat inOne (l.take (i + 1))) := by rw [hs2, byL_app]
    have hs4 : (rwFlat inOne (l.take (i + 1))).length = F2.length + E.length := by rw [hs2, List.length_append]
    have w4 : IntKind.i64.wrap (4 + (E.length : Int)) = 4 + (E.length : Int) := wrap_i64 (by omega) (by omega)
    have hbd : F2.length + E.length ≤ 140737488355328 := by omega
    have hfu1 := by_full F F.length rfl
    have hfu2 := by_full F1 F1.length rfl
    have hfu3 := by_full E E.length rfl
    unfold byS at c1 c2
    clear htwo hwr hjr hjn hone hkd hn2 hpos hs hF1 hF2 hF1l hF2l hs2
    repeat' (first
     | refine WK.seq ?_
     | refine WK.block ?_
     | refine WK.inBlock ?_
     | refine WK.skip ?_
     | refine WK.label ?_
     | refine WK.scope ?_
     | refine WK.inScope ?_
     | refine WK.exit rfl ?_
     | refine WK.condT rfl ?_
     | refine WK.condF rfl ?_
     | (refine Hid.h hQ _ _ ?_; clear hQ hA)
     | refine WK.condAny rfl ?_ ?_
     | ((first | refine WK.cond2 rfl (fun h => ?_) (fun h => ?_) | refine Fork.mk (fun h => ?_) (fun h => ?_)) <;> (first | (simp [*] at h; done) | (have h2 := h; simp at h2; exfalso; omega) | (have h2 := h; simp at h2; try simp only [Bool.not_eq_true', Bool.not_eq_false'] at h) | skip))
     | (refine WK.regH Tryz.ntmps23 (by kernel_rfl) ?_; intro A hA Q hQ; simp [*])
     | (refine RunQ.gd rfl (by rw [hA.h]; rfl) ?_; simp [*])
     | (refine RunQ.mapUpdate mpOkInt rfl rfl rfl rfl rfl rfl rfl ?_; refine RunQ.evalH ?_; simp [*])
     | (refine RunQW.by (fun hw => ?_); refine RunQ.mapUpdate mpOkInt rfl hw rfl rfl rfl rfl rfl ?_; clear hw; refine RunQ.evalH ?_; simp [*])
     | (refine RunQ.lookup mpOkInt rfl rfl rfl rfl rfl rfl ?_; refine RunQ.evalH ?_; simp [*])
     | (refine RunQW.by (fun hw => ?_); refine RunQ.lookup mpOkInt rfl hw rfl rfl rfl rfl ?_; clear hw; refine RunQ.evalH ?_; simp [*])
     | (refine RunQ.callO 901 rfl rfl rfl rfl rfl ?_ (hbody) ?_ ?_ ?_ ?_; (focus (simp (maxDischargeDepth := 120) [*]; done)); (focus (simp [*]; done)); (focus (simp [*]; done)); (focus (simp [*]; done)); refine RunQ.evalH ?_; simp [*])
     | (refine RunQW.by (fun hw => ?_); refine RunQ.callO 901 rfl rfl rfl hw rfl ?_ (hbody) ?_ ?_ ?_ ?_; (focus (simp (maxDischargeDepth := 120) [*]; done)); (focus (simp [*]; done)); (focus (simp [*]; done)); (focus (simp [*]; done)); clear hw; refine RunQ.evalH ?_; simp [*])
     | (refine RunQ.callOz 902 33 1 rfl rfl rfl rfl rfl rfl rfl ?_ (c1) ?_ ?_ (by simp) (by decide) ?_; (focus (simp (maxDischargeDepth := 120) [*]; done)); (focus (simp [*]; done)); (focus (simp [*]; done)); refine RunQ.evalH ?_; simp [*])
     | (refine RunQW.by (fun hw => ?_); refine RunQ.callOz 902 33 1 rfl rfl hw rfl rfl rfl rfl ?_ (c1) ?_ ?_ (by simp) (by decide) ?_; (focus (simp (maxDischargeDepth := 120) [*]; done)); (focus (simp [*]; done)); (focus (simp [*]; done)); clear hw; refine RunQ.evalH ?_; simp [*])
     | (refine RunQ.callOz 903 36 1 rfl rfl rfl rfl rfl rfl rfl ?_ (c2) ?_ ?_ (by simp) (by decide) ?_; (focus (simp (maxDischargeDepth := 120) [*]; done)); (focus (simp [*]; done)); (focus (simp [*]; done)); refine RunQ.evalH ?_; simp [*])
     | (refine RunQW.by (fun hw => ?_); refine RunQ.callOz 903 36 1 rfl rfl hw rfl rfl rfl rfl ?_ (c2) ?_ ?_ (by simp) (by decide) ?_; (focus (simp (maxDischargeDepth := 120) [*]; done)); (focus (simp [*]; done)); (focus (simp [*]; done)); clear hw; refine RunQ.evalH ?_; simp [*])
     | (refine RunQ.appendFz 904 appByte rfl rfl rfl rfl rfl rfl rfl rfl rfl rfl ?_ ?_ ?_ ?_ ?_ ?_; (focus (first | omega | (simp [*]; done); done)); (focus (first | omega | (simp [*]; done); done)); (focus (first | omega | (simp [*]; done); done)); (focus (simp [*]; done)); (focus (simp [*]; done)); refine RunQ.evalH ?_; simp [*])
     | (refine RunQW.by (fun hw => ?_); refine RunQ.appendFz 904 appByte rfl rfl rfl rfl rfl rfl rfl rfl hw rfl ?_ ?_ ?_ ?_ ?_ ?_; (focus (first | omega | (simp [*]; done); done)); (focus (first | omega | (simp [*]; done); done)); (focus (first | omega | (simp [*]; done); done)); (focus (simp [*]; done)); (focus (simp [*]; done)); clear hw; refine RunQ.evalH ?_; simp [*])
     | (((first | refine RunQ.call rfl rfl rfl rfl rfl ?_ (hrc) ?_ ?_ | refine RunQW.call rfl rfl rfl rfl ?_ (hrc) ?_ ?_); (focus (simp (maxDischargeDepth := 120) [*]; done))); (focus (simp [*]; done)); refine RunQ.evalH ?_; simp [*])
     | fail)
    repeat (first | refine WK.seq ?_ | refine WK.block ?_ | refine WK.inBlock ?_ | refine WK.skip ?_ | refine WK.label ?_ | refine WK.scope ?_ | refine WK.inScope ?_ | refine WK.exit rfl ?_)
    refine WK.next (fun n => if n = 1 then 904 else n) (IH (i + 1) (⟨by omega, hj2, hK2⟩) (by first | omega | (dsimp only; omega))) (by repeat (first | exact TmW.nil | refine TmW.upd ?_ (by simp (maxDischargeDepth := 120) [hs3, hs4, hK, hsn1]))) (by repeat (first | exact BxW.nil | refine BxW.upd ?_ (by simp (maxDischargeDepth := 120) [hs3, hs4, hK, hsn1]))) (by first | exact InjW.id | exact InjW.nil | exact InjW.one | exact InjW.two (by simp) | exact InjW.three (by simp) (by simp) (by simp))
  · have hT : l.take i = l := List.take_of_length_le (by omega)
    have hfit : inFit l = true := inFit_of (fun j hj => hi.2.1 j (by omega)) (by have := hi.2.2; rwa [hT] at this)
    have hdef : inEnc l = if (rwFlat inOne l).length ≤ 60000 then (rwFlat inOne l, 0) else ([], 1) := by
      unfold inEnc
      by_cases hh : (rwFlat inOne l).length ≤ 60000
      · rw [if_pos hh, if_pos ⟨hfit, hh⟩]
      · rw [if_neg hh, if_neg fun h => hh h.2]
    rw [hT] at hfl ⊢
    obtain ⟨F, hF⟩ : ∃ F, rwFlat inOne l = F := ⟨_, rfl⟩
    rw [hF] at hdef hfl ⊢
    by_cases h6 : F.length ≤ 60000
    · have j6 : ¬ (60000 : Int) < F.length := by omega
      rw [if_pos h6] at hdef
      rw [hdef]
      clear hF hdef hi hfit
      repeat' (first
       | refine WK.seq ?_
       | refine WK.block ?_
       | refine WK.inBlock ?_
       | refine WK.skip ?_
       | refine WK.label ?_
       | refine WK.scope ?_
       | refine WK.inScope ?_
       | refine WK.exit rfl ?_
       | refine WK.condT rfl ?_
       | refine WK.condF rfl ?_
       | (refine Hid.h hQ _ _ ?_; clear hQ hA)
       | refine WK.condAny rfl ?_ ?_
       | ((first | refine WK.cond2 rfl (fun h => ?_) (fun h => ?_) | refine Fork.mk (fun h => ?_) (fun h => ?_)) <;> (first | (simp [*] at h; done) | (have h2 := h; simp at h2; exfalso; omega) | (have h2 := h; simp at h2; try simp only [Bool.not_eq_true', Bool.not_eq_false'] at h) | skip))
       | (refine WK.regH Tryz.ntmps23 (by kernel_rfl) ?_; intro A hA Q hQ; simp [*])
       | (refine RunQ.gd rfl (by rw [hA.h]; rfl) ?_; simp [*])
       | (refine WK.retT2 Tryz.func23 ?_ ?_ ?_ <;> simp (maxDischargeDepth := 120) [Tryz.results23, *])
       | fail)
    · have j6 : (60000 : Int) < F.length := by omega
      rw [if_neg h6] at hdef
      rw [hdef]
      clear hF hdef hi hfit
      repeat' (first
       | refine WK.seq ?_
       | refine WK.block ?_
       | refine WK.inBlock ?_
       | refine WK.skip ?_
       | refine WK.label ?_
       | refine WK.scope ?_
       | refine WK.inScope ?_
       | refine WK.exit rfl ?_
       | refine WK.condT rfl ?_
       | refine WK.condF rfl ?_
       | (refine Hid.h hQ _ _ ?_; clear hQ hA)
       | refine WK.condAny rfl ?_ ?_
       | ((first | refine WK.cond2 rfl (fun h => ?_) (fun h => ?_) | refine Fork.mk (fun h => ?_) (fun h => ?_)) <;> (first | (simp [*] at h; done) | (have h2 := h; simp at h2; exfalso; omega) | (have h2 := h; simp at h2; try simp only [Bool.not_eq_true', Bool.not_eq_false'] at h) | skip))
       | (refine WK.regH Tryz.ntmps23 (by kernel_rfl) ?_; intro A hA Q hQ; simp [*])
       | (refine RunQ.gd rfl (by rw [hA.h]; rfl) ?_; simp [*])
       | fail)
      repeat (first | refine WK.seq ?_ | refine WK.block ?_ | refine WK.inBlock ?_ | refine WK.skip ?_ | refine WK.label ?_ | refine WK.scope ?_ | refine WK.inScope ?_ | refine WK.exit rfl ?_)
      refine WK.ghost (Ghost.own 2 907 1 rfl rfl) ?_
      repeat (first | refine WK.seq ?_ | refine WK.block ?_ | refine WK.inBlock ?_ | refine WK.skip ?_ | refine WK.label ?_ | refine WK.scope ?_ | refine WK.inScope ?_ | refine WK.exit rfl ?_)
      refine WK.retT2 Tryz.func23 ?_ ?_ ?_ <;> simp (maxDischargeDepth := 120) [Tryz.results23, byL_nil]
end Go.Proofs.YteonfhnljphbpaaGreat
end

section
set_option linter.unusedVariables false
set_option linter.unusedSimpArgs false
namespace Go.Proofs.YteonfhnljphbpaaGreat
open Go Go.AI Go.Proofs
attribute [local irreducible] FnP FnO FnB FnT FnSeq WK RunQ RunQW RunX RunXW

theorem instL_snoc (l : List Inst) (x : Inst) : instL l ++ x.enc = instL (l ++ [x]) := by rw [instL_app]; simp [instL]
theorem inOf_kind (k : Int) (b : List (BitVec 8)) : (inOf k b).1.kind = k := by
  unfold inOf
  split
  · rename_i h; exact h.symm
  split
  · rename_i h; exact h.symm
  split
  · rfl
  · rfl
theorem inStep_cut {ks : List Int} {b : List (BitVec 8)} {k : Int} {n : Nat} {c : Int × Int} (h : inCut b = (k, n, some c)) : inStep ks b = (inst0, 0, some c) := by unfold inStep; rw [h]
theorem inStep_two {ks : List Int} {b : List (BitVec 8)} {k : Int} {n : Nat} (h : inCut b = (k, n, none)) (hk : k ∈ ks) : inStep ks b = (inst0, 0, some (3, 9)) := by
  unfold inStep; rw [h]; simp only; rw [if_pos hk]
theorem inStep_none {ks : List Int} {b : List (BitVec 8)} {k : Int} {n : Nat} {y : Inst} (h : inCut b = (k, n, none)) (hk : k ∉ ks) (ho : inOf k (b.take n) = (y, none)) : inStep ks b = (y, n, none) := by
  unfold inStep; rw [h]; simp only; rw [if_neg hk, ho]
theorem inStep_some {ks : List Int} {b : List (BitVec 8)} {k : Int} {n : Nat} {y : Inst} {c : Int × Int} (h : inCut b = (k, n, none)) (hk : k ∉ ks) (ho : inOf k (b.take n) = (y, some c)) : inStep ks b = (inst0, 0, some c) := by
  unfold inStep; rw [h]; simp only; rw [if_neg hk, ho]
set_option maxHeartbeats 4000000 in
theorem idec_c (b : List (BitVec 8)) (hb : b.length ≤ 100000) : FnT Tryz.prog 19 [byS b] (inDec b).1.length 7 (instL (inDec b).1) [.agg (gFault (inDec b).2)] := by
  have b9 := ibad_c 9
  unfold byS
  refine FnT.intro Tryz.func19 rfl rfl fun G w => ?_
  repeat' (first
   | refine WK.seq ?_
   | refine WK.block ?_
   | refine WK.inBlock ?_
   | refine WK.skip ?_
   | refine WK.label ?_
   | refine WK.scope ?_
   | refine WK.inScope ?_
   | refine WK.exit rfl ?_
   | refine WK.condT rfl ?_
   | refine WK.condF rfl ?_
   | (refine Hid.h hQ _ _ ?_; clear hQ hA)
   | refine WK.condAny rfl ?_ ?_
   | ((first | refine WK.cond2 rfl (fun h => ?_) (fun h => ?_)) <;> (first | (simp [*] at h; done) | (have h2 := h; simp at h2; exfalso; omega) | (have h2 := h; simp at h2; try simp only [Bool.not_eq_true', Bool.not_eq_false'] at h) | skip))
   | ((first | refine WK.regH Tryz.ntmps19 (by kernel_rfl) ?_ | refine WK.regX (by kernel_rfl) Tryz.ntmps19 (by kernel_rfl) ?_); intro A hA Q hQ; simp [*])
   | (refine Hid.h hQ _ _ _ (by decide +kernel) ?_; clear hQ hA)
   | (refine RunQ.makeMap 910 rfl rfl rfl ?_ ?_; (focus (simp [*]; done)); refine RunQ.evalH ?_; simp [*])
   | (refine RunX.makeMap 910 rfl rfl ?_ ?_; (focus (simp [*]; done)); refine RunX.evalY ?_; simp [*])
   | fail)
  repeat (first | refine WK.seq ?_ | refine WK.block ?_ | refine WK.inBlock ?_ | refine WK.skip ?_ | refine WK.label ?_ | refine WK.scope ?_ | refine WK.inScope ?_ | refine WK.exit rfl ?_)
  refine WK.ghost (Ghost.own 4 900 7 rfl rfl) ?_
  repeat (first | refine WK.seq ?_ | refine WK.block ?_ | refine WK.inBlock ?_ | refine WK.skip ?_ | refine WK.label ?_ | refine WK.scope ?_ | refine WK.inScope ?_ | refine WK.exit rfl ?_)
  refine WK.loopI (fun n => if n = 60 then 900 else if n = 61 then 910 else n) (fun x : Nat × Nat × List Inst => (⟨(upd (upd (upd (upd (upd J 0 (.sl false (b.length - x.2.1) (byL (b.drop x.2.1)))) 2 (.sl true 0 [])) 3 (.ptr 1 0)) 4 (.msl 60 0 x.2.2.length)) 5 (.mv 61)), (upd (upd (upd B0 1 (.var (gFault none))) 60 (.buf 7 (instL x.2.2))) 61 (.obj (mpObj (mpSeen (inKinds x.2.2))))), 0⟩ : St)) (fun x => InAt b x) (fun x => b.length - x.2.1) ((b.length, 0, [])) (by repeat (first | exact TmW.nil | refine TmW.upd ?_ (by simp (maxDischargeDepth := 120) [gFault, inKinds, mpSeen]))) (by repeat (first | exact BxW.nil | refine BxW.upd ?_ (by simp (maxDischargeDepth := 120) [gFault, inKinds, mpSeen]))) (by first | exact InjW.id | exact InjW.nil | exact InjW.one | exact InjW.two (by simp) | exact InjW.three (by simp) (by simp) (by simp)) (InAt.start b) (fun i hi IH => ?_)
  obtain ⟨f, p, acc⟩ := i
  have hsm := hi.small
  have hle := hi.le
  have hnd := hi.once
  simp only at hsm hle hi hnd ⊢
  by_cases h1 : p < b.length
  · have hc := icut_c (b.drop p) (by rw [List.length_drop]; omega)
    obtain ⟨k, n, c, hd⟩ : ∃ k n c, inCut (b.drop p) = (k, n, c) := ⟨_, _, _, rfl⟩
    rw [hd] at hc
    unfold byS at hc
    rw [List.length_drop] at hc
    have hpos : 0 < b.length - p := by omega
    have hpos' : (0 : Int) < ((b.length - p : Nat) : Int) := by omega
    cases c with
    | some c =>
      have e := InAt.bad hi h1 (inStep_cut hd)
      obtain ⟨L, hL⟩ : ∃ L, b.length - p = L := ⟨_, rfl⟩
      obtain ⟨B, hB⟩ : ∃ B, (b.drop p).take n = B := ⟨_, rfl⟩
      rw [hL] at hc hpos hpos' ⊢
      simp only [hB] at hc
      rw [e]
      clear hL hB b9
      repeat' (first
       | refine WK.seq ?_
       | refine WK.block ?_
       | refine WK.inBlock ?_
       | refine WK.skip ?_
       | refine WK.label ?_
       | refine WK.scope ?_
       | refine WK.inScope ?_
       | refine WK.exit rfl ?_
       | refine WK.condT rfl ?_
       | refine WK.condF rfl ?_
       | (refine Hid.h hQ _ _ ?_; clear hQ hA)
       | refine WK.condAny rfl ?_ ?_
       | ((first | refine WK.cond2 rfl (fun h => ?_) (fun h => ?_)) <;> (first | (simp [*] at h; done) | (have h2 := h; simp at h2; exfalso; omega) | (have h2 := h; simp at h2; try simp only [Bool.not_eq_true', Bool.not_eq_false'] at h) | skip))
       | ((first | refine WK.regH Tryz.ntmps19 (by kernel_rfl) ?_ | refine WK.regX (by kernel_rfl) Tryz.ntmps19 (by kernel_rfl) ?_); intro A hA Q hQ; simp [gFault, *])
       | (refine Hid.h hQ _ _ _ (by decide +kernel) ?_; clear hQ hA)
       | (((first | refine RunQ.call rfl rfl rfl rfl rfl ?_ (hc) ?_ ?_ | refine RunX.call rfl rfl rfl rfl ?_ (hc) ?_ ?_); (focus (simp (maxDischargeDepth := 120) [gFault, *]; done))); (focus (simp [gFault, *]; done)); (first | refine RunQ.evalH ?_ | refine RunX.evalY ?_); simp [gFault, *])
       | fail)
      repeat (first | refine WK.seq ?_ | refine WK.block ?_ | refine WK.inBlock ?_ | refine WK.skip ?_ | refine WK.label ?_ | refine WK.scope ?_ | refine WK.inScope ?_ | refine WK.exit rfl ?_)
      refine WK.ghost (Ghost.own 2 901 7 rfl rfl) ?_
      repeat (first | refine WK.seq ?_ | refine WK.block ?_ | refine WK.inBlock ?_ | refine WK.skip ?_ | refine WK.label ?_ | refine WK.scope ?_ | refine WK.inScope ?_ | refine WK.exit rfl ?_)
      refine WK.retT2 Tryz.func19 ?_ ?_ ?_ <;> simp (maxDischargeDepth := 120) [Tryz.results19, instL_nil, gFault]
    | none =>
    obtain ⟨f1, f2, f3, f4, ⟨kn, hkn, f5, f6, f7⟩, f8, f9⟩ := inCut_facts hd
    rw [List.length_drop] at f2
    have hvl := mpSeen_val (inKinds acc) k
    have hsn := mpSeen_snoc (inKinds acc) k
    have hcl := List.count_le_length (l := inKinds acc) (a := k)
    have hkl : (inKinds acc).length ≤ 100000 := by unfold inKinds; rw [List.length_map]; omega
    have hcp : 0 < (inKinds acc).count k ↔ k ∈ inKinds acc := List.count_pos_iff
    obtain ⟨c, hcc⟩ : ∃ c, (inKinds acc).count k = c := ⟨_, rfl⟩
    rw [hcc] at hvl hcl hcp
    obtain ⟨S, hS⟩ : ∃ S, mpSeen (inKinds acc) = S := ⟨_, rfl⟩
    rw [hS] at hsn hvl ⊢
    rw [hvl] at hsn
    have hput := mpVal_put S k ((c : Int) + 1) k
    rw [if_pos rfl] at hput
    have wc : IntKind.i64.wrap ((c : Int) + 1) = c + 1 := wrap_i64 (by omega) (by omega)
    have hBl : ((b.drop p).take n).length = n := by rw [List.length_take, List.length_drop]; omega
    have ho := ione_c k ((b.drop p).take n) (by omega) (by omega) (fun h => by
      unfold inLaid at f9; rw [h, if_neg (by decide), if_pos rfl] at f9
      simp only [Bool.and_eq_true, beq_iff_eq] at f9; omega)
    clear hkn f5 f6 f7 f8
    by_cases hc0 : c = 0
    case neg =>
      have e := InAt.bad hi h1 (inStep_two hd (hcp.1 (by omega)))
      have hgt : (1 : Int) < (c : Int) + 1 := by omega
      have hgt2 : 0 < c := by omega
      obtain ⟨L, hL⟩ : ∃ L, b.length - p = L := ⟨_, rfl⟩
      obtain ⟨B, hB⟩ : ∃ B, (b.drop p).take n = B := ⟨_, rfl⟩
      rw [hL] at hc hpos hpos' ⊢
      simp only [hB] at hc
      rw [e]
      clear hL hB ho hsn hcp hcl hS hcc hBl f9
      repeat' (first
       | refine WK.seq ?_
       | refine WK.block ?_
       | refine WK.inBlock ?_
       | refine WK.skip ?_
       | refine WK.label ?_
       | refine WK.scope ?_
       | refine WK.inScope ?_
       | refine WK.exit rfl ?_
       | refine WK.condT rfl ?_
       | refine WK.condF rfl ?_
       | (refine Hid.h hQ _ _ ?_; clear hQ hA)
       | refine WK.condAny rfl ?_ ?_
       | ((first | refine WK.cond2 rfl (fun h => ?_) (fun h => ?_)) <;> (first | (simp [*] at h; done) | (have h2 := h; simp at h2; exfalso; omega) | (have h2 := h; simp at h2; try simp only [Bool.not_eq_true', Bool.not_eq_false'] at h) | skip))
       | ((first | refine WK.regH Tryz.ntmps19 (by kernel_rfl) ?_ | refine WK.regX (by kernel_rfl) Tryz.ntmps19 (by kernel_rfl) ?_); intro A hA Q hQ; simp [gFault, *])
       | (refine Hid.h hQ _ _ _ (by decide +kernel) ?_; clear hQ hA)
       | (refine RunQ.mapUpdate mpOkInt rfl rfl rfl rfl rfl rfl rfl ?_; refine RunQ.evalH ?_; simp [gFault, *])
       | (refine RunX.mapUpdate mpOkInt rfl rfl rfl rfl rfl rfl ?_; refine RunX.evalY ?_; simp [gFault, *])
       | (refine RunQ.lookup mpOkInt rfl rfl rfl rfl rfl rfl ?_; refine RunQ.evalH ?_; simp [gFault, *])
       | (refine RunX.lookup mpOkInt rfl rfl rfl rfl rfl ?_; refine RunX.evalY ?_; simp [gFault, *])
       | ((first | ((first | refine RunQ.call rfl rfl rfl rfl rfl ?_ (hc) ?_ ?_ | refine RunX.call rfl rfl rfl rfl ?_ (hc) ?_ ?_); (focus (simp (maxDischargeDepth := 120) [gFault, *]; done))) | ((first | refine RunQ.call rfl rfl rfl rfl rfl ?_ (b9) ?_ ?_ | refine RunX.call rfl rfl rfl rfl ?_ (b9) ?_ ?_); (focus (simp (maxDischargeDepth := 120) [gFault, *]; done)))); (focus (simp [gFault, *]; done)); (first | refine RunQ.evalH ?_ | refine RunX.evalY ?_); simp [gFault, *])
       | fail)
      repeat (first | refine WK.seq ?_ | refine WK.block ?_ | refine WK.inBlock ?_ | refine WK.skip ?_ | refine WK.label ?_ | refine WK.scope ?_ | refine WK.inScope ?_ | refine WK.exit rfl ?_)
      refine WK.ghost (Ghost.own 2 901 7 rfl rfl) ?_
      repeat (first | refine WK.seq ?_ | refine WK.block ?_ | refine WK.inBlock ?_ | refine WK.skip ?_ | refine WK.label ?_ | refine WK.scope ?_ | refine WK.inScope ?_ | refine WK.exit rfl ?_)
      refine WK.retT2 Tryz.func19 ?_ ?_ ?_ <;> simp (maxDischargeDepth := 120) [Tryz.results19, instL_nil, gFault]
    subst hc0
    have hput1 : mpVal (mpPut S k 1) k = 1 := by simpa using hput
    have hsn1 : mpSeen (inKinds acc ++ [k]) = mpPut S k 1 := by simpa using hsn
    have hvl1 : mpVal S k = 0 := by simpa using hvl
    have wc1 : IntKind.i64.wrap 1 = 1 := rfl
    have hnk : k ∉ inKinds acc := fun h => by have := hcp.2 h; omega
    obtain ⟨y, c, hy⟩ : ∃ y c, inOf k ((b.drop p).take n) = (y, c) := ⟨_, _, rfl⟩
    rw [hy] at ho
    unfold byS at ho
    rw [hBl] at ho hc
    clear hput hsn hvl wc hcp hcl hS hcc
    cases c with
    | some c =>
      have hst := inStep_some hd hnk hy
      have e := InAt.bad hi h1 hst
      obtain ⟨L, hL⟩ : ∃ L, b.length - p = L := ⟨_, rfl⟩
      obtain ⟨B, hB⟩ : ∃ B, (b.drop p).take n = B := ⟨_, rfl⟩
      rw [hL] at hc hpos hpos' ⊢
      rw [hB] at hc ho
      rw [e]
      clear hL hB hst hBl f9 b9 hsn1
      repeat' (first
       | refine WK.seq ?_
       | refine WK.block ?_
       | refine WK.inBlock ?_
       | refine WK.skip ?_
       | refine WK.label ?_
       | refine WK.scope ?_
       | refine WK.inScope ?_
       | refine WK.exit rfl ?_
       | refine WK.condT rfl ?_
       | refine WK.condF rfl ?_
       | (refine Hid.h hQ _ _ ?_; clear hQ hA)
       | refine WK.condAny rfl ?_ ?_
       | ((first | refine WK.cond2 rfl (fun h => ?_) (fun h => ?_)) <;> (first | (simp [*] at h; done) | (have h2 := h; simp at h2; exfalso; omega) | (have h2 := h; simp at h2; try simp only [Bool.not_eq_true', Bool.not_eq_false'] at h) | skip))
       | ((first | refine WK.regH Tryz.ntmps19 (by kernel_rfl) ?_ | refine WK.regX (by kernel_rfl) Tryz.ntmps19 (by kernel_rfl) ?_); intro A hA Q hQ; simp [gFault, Inst.enc, *])
       | (refine Hid.h hQ _ _ _ (by decide +kernel) ?_; clear hQ hA)
       | (refine RunQ.mapUpdate mpOkInt rfl rfl rfl rfl rfl rfl rfl ?_; refine RunQ.evalH ?_; simp [gFault, Inst.enc, *])
       | (refine RunX.mapUpdate mpOkInt rfl rfl rfl rfl rfl rfl ?_; refine RunX.evalY ?_; simp [gFault, Inst.enc, *])
       | (refine RunQ.lookup mpOkInt rfl rfl rfl rfl rfl rfl ?_; refine RunQ.evalH ?_; simp [gFault, Inst.enc, *])
       | (refine RunX.lookup mpOkInt rfl rfl rfl rfl rfl ?_; refine RunX.evalY ?_; simp [gFault, Inst.enc, *])
       | ((first | ((first | refine RunQ.call rfl rfl rfl rfl rfl ?_ (hc) ?_ ?_ | refine RunX.call rfl rfl rfl rfl ?_ (hc) ?_ ?_); (focus (simp (maxDischargeDepth := 120) [gFault, Inst.enc, *]; done))) | ((first | refine RunQ.call rfl rfl rfl rfl rfl ?_ (ho) ?_ ?_ | refine RunX.call rfl rfl rfl rfl ?_ (ho) ?_ ?_); (focus (simp (maxDischargeDepth := 120) [gFault, Inst.enc, *]; done)))); (focus (simp [gFault, Inst.enc, *]; done)); (first | refine RunQ.evalH ?_ | refine RunX.evalY ?_); simp [gFault, Inst.enc, *])
       | fail)
      repeat (first | refine WK.seq ?_ | refine WK.block ?_ | refine WK.inBlock ?_ | refine WK.skip ?_ | refine WK.label ?_ | refine WK.scope ?_ | refine WK.inScope ?_ | refine WK.exit rfl ?_)
      refine WK.ghost (Ghost.own 2 901 7 rfl rfl) ?_
      repeat (first | refine WK.seq ?_ | refine WK.block ?_ | refine WK.inBlock ?_ | refine WK.skip ?_ | refine WK.label ?_ | refine WK.scope ?_ | refine WK.inScope ?_ | refine WK.exit rfl ?_)
      refine WK.retT2 Tryz.func19 ?_ ?_ ?_ <;> simp (maxDischargeDepth := 120) [Tryz.results19, instL_nil, gFault]
    | none =>
      have hst := inStep_none hd hnk hy
      obtain ⟨hk1, hk2, hn⟩ := InAt.next hi h1 hst
      simp only at hk1 hn
      have hyk : y.kind = k := by have := inOf_kind k ((b.drop p).take n); rw [hy] at this; exact this
      have hkk : inKinds (acc ++ [y]) = inKinds acc ++ [k] := by unfold inKinds; rw [List.map_append, List.map_cons, List.map_nil, hyk]
      have hnL : (n : Int) ≤ ((b.length - p : Nat) : Int) := by omega
      have hdd : ((byL (b.drop p)).drop n).take (b.length - p - n) = byL (b.drop (p + n)) := by
        rw [byL_drop, List.drop_drop]; exact by_full _ _ (by rw [List.length_drop]; omega)
      have hll : b.length - (p + n) = b.length - p - n := by omega
      have hbd : (acc.length + 1) * 72 ≤ 140737488355328 := by omega
      have hsq := instL_snoc acc y
      obtain ⟨L, hL⟩ : ∃ L, b.length - p = L := ⟨_, rfl⟩
      obtain ⟨B, hB⟩ : ∃ B, (b.drop p).take n = B := ⟨_, rfl⟩
      rw [hL] at hc hpos hpos' hnL hdd hll ⊢
      rw [hB] at hc ho
      rw [← hkk] at hsn1
      simp only [Inst.enc] at hsq ho
      clear hL hB hst hBl f9 b9 hkk hyk hy hd
      repeat' (first
       | refine WK.seq ?_
       | refine WK.block ?_
       | refine WK.inBlock ?_
       | refine WK.skip ?_
       | refine WK.label ?_
       | refine WK.scope ?_
       | refine WK.inScope ?_
       | refine WK.exit rfl ?_
       | refine WK.condT rfl ?_
       | refine WK.condF rfl ?_
       | (refine Hid.h hQ _ _ ?_; clear hQ hA)
       | refine WK.condAny rfl ?_ ?_
       | ((first | refine WK.cond2 rfl (fun h => ?_) (fun h => ?_)) <;> (first | (simp [*] at h; done) | (have h2 := h; simp at h2; exfalso; omega) | (have h2 := h; simp at h2; try simp only [Bool.not_eq_true', Bool.not_eq_false'] at h) | skip))
       | ((first | refine WK.regH Tryz.ntmps19 (by kernel_rfl) ?_ | refine WK.regX (by kernel_rfl) Tryz.ntmps19 (by kernel_rfl) ?_); intro A hA Q hQ; simp [gFault, *])
       | (refine Hid.h hQ _ _ _ (by decide +kernel) ?_; clear hQ hA)
       | (refine RunQ.mapUpdate mpOkInt rfl rfl rfl rfl rfl rfl rfl ?_; refine RunQ.evalH ?_; simp [gFault, *])
       | (refine RunX.mapUpdate mpOkInt rfl rfl rfl rfl rfl rfl ?_; refine RunX.evalY ?_; simp [gFault, *])
       | (refine RunQ.lookup mpOkInt rfl rfl rfl rfl rfl rfl ?_; refine RunQ.evalH ?_; simp [gFault, *])
       | (refine RunX.lookup mpOkInt rfl rfl rfl rfl rfl ?_; refine RunX.evalY ?_; simp [gFault, *])
       | (refine RunQ.append 902 appInst rfl rfl rfl rfl rfl rfl rfl rfl rfl ?_ ?_ ?_ ?_ ?_; (focus (first | omega | (simp [gFault, *]; done); done)); (focus (first | omega | (simp [gFault, *]; done); done)); (focus (first | omega | (simp [gFault, *]; done); done)); (focus (first | omega | (simp [gFault, *]; done); done)); refine RunQ.evalH ?_; simp [gFault, *])
       | (refine RunX.append 902 appInst rfl rfl rfl rfl rfl rfl rfl rfl ?_ ?_ ?_ ?_ ?_; (focus (first | omega | (simp [gFault, *]; done); done)); (focus (first | omega | (simp [gFault, *]; done); done)); (focus (first | omega | (simp [gFault, *]; done); done)); (focus (first | omega | (simp [gFault, *]; done); done)); refine RunX.evalY ?_; simp [gFault, *])
       | ((first | ((first | refine RunQ.call rfl rfl rfl rfl rfl ?_ (hc) ?_ ?_ | refine RunX.call rfl rfl rfl rfl ?_ (hc) ?_ ?_); (focus (simp (maxDischargeDepth := 120) [gFault, *]; done))) | ((first | refine RunQ.call rfl rfl rfl rfl rfl ?_ (ho) ?_ ?_ | refine RunX.call rfl rfl rfl rfl ?_ (ho) ?_ ?_); (focus (simp (maxDischargeDepth := 120) [gFault, *]; done)))); (focus (simp [gFault, *]; done)); (first | refine RunQ.evalH ?_ | refine RunX.evalY ?_); simp [gFault, *])
       | fail)
      repeat (first | refine WK.seq ?_ | refine WK.block ?_ | refine WK.inBlock ?_ | refine WK.skip ?_ | refine WK.label ?_ | refine WK.scope ?_ | refine WK.inScope ?_ | refine WK.exit rfl ?_)
      refine WK.next (fun n => if n = 60 then 902 else n) (IH ((f - 1, p + n, acc ++ [y])) (hn) (by first | omega | (dsimp only; omega))) (by repeat (first | exact TmW.nil | refine TmW.upd ?_ (by simp (maxDischargeDepth := 120) [hsq, hll, gFault, hsn1]))) (by repeat (first | exact BxW.nil | refine BxW.upd ?_ (by simp (maxDischargeDepth := 120) [hsq, hll, gFault, hsn1]))) (by first | exact InjW.id | exact InjW.nil | exact InjW.one | exact InjW.two (by simp) | exact InjW.three (by simp) (by simp) (by simp))
  · have hstop := InAt.stop hi h1
    simp only at hstop
    have hpos : ¬ 0 < b.length - p := by omega
    have hpos' : ¬ (0 : Int) < ((b.length - p : Nat) : Int) := by omega
    obtain ⟨L, hL⟩ : ∃ L, b.length - p = L := ⟨_, rfl⟩
    rw [hL] at hpos hpos' ⊢
    rw [hstop]
    clear hL
    repeat' (first
     | refine WK.seq ?_
     | refine WK.block ?_
     | refine WK.inBlock ?_
     | refine WK.skip ?_
     | refine WK.label ?_
     | refine WK.scope ?_
     | refine WK.inScope ?_
     | refine WK.exit rfl ?_
     | refine WK.condT rfl ?_
     | refine WK.condF rfl ?_
     | (refine Hid.h hQ _ _ ?_; clear hQ hA)
     | refine WK.condAny rfl ?_ ?_
     | ((first | refine WK.cond2 rfl (fun h => ?_) (fun h => ?_)) <;> (first | (simp [*] at h; done) | (have h2 := h; simp at h2; exfalso; omega) | (have h2 := h; simp at h2; try simp only [Bool.not_eq_true', Bool.not_eq_false'] at h) | skip))
     | ((first | refine WK.regH Tryz.ntmps19 (by kernel_rfl) ?_ | refine WK.regX (by kernel_rfl) Tryz.ntmps19 (by kernel_rfl) ?_); intro A hA Q hQ; simp [gFault, *])
     | (refine Hid.h hQ _ _ _ (by decide +kernel) ?_; clear hQ hA)
     | (refine WK.retT2 Tryz.func19 ?_ ?_ ?_ <;> simp (maxDischargeDepth := 120) [Tryz.results19, gFault, *])
     | fail)
end Go.Proofs.YteonfhnljphbpaaGreat
end

section
set_option linter.unusedVariables false
set_option linter.unusedSimpArgs false
namespace Go.Proofs.YteonfhnljphbpaaGreat
open Go Go.AI Go.Proofs
attribute [local irreducible] FnP FnO FnB FnT FnSeq WK RunQ RunQW RunX RunXW

theorem iencP_c (l : List Inst) (hl : l.length ≤ 100) (ha : ∀ x, x ∈ l → x.acts.length ≤ 1000000) : FnP Tryz.prog 23 [instS l] (.tup [byS (inEnc l).1, .int .i64 (inEnc l).2]) := by
  have h := (ienc_c l hl ha).toP (by simp [byL_take]) (by rfl)
  rwa [Nat.mul_one, by_full _ _ rfl] at h
theorem idecP_c (b : List (BitVec 8)) (hb : b.length ≤ 100000) : FnP Tryz.prog 19 [byS b] (.tup [instS (inDec b).1, .agg (gFault (inDec b).2)]) := by
  have h := (idec_c b hb).toP (by simp) (by simp [ClL, Cl])
  rwa [instL_take] at h
def L14 : List Inst := [⟨1, 2, wideZ, wideZ, []⟩, ⟨4, 0, wideZ, wideZ, [⟨18, 0, 0, 0, 0, oxm0⟩]⟩]
theorem fL14a : (inEnc L14).1.length = 24 := by kernel_rfl
theorem fL14b : (inEnc L14).2 = 0 := by kernel_rfl
theorem fL14c : inDec (inEnc L14).1 = (L14, none) := by kernel_rfl
theorem fL14d : inFind L14 4 = (nth L14 1, true) := by kernel_rfl
theorem fL14e : inRight (nth L14 0) = true := by kernel_rfl
set_option maxHeartbeats 4000000 in
theorem awake14_c : FnP Tryz.prog 18 [] (.bool true) := by
  have hl : L14.length ≤ 100 := by decide
  have ha : ∀ x, x ∈ L14 → x.acts.length ≤ 1000000 := by
    intro x hx; simp [L14] at hx; rcases hx with rfl | rfl <;> simp
  have p := iencP_c L14 hl ha
  have d := idecP_c (inEnc L14).1 (by rw [fL14a]; omega)
  have s := insame_c L14 L14 (by decide) ha
  have o := iof_c L14 4 (by decide) ha
  have r := iright_c (nth L14 0) (by decide)
  rw [fL14c] at d
  rw [fL14b] at p
  rw [fL14d] at o
  rw [fL14e] at r
  rw [eqBy_refl instSelf] at s
  have hB := fL14a
  obtain ⟨B, hBB⟩ : ∃ B, (inEnc L14).1 = B := ⟨_, rfl⟩
  rw [hBB] at p d hB
  clear hBB
  unfold byS at p d
  rw [hB] at p d
  simp only [nth, List.getD_cons_zero, List.getD_cons_succ, gFault, instS, instL, L14, actL, List.flatMap_cons, List.flatMap_nil, List.append_nil, List.cons_append, List.nil_append, List.length_cons, List.length_nil, Inst.enc, Action.enc, oxm0, wideZ, uI_zero, Nat.zero_add, Nat.reduceAdd] at p d s o r
  refine FnP.intro Tryz.func18 rfl rfl fun G w => ?_
  repeat' (first
   | refine WK.seq ?_
   | refine WK.block ?_
   | refine WK.inBlock ?_
   | refine WK.skip ?_
   | refine WK.label ?_
   | refine WK.scope ?_
   | refine WK.inScope ?_
   | refine WK.exit rfl ?_
   | refine WK.condT rfl ?_
   | refine WK.condF rfl ?_
   | (refine Hid.h hQ _ _ ?_; clear hQ hA)
   | refine WK.condAny rfl ?_ ?_
   | ((first | refine WK.cond2 rfl (fun h => ?_) (fun h => ?_) | refine Fork.mk (fun h => ?_) (fun h => ?_)) <;> (first | (simp [*] at h; done) | (have h2 := h; simp at h2; exfalso; omega) | (have h2 := h; simp at h2; try simp only [Bool.not_eq_true', Bool.not_eq_false'] at h) | skip))
   | (refine WK.regH Tryz.ntmps18 (by kernel_rfl) ?_; intro A hA Q hQ; simp [*])
   | (refine RunQ.gd rfl (by rw [hA.h]; rfl) ?_; simp [*])
   | ((first | ((first | refine RunQ.call rfl rfl rfl rfl rfl ?_ (p) ?_ ?_ | refine RunQW.call rfl rfl rfl rfl ?_ (p) ?_ ?_); (focus (simp (maxDischargeDepth := 120) [*]; done))) | ((first | refine RunQ.call rfl rfl rfl rfl rfl ?_ (d) ?_ ?_ | refine RunQW.call rfl rfl rfl rfl ?_ (d) ?_ ?_); (focus (simp (maxDischargeDepth := 120) [*]; done))) | ((first | refine RunQ.call rfl rfl rfl rfl rfl ?_ (s) ?_ ?_ | refine RunQW.call rfl rfl rfl rfl ?_ (s) ?_ ?_); (focus (simp (maxDischargeDepth := 120) [*]; done))) | ((first | refine RunQ.call rfl rfl rfl rfl rfl ?_ (o) ?_ ?_ | refine RunQW.call rfl rfl rfl rfl ?_ (o) ?_ ?_); (focus (simp (maxDischargeDepth := 120) [*]; done))) | ((first | refine RunQ.call rfl rfl rfl rfl rfl ?_ (r) ?_ ?_ | refine RunQW.call rfl rfl rfl rfl ?_ (r) ?_ ?_); (focus (simp (maxDischargeDepth := 120) [*]; done)))); (focus (simp [*]; done)); refine RunQ.evalH ?_; simp [*])
   | (refine WK.ret Tryz.func18 ?_ ?_ <;> simp (maxDischargeDepth := 120) [Tryz.results18, *])
   | fail)
end Go.Proofs.YteonfhnljphbpaaGreat
end
