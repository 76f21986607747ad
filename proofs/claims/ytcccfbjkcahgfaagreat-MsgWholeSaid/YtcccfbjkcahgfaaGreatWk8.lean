/- Instructions: their bytes. -/
import Derived.Test.YtcccfbjkcahgfaaGreatWk7
import Derived.Test.YtcccfbjkcahgfaaGreatWk6
set_option linter.all false
set_option linter.unnecessarySimpa false
section
set_option linter.unusedVariables false
set_option linter.unusedSimpArgs false
namespace Go.Proofs.YtcccfbjkcahgfaaGreat
open Go Go.AI Go.Proofs
attribute [local irreducible] FnP FnO FnB FnT FnSeq WK RunQ RunQW RunX RunXW

theorem z4L : byL (List.replicate 4 0#8) = [.int .u8 0, .int .u8 0, .int .u8 0, .int .u8 0] := rfl
set_option maxHeartbeats 4000000 in
theorem ibody_c (i : Inst) (hi : i.acts.length ≤ 1000000) : FnO Tryz.prog 240 [.agg i.enc] (inBody i).length 1 (byL (inBody i)) := by
  obtain ⟨kk, t, v, m, l⟩ := i
  by_cases k1 : kk = 1
  · subst k1
    have e : inBody ⟨1, t, v, m, l⟩ = BitVec.ofInt 8 t :: List.replicate 3 0#8 := by unfold inBody; rw [if_pos rfl]
    have w := wrap_u8 t
    have e2 : byL (BitVec.ofInt 8 t :: List.replicate 3 0#8) = [.int .u8 (bI (BitVec.ofInt 8 t)), .int .u8 0, .int .u8 0, .int .u8 0] := rfl
    have hl : (BitVec.ofInt 8 t :: List.replicate 3 0#8).length = 4 := rfl
    rw [e]
    obtain ⟨K, hK⟩ : ∃ K, BitVec.ofInt 8 t :: List.replicate 3 0#8 = K := ⟨_, rfl⟩
    rw [hK] at e2 hl ⊢
    rw [hl]
    clear hK e
    refine FnO.intro Tryz.func240 rfl rfl fun G w => ?_
    repeat' (first
     | refine WK.seq ?_
     | refine WK.block ?_
     | refine WK.inBlock ?_
     | refine WK.condT rfl ?_
     | (refine Hid.h hQ _ _ ?_; clear hQ hA)
     | (refine WK.regH Tryz.ntmps240 (by kernel_rfl) ?_; intro A hA Q hQ; simp [Inst.enc, *])
     | (refine RunQ.make (n := 4) (c := 24) (k := .i64) (k' := .i64) 900 appByte rfl rfl rfl ?_ ?_ (by omega) (by omega) ?_ ?_; (focus (simp (maxDischargeDepth := 120) [Inst.enc, *]; done)); (focus (simp (maxDischargeDepth := 120) [Inst.enc, *]; done)); (focus (simp [Inst.enc, *]; done)); refine RunQ.evalH ?_; simp [Inst.enc, *])
     | (refine WK.retO Tryz.func240 rfl rfl ?_ ?_ <;> simp (maxDischargeDepth := 120) [Inst.enc, e2, *])
     | fail)
  have j1 : (kk == 1) = false := by simpa using k1
  by_cases k2 : kk = 2
  · subst k2
    have e : inBody ⟨2, t, v, m, l⟩ = List.replicate 4 0#8 ++ (beN (wN v) 8 ++ beN (wN m) 8) := by unfold inBody; simp only; rw [if_neg (by decide), if_pos (by decide)]
    have c1 := wput_c (List.replicate 4 0#8) v 8 (by omega) (by simp)
    rw [wPut_beN _ _ _ (by omega)] at c1
    have c2 := wput_c (List.replicate 4 0#8 ++ beN (wN v) 8) m 8 (by omega) (by simp [beN_len])
    rw [wPut_beN _ _ _ (by omega), List.append_assoc] at c2
    have hl : (List.replicate 4 0#8 ++ beN (wN v) 8).length = 12 := by simp [beN_len]
    have hz : (List.replicate 4 0#8).length = 4 := rfl
    rw [e]
    obtain ⟨F, hF⟩ : ∃ F, List.replicate 4 0#8 ++ beN (wN v) 8 = F := ⟨_, rfl⟩
    obtain ⟨K, hK⟩ : ∃ K, List.replicate 4 0#8 ++ (beN (wN v) 8 ++ beN (wN m) 8) = K := ⟨_, rfl⟩
    rw [hF] at c1 c2 hl
    rw [hK] at c2 ⊢
    have hfu : (byL F).take 12 = byL F := by_full _ _ hl.symm
    unfold byS at c1 c2
    rw [hl] at c1 c2
    rw [hz, z4L] at c1
    clear hF hK e
    unfold Wide.enc at c1 c2
    refine FnO.intro Tryz.func240 rfl rfl fun G w => ?_
    repeat' (first
     | refine WK.seq ?_
     | refine WK.block ?_
     | refine WK.condT rfl ?_
     | refine WK.condF rfl ?_
     | (refine Hid.h hQ _ _ ?_; clear hQ hA)
     | (refine WK.regH Tryz.ntmps240 (by kernel_rfl) ?_; intro A hA Q hQ; simp [Inst.enc, *])
     | (refine WK.regX (by kernel_rfl) Tryz.ntmps240 (by kernel_rfl) ?_; intro A hA Q hQ; simp [Inst.enc, *])
     | (refine Hid.h hQ _ _ _ (by decide +kernel) ?_; clear hQ hA)
     | (refine RunQ.make (n := 4) (c := 24) (k := .i64) (k' := .i64) 900 appByte rfl rfl rfl ?_ ?_ (by omega) (by omega) ?_ ?_; (focus (simp (maxDischargeDepth := 120) [Inst.enc, *]; done)); (focus (simp (maxDischargeDepth := 120) [Inst.enc, *]; done)); (focus (simp [Inst.enc, *]; done)); refine RunQ.evalH ?_; simp [Inst.enc, *])
     | (refine RunX.callOz 901 18 1 rfl rfl rfl rfl rfl rfl ?_ (c1) ?_ ?_ (by simp) (by decide) ?_; (focus (simp (maxDischargeDepth := 120) [Inst.enc, *]; done)); (focus (simp [Inst.enc, *]; done)); (focus (simp [Inst.enc, *]; done)); refine RunX.evalY ?_; simp [Inst.enc, *])
     | (refine RunX.callOz 902 21 1 rfl rfl rfl rfl rfl rfl ?_ (c2) ?_ ?_ (by simp) (by decide) ?_; (focus (simp (maxDischargeDepth := 120) [Inst.enc, *]; done)); (focus (simp [Inst.enc, *]; done)); (focus (simp [Inst.enc, *]; done)); refine RunX.evalY ?_; simp [Inst.enc, *])
     | (refine WK.retO Tryz.func240 rfl rfl ?_ ?_ <;> simp (maxDischargeDepth := 120) [Inst.enc, *])
     | fail)
  have j2 : (kk == 2) = false := by simpa using k2
  by_cases k34 : kk = 3 ∨ kk = 4
  · have e : inBody ⟨kk, t, v, m, l⟩ = List.replicate 4 0#8 ++ (acEnc l).1 := by unfold inBody; rw [if_neg k1, if_neg k2, if_pos k34]
    have p := acencP_c l hi
    have hEl := acEnc_len l
    rw [e]
    obtain ⟨R, hR⟩ : ∃ R, acEnc l = R := ⟨_, rfl⟩
    rw [hR] at p hEl ⊢
    obtain ⟨E, c⟩ := R
    simp only at p hEl ⊢
    have hKl : (List.replicate 4 0#8 ++ E).length = 4 + E.length := by rw [List.length_append, List.length_replicate]
    have hKb : byL (List.replicate 4 0#8 ++ E) = .int .u8 0 :: .int .u8 0 :: .int .u8 0 :: .int .u8 0 :: byL E := by rw [byL_app, z4L]; rfl
    obtain ⟨K, hK⟩ : ∃ K, List.replicate 4 0#8 ++ E = K := ⟨_, rfl⟩
    rw [hK] at hKl hKb ⊢
    rw [hKl]
    have hfu := by_full E E.length rfl
    have hbd : 4 + E.length ≤ 140737488355328 := by omega
    simp only [byS, actS] at p
    clear hR e hEl hK
    rcases k34 with rfl | rfl
    · refine FnO.intro Tryz.func240 rfl rfl fun G w => ?_
      repeat' (first
       | refine WK.seq ?_
       | refine WK.block ?_
       | refine WK.skip ?_
       | refine WK.condT rfl ?_
       | refine WK.condF rfl ?_
       | (refine Hid.h hQ _ _ ?_; clear hQ hA)
       | (refine WK.regH Tryz.ntmps240 (by kernel_rfl) ?_; intro A hA Q hQ; simp [Inst.enc, *])
       | (refine RunQ.make (n := 4) (c := 24) (k := .i64) (k' := .i64) 900 appByte rfl rfl rfl ?_ ?_ (by omega) (by omega) ?_ ?_; (focus (simp (maxDischargeDepth := 120) [Inst.enc, *]; done)); (focus (simp (maxDischargeDepth := 120) [Inst.enc, *]; done)); (focus (simp [Inst.enc, *]; done)); refine RunQ.evalH ?_; simp [Inst.enc, *])
       | (refine RunQ.append 901 appByte rfl rfl rfl rfl rfl rfl rfl rfl rfl ?_ ?_ ?_ ?_ ?_; (focus (first | omega | (simp [Inst.enc, *]; done); done)); (focus (first | omega | (simp [Inst.enc, *]; done); done)); (focus (first | omega | (simp [Inst.enc, *]; done); done)); (focus (first | omega | (simp [Inst.enc, *]; done); done)); refine RunQ.evalH ?_; simp [Inst.enc, *])
       | (refine RunQ.call rfl rfl rfl rfl rfl ?_ (p) ?_ ?_; (focus (simp (maxDischargeDepth := 120) [Inst.enc, *]; done)); (focus (simp [Inst.enc, *]; done)); refine RunQ.evalH ?_; simp [Inst.enc, *])
       | (refine WK.retO Tryz.func240 rfl rfl ?_ ?_ <;> simp (maxDischargeDepth := 120) [Inst.enc, *])
       | fail)
    · refine FnO.intro Tryz.func240 rfl rfl fun G w => ?_
      repeat' (first
       | refine WK.seq ?_
       | refine WK.block ?_
       | refine WK.condT rfl ?_
       | refine WK.condF rfl ?_
       | (refine Hid.h hQ _ _ ?_; clear hQ hA)
       | (refine WK.regH Tryz.ntmps240 (by kernel_rfl) ?_; intro A hA Q hQ; simp [Inst.enc, *])
       | (refine RunQ.make (n := 4) (c := 24) (k := .i64) (k' := .i64) 900 appByte rfl rfl rfl ?_ ?_ (by omega) (by omega) ?_ ?_; (focus (simp (maxDischargeDepth := 120) [Inst.enc, *]; done)); (focus (simp (maxDischargeDepth := 120) [Inst.enc, *]; done)); (focus (simp [Inst.enc, *]; done)); refine RunQ.evalH ?_; simp [Inst.enc, *])
       | (refine RunQ.append 901 appByte rfl rfl rfl rfl rfl rfl rfl rfl rfl ?_ ?_ ?_ ?_ ?_; (focus (first | omega | (simp [Inst.enc, *]; done); done)); (focus (first | omega | (simp [Inst.enc, *]; done); done)); (focus (first | omega | (simp [Inst.enc, *]; done); done)); (focus (first | omega | (simp [Inst.enc, *]; done); done)); refine RunQ.evalH ?_; simp [Inst.enc, *])
       | (refine RunQ.call rfl rfl rfl rfl rfl ?_ (p) ?_ ?_; (focus (simp (maxDischargeDepth := 120) [Inst.enc, *]; done)); (focus (simp [Inst.enc, *]; done)); refine RunQ.evalH ?_; simp [Inst.enc, *])
       | (refine WK.retO Tryz.func240 rfl rfl ?_ ?_ <;> simp (maxDischargeDepth := 120) [Inst.enc, *])
       | fail)
  have j3 : (kk == 3) = false := by rw [beq_eq_false_iff_ne]; omega
  have j4 : (kk == 4) = false := by rw [beq_eq_false_iff_ne]; omega
  have e : inBody ⟨kk, t, v, m, l⟩ = List.replicate 4 0#8 := by unfold inBody; rw [if_neg k1, if_neg k2, if_neg k34]
  rw [e]
  have hKl : (List.replicate 4 0#8).length = 4 := rfl
  have hKb := z4L
  obtain ⟨K, hK⟩ : ∃ K, List.replicate 4 0#8 = K := ⟨_, rfl⟩
  rw [hK] at hKl hKb ⊢
  rw [hKl]
  clear k34 e hK
  refine FnO.intro Tryz.func240 rfl rfl fun G w => ?_
  repeat' (first
   | refine WK.seq ?_
   | refine WK.block ?_
   | refine WK.inBlock ?_
   | refine WK.skip ?_
   | refine WK.condF rfl ?_
   | (refine Hid.h hQ _ _ ?_; clear hQ hA)
   | (refine WK.regH Tryz.ntmps240 (by kernel_rfl) ?_; intro A hA Q hQ; simp [Inst.enc, *])
   | (refine RunQ.make (n := 4) (c := 24) (k := .i64) (k' := .i64) 900 appByte rfl rfl rfl ?_ ?_ (by omega) (by omega) ?_ ?_; (focus (simp (maxDischargeDepth := 120) [Inst.enc, *]; done)); (focus (simp (maxDischargeDepth := 120) [Inst.enc, *]; done)); (focus (simp [Inst.enc, *]; done)); refine RunQ.evalH ?_; simp [Inst.enc, *])
   | (refine WK.retO Tryz.func240 rfl rfl ?_ ?_ <;> simp (maxDischargeDepth := 120) [Inst.enc, *])
   | fail)
theorem mpOkInt : MpOk Tryz.prog 176 := MpOk.mk' Tryz.underlying176 Tryz.underlying3 (by kernel_rfl)
theorem inFlat_succ {l : List Inst} {i : Nat} (h : i < l.length) : rwFlat inOne (l.take (i + 1)) = rwFlat inOne (l.take i) ++ inOne (nth l i) := by
  unfold rwFlat; rw [take_nth h, List.flatMap_append]; simp
theorem inFlat_len (l : List Inst) : (rwFlat inOne l).length ≤ l.length * 6100 := by
  induction l with
  | nil => simp [rwFlat]
  | cons x l ih =>
    have h1 := inOne_len x
    have h2 := inBody_len x
    have e : rwFlat inOne (x :: l) = inOne x ++ rwFlat inOne l := rfl
    rw [e, List.length_append, List.length_cons]
    omega
theorem inKinds_succ {l : List Inst} {i : Nat} (h : i < l.length) : inKinds (l.take (i + 1)) = inKinds (l.take i) ++ [(nth l i).kind] := by
  unfold inKinds; rw [take_nth h, List.map_append]; rfl
theorem inKinds_take {l : List Inst} (h : (inKinds l).Nodup) (i : Nat) : (inKinds (l.take i)).Nodup := by
  unfold inKinds at *
  rw [List.map_take]
  exact h.sublist (List.take_sublist _ _)
theorem inEnc_two {l : List Inst} {i : Nat} (h : i < l.length) (hk : (nth l i).kind ∈ inKinds (l.take i)) : inEnc l = ([], 1) := by
  refine inEnc_bad1 fun hh => ?_
  have h1 := inKinds_take (inFit_facts hh.1).2 (i + 1)
  rw [inKinds_succ h, List.nodup_append] at h1
  exact h1.2.2 _ hk _ (by simp) rfl
theorem inEnc_wrong {l : List Inst} {i : Nat} (h : i < l.length) (hk : inRight (nth l i) = false) : inEnc l = ([], 1) := by
  refine inEnc_bad1 fun hh => ?_
  have h1 := (inFit_facts hh.1).1 _ (nth_mem h)
  rw [hk] at h1; cases h1
theorem inFit_of {l : List Inst} (h : ∀ j, j < l.length → inRight (nth l j) = true) (h2 : (inKinds l).Nodup) : inFit l = true := by
  unfold inFit
  rw [Bool.and_eq_true, List.all_eq_true, decide_eq_true_eq]
  refine ⟨fun x hx => ?_, h2⟩
  obtain ⟨j, hj, rfl⟩ := mem_nth hx
  exact h j hj
theorem nodup_snoc {ks : List Int} {k : Int} (h : ks.Nodup) (hk : k ∉ ks) : (ks ++ [k]).Nodup := by
  rw [List.nodup_append]
  exact ⟨h, by simp, fun a ha b hb => by simp at hb; subst hb; exact fun e => hk (e ▸ ha)⟩
set_option maxHeartbeats 4000000 in
theorem ienc_c (l : List Inst) (hl : l.length ≤ 100) (ha : ∀ x, x ∈ l → x.acts.length ≤ 1000000) : FnT Tryz.prog 237 [instS l] (inEnc l).1.length 1 (byL (inEnc l).1) [.int .i64 (inEnc l).2] := by
  unfold instS
  refine FnT.intro Tryz.func237 rfl rfl fun G w => ?_
  repeat' (first
   | refine WK.seq ?_
   | refine WK.block ?_
   | (refine Hid.h hQ _ _ ?_; clear hQ hA)
   | (refine WK.regH Tryz.ntmps237 (by kernel_rfl) ?_; intro A hA Q hQ; simp [*])
   | (refine RunQ.makeMap 910 rfl rfl rfl ?_ ?_; (focus (simp [*]; done)); refine RunQ.evalH ?_; simp [*])
   | fail)
  refine WK.ghost (Ghost.own 4 900 1 rfl rfl) ?_
  refine WK.loopI (fun n => if n = 1 then 900 else if n = 2 then 910 else n) (fun i : Nat => (⟨(upd (upd (upd (upd (upd (upd (upd J 2 (.sl true 0 [])) 3 (.int .i64 0)) 4 (.msl 1 0 (rwFlat inOne (l.take i)).length)) 5 (.mv 2)) 10 (.sl false l.length (instL l))) 11 (.int .i64 l.length)) 12 (.int .i64 i)), (upd (upd B0 1 (.buf 1 (byL (rwFlat inOne (l.take i))))) 2 (.obj (mpObj (mpSeen (inKinds (l.take i)))))), 0⟩ : St)) (fun i => i ≤ l.length ∧ (∀ j, j < i → inRight (nth l j) = true) ∧ (inKinds (l.take i)).Nodup) (fun i => l.length - i) (0) (by repeat (first | exact TmW.nil | refine TmW.upd ?_ (by simp (maxDischargeDepth := 120) [rwFlat, byL_nil, inKinds, mpSeen]))) (by repeat (first | exact BxW.nil | refine BxW.upd ?_ (by simp (maxDischargeDepth := 120) [rwFlat, byL_nil, inKinds, mpSeen]))) (by first | exact InjW.id | exact InjW.nil | exact InjW.one | exact InjW.two (by simp) | exact InjW.three (by simp) (by simp) (by simp)) (⟨by omega, by simp, by simp [inKinds]⟩) (fun i hi IH => ?_)
  have hfl := inFlat_len (l.take i)
  have htl : (l.take i).length ≤ 100 := by rw [List.length_take]; omega
  by_cases h1 : i < l.length
  · have h4 := inst_sub l i h1
    have h3 : 7 ≤ l.length * 7 - i * 7 := by omega
    have h6 : IntKind.i64.wrap ((i : Int) + 1) = i + 1 := wrap_i64 (by omega) (by omega)
    have hs := inFlat_succ h1
    have hx := ha _ (nth_mem h1)
    have hrc := iright_c (nth l i) hx
    have hks := inKinds_succ h1
    have hsn := mpSeen_snoc (inKinds (l.take i)) (nth l i).kind
    have hvl := mpSeen_val (inKinds (l.take i)) (nth l i).kind
    rw [← hks] at hsn
    have htwo : (nth l i).kind ∈ inKinds (l.take i) → inEnc l = ([], 1) := inEnc_two h1
    have hwr : inRight (nth l i) = false → inEnc l = ([], 1) := inEnc_wrong h1
    have hle := List.count_le_length (l := inKinds (l.take i)) (a := (nth l i).kind)
    have hkl : (inKinds (l.take i)).length ≤ 100 := by unfold inKinds; rw [List.length_map]; exact htl
    have hpos : 0 < (inKinds (l.take i)).count (nth l i).kind ↔ (nth l i).kind ∈ inKinds (l.take i) := List.count_pos_iff
    obtain ⟨c, hc⟩ : ∃ c, (inKinds (l.take i)).count (nth l i).kind = c := ⟨_, rfl⟩
    rw [hc] at hvl hle hpos
    have hnd := hi.2.2
    have hall := hi.2.1
    obtain ⟨S, hS⟩ : ∃ S, mpSeen (inKinds (l.take i)) = S := ⟨_, rfl⟩
    rw [hS] at hsn hvl ⊢
    rw [hvl] at hsn
    have hput := mpVal_put S (nth l i).kind ((c : Int) + 1) (nth l i).kind
    rw [if_pos rfl] at hput
    have wc : IntKind.i64.wrap ((c : Int) + 1) = c + 1 := wrap_i64 (by omega) (by omega)
    clear hc hle hkl hS
    have hjr : inRight (nth l i) = true → ∀ j, j < i + 1 → inRight (nth l j) = true := fun hr j hj => by
      by_cases h7 : j = i
      · subst h7; exact hr
      · exact hall j (by omega)
    have hjn : c = 0 → (inKinds (l.take (i + 1))).Nodup := fun h0 => by
      rw [hks]; exact nodup_snoc hnd fun h => by have := hpos.2 h; omega
    have hbody := ibody_c (nth l i) hx
    have hbl := inBody_len (nth l i)
    have hone : inOne (nth l i) = beN (nth l i).kind 2 ++ (beN (4 + (inBody (nth l i)).length : Nat) 2 ++ inBody (nth l i)) := rfl
    have hkd : inRight (nth l i) = true → numOk (nth l i).kind 2 = true := fun hr => by
      have := inKind_of (inRight_facts hr).1
      rw [numOk_iff]; exact ⟨by omega, by show (nth l i).kind < 65536; omega⟩
    have hn2 : numOk ((4 + (inBody (nth l i)).length : Nat) : Int) 2 = true := numOk2 (by omega)
    obtain ⟨x, hxx⟩ : ∃ x, nth l i = x := ⟨_, rfl⟩
    rw [hxx] at h4 hs hx hrc hsn hput htwo hwr hvl hpos hjr hbody hbl hone hkd hn2
    obtain ⟨E, hE⟩ : ∃ E, inBody x = E := ⟨_, rfl⟩
    rw [hE] at hbody hbl hone hn2
    obtain ⟨F, hF⟩ : ∃ F, rwFlat inOne (l.take i) = F := ⟨_, rfl⟩
    rw [hF] at hs hfl ⊢
    have hFl : F.length ≤ 700000 := by omega
    have hKs : ∃ K, inKinds (l.take (i + 1)) = K := ⟨_, rfl⟩
    obtain ⟨K, hK⟩ := hKs
    rw [hK] at hsn hjn
    obtain ⟨r, hr⟩ : ∃ r, inRight x = r := ⟨_, rfl⟩
    rw [hr] at hrc hwr hjr hkd
    simp only [Inst.enc] at h4 hrc hbody
    clear hi hall hnd hks hE hF hxx hr hfl htl
    cases r
    · have e := hwr rfl
      rw [e]
      clear htwo hwr hjr hjn hbody hone hkd hn2 hsn hpos hs hK
      repeat' (first
       | refine WK.seq ?_
       | refine WK.block ?_
       | refine WK.skip ?_
       | refine WK.condT rfl ?_
       | (refine Hid.h hQ _ _ ?_; clear hQ hA)
       | (refine WK.regH Tryz.ntmps237 (by kernel_rfl) ?_; intro A hA Q hQ; simp [*])
       | (refine RunQ.gd rfl (by rw [hA.h]; rfl) ?_; simp [*])
       | (refine RunQ.mapUpdate mpOkInt rfl rfl rfl rfl rfl rfl rfl ?_; refine RunQ.evalH ?_; simp [*])
       | (refine RunQ.lookup mpOkInt rfl rfl rfl rfl rfl rfl ?_; refine RunQ.evalH ?_; simp [*])
       | (refine RunQ.call rfl rfl rfl rfl rfl ?_ (hrc) ?_ ?_; (focus (simp (maxDischargeDepth := 120) [*]; done)); (focus (simp [*]; done)); refine RunQ.evalH ?_; simp [*])
       | fail)
      refine WK.ghost (Ghost.own 2 905 1 rfl rfl) ?_
      refine WK.retT2 Tryz.func237 ?_ ?_ ?_ <;> simp (maxDischargeDepth := 120) [Tryz.results237, byL_nil]
    by_cases hc0 : c = 0
    case neg =>
      have e := htwo (hpos.1 (by omega))
      rw [e]
      have hgt : (1 : Int) < (c : Int) + 1 := by omega
      have hgt2 : 0 < c := by omega
      clear htwo hwr hjr hjn hbody hone hkd hn2 hsn hpos hs hK
      repeat' (first
       | refine WK.seq ?_
       | refine WK.block ?_
       | refine WK.skip ?_
       | refine WK.condT rfl ?_
       | (refine Hid.h hQ _ _ ?_; clear hQ hA)
       | (refine WK.regH Tryz.ntmps237 (by kernel_rfl) ?_; intro A hA Q hQ; simp [*])
       | (refine RunQ.gd rfl (by rw [hA.h]; rfl) ?_; simp [*])
       | (refine RunQ.mapUpdate mpOkInt rfl rfl rfl rfl rfl rfl rfl ?_; refine RunQ.evalH ?_; simp [*])
       | (refine RunQ.lookup mpOkInt rfl rfl rfl rfl rfl rfl ?_; refine RunQ.evalH ?_; simp [*])
       | (refine RunQW.by (fun hw => ?_); refine RunQ.lookup mpOkInt rfl hw rfl rfl rfl rfl ?_; clear hw; refine RunQ.evalH ?_; simp [*])
       | (refine RunQ.call rfl rfl rfl rfl rfl ?_ (hrc) ?_ ?_; (focus (simp (maxDischargeDepth := 120) [*]; done)); (focus (simp [*]; done)); refine RunQ.evalH ?_; simp [*])
       | fail)
      refine WK.ghost (Ghost.own 2 905 1 rfl rfl) ?_
      refine WK.retT2 Tryz.func237 ?_ ?_ ?_ <;> simp (maxDischargeDepth := 120) [Tryz.results237, byL_nil]
    subst hc0
    have hK2 := hjn rfl
    have hput1 : mpVal (mpPut S x.kind 1) x.kind = 1 := by simpa using hput
    have hsn1 : mpSeen K = mpPut S x.kind 1 := by simpa using hsn
    have hvl1 : mpVal S x.kind = 0 := by simpa using hvl
    have wc1 : IntKind.i64.wrap 1 = 1 := rfl
    clear hput hsn hvl wc
    have hj2 := hjr rfl
    rw [← hK] at hK2
    have c1 := nput_c F x.kind 2 Sz2 (by omega)
    rw [putN_beN (hkd rfl)] at c1
    obtain ⟨F1, hF1⟩ : ∃ F1, F ++ beN x.kind 2 = F1 := ⟨_, rfl⟩
    rw [hF1] at c1
    have hF1l : F1.length = F.length + 2 := by rw [← hF1, List.length_append, beN_len]
    have c2 := nput_c F1 ((4 + E.length : Nat) : Int) 2 Sz2 (by omega)
    rw [putN_beN hn2] at c2
    obtain ⟨F2, hF2⟩ : ∃ F2, F1 ++ beN ((4 + E.length : Nat) : Int) 2 = F2 := ⟨_, rfl⟩
    rw [hF2] at c2
    have hF2l : F2.length = F.length + 4 := by rw [← hF2, List.length_append, beN_len]; omega
    have hs2 : rwFlat inOne (l.take (i + 1)) = F2 ++ E := by rw [hs, hone, ← hF2, ← hF1]; simp only [List.append_assoc]
    have hs3 : byL F2 ++ byL E = byL (rwFlat inOne (l.take (i + 1))) := by rw [hs2, byL_app]
    have hs4 : (rwFlat inOne (l.take (i + 1))).length = F2.length + E.length := by rw [hs2, List.length_append]
    have w4 : IntKind.i64.wrap (4 + (E.length : Int)) = 4 + (E.length : Int) := wrap_i64 (by omega) (by omega)
    have hbd : F2.length + E.length ≤ 140737488355328 := by omega
    have hfu1 := by_full F F.length rfl
    have hfu2 := by_full F1 F1.length rfl
    have hfu3 := by_full E E.length rfl
    unfold byS at c1 c2
    clear htwo hwr hjr hjn hone hkd hn2 hpos hs hF1 hF2 hF1l hF2l hs2
    repeat' (first
     | refine WK.seq ?_
     | refine WK.block ?_
     | refine WK.inBlock ?_
     | refine WK.skip ?_
     | refine WK.condT rfl ?_
     | refine WK.condF rfl ?_
     | (refine Hid.h hQ _ _ ?_; clear hQ hA)
     | (refine WK.regH Tryz.ntmps237 (by kernel_rfl) ?_; intro A hA Q hQ; simp [*])
     | (refine RunQ.gd rfl (by rw [hA.h]; rfl) ?_; simp [*])
     | (refine RunQ.mapUpdate mpOkInt rfl rfl rfl rfl rfl rfl rfl ?_; refine RunQ.evalH ?_; simp [*])
     | (refine RunQ.lookup mpOkInt rfl rfl rfl rfl rfl rfl ?_; refine RunQ.evalH ?_; simp [*])
     | (refine RunQW.by (fun hw => ?_); refine RunQ.lookup mpOkInt rfl hw rfl rfl rfl rfl ?_; clear hw; refine RunQ.evalH ?_; simp [*])
     | (refine RunQ.callO 901 rfl rfl rfl rfl rfl ?_ (hbody) ?_ ?_ ?_ ?_; (focus (simp (maxDischargeDepth := 120) [*]; done)); (focus (simp [*]; done)); (focus (simp [*]; done)); (focus (simp [*]; done)); refine RunQ.evalH ?_; simp [*])
     | (refine RunQ.callOz 902 33 1 rfl rfl rfl rfl rfl rfl rfl ?_ (c1) ?_ ?_ (by simp) (by decide) ?_; (focus (simp (maxDischargeDepth := 120) [*]; done)); (focus (simp [*]; done)); (focus (simp [*]; done)); refine RunQ.evalH ?_; simp [*])
     | (refine RunQ.callOz 903 36 1 rfl rfl rfl rfl rfl rfl rfl ?_ (c2) ?_ ?_ (by simp) (by decide) ?_; (focus (simp (maxDischargeDepth := 120) [*]; done)); (focus (simp [*]; done)); (focus (simp [*]; done)); refine RunQ.evalH ?_; simp [*])
     | (refine RunQ.appendFz 904 appByte rfl rfl rfl rfl rfl rfl rfl rfl rfl rfl ?_ ?_ ?_ ?_ ?_ ?_; (focus (first | omega | (simp [*]; done); done)); (focus (first | omega | (simp [*]; done); done)); (focus (first | omega | (simp [*]; done); done)); (focus (simp [*]; done)); (focus (simp [*]; done)); refine RunQ.evalH ?_; simp [*])
     | (refine RunQ.call rfl rfl rfl rfl rfl ?_ (hrc) ?_ ?_; (focus (simp (maxDischargeDepth := 120) [*]; done)); (focus (simp [*]; done)); refine RunQ.evalH ?_; simp [*])
     | fail)
    refine WK.next (fun n => if n = 1 then 904 else n) (IH (i + 1) (⟨by omega, hj2, hK2⟩) (by first | omega | (dsimp only; omega))) (by repeat (first | exact TmW.nil | refine TmW.upd ?_ (by simp (maxDischargeDepth := 120) [hs3, hs4, hK, hsn1]))) (by repeat (first | exact BxW.nil | refine BxW.upd ?_ (by simp (maxDischargeDepth := 120) [hs3, hs4, hK, hsn1]))) (by first | exact InjW.id | exact InjW.nil | exact InjW.one | exact InjW.two (by simp) | exact InjW.three (by simp) (by simp) (by simp))
  · have hT : l.take i = l := List.take_of_length_le (by omega)
    have hfit : inFit l = true := inFit_of (fun j hj => hi.2.1 j (by omega)) (by have := hi.2.2; rwa [hT] at this)
    have hdef : inEnc l = if (rwFlat inOne l).length ≤ 60000 then (rwFlat inOne l, 0) else ([], 1) := by
      unfold inEnc
      by_cases hh : (rwFlat inOne l).length ≤ 60000
      · rw [if_pos hh, if_pos ⟨hfit, hh⟩]
      · rw [if_neg hh, if_neg fun h => hh h.2]
    rw [hT] at hfl ⊢
    obtain ⟨F, hF⟩ : ∃ F, rwFlat inOne l = F := ⟨_, rfl⟩
    rw [hF] at hdef hfl ⊢
    by_cases h6 : F.length ≤ 60000
    · have j6 : ¬ (60000 : Int) < F.length := by omega
      rw [if_pos h6] at hdef
      rw [hdef]
      clear hF hdef hi hfit
      repeat' (first
       | refine WK.seq ?_
       | refine WK.skip ?_
       | refine WK.exit rfl ?_
       | refine WK.condF rfl ?_
       | (refine Hid.h hQ _ _ ?_; clear hQ hA)
       | (refine WK.regH Tryz.ntmps237 (by kernel_rfl) ?_; intro A hA Q hQ; simp [*])
       | (refine WK.retT2 Tryz.func237 ?_ ?_ ?_ <;> simp (maxDischargeDepth := 120) [Tryz.results237, *])
       | fail)
    · have j6 : (60000 : Int) < F.length := by omega
      rw [if_neg h6] at hdef
      rw [hdef]
      clear hF hdef hi hfit
      repeat' (first
       | refine WK.seq ?_
       | refine WK.exit rfl ?_
       | refine WK.condT rfl ?_
       | refine WK.condF rfl ?_
       | (refine Hid.h hQ _ _ ?_; clear hQ hA)
       | (refine WK.regH Tryz.ntmps237 (by kernel_rfl) ?_; intro A hA Q hQ; simp [*])
       | fail)
      refine WK.ghost (Ghost.own 2 907 1 rfl rfl) ?_
      refine WK.retT2 Tryz.func237 ?_ ?_ ?_ <;> simp (maxDischargeDepth := 120) [Tryz.results237, byL_nil]
end Go.Proofs.YtcccfbjkcahgfaaGreat
end

section
set_option linter.unusedVariables false
set_option linter.unusedSimpArgs false
namespace Go.Proofs.YtcccfbjkcahgfaaGreat
open Go Go.AI Go.Proofs
attribute [local irreducible] FnP FnO FnB FnT FnSeq WK RunQ RunQW RunX RunXW

theorem instL_snoc (l : List Inst) (x : Inst) : instL l ++ x.enc = instL (l ++ [x]) := by rw [instL_app]; simp [instL]
theorem inOf_kind (k : Int) (b : List (BitVec 8)) : (inOf k b).1.kind = k := by
  unfold inOf
  split
  · rename_i h; exact h.symm
  split
  · rename_i h; exact h.symm
  split
  · rfl
  · rfl
theorem inStep_cut {ks : List Int} {b : List (BitVec 8)} {k : Int} {n : Nat} {c : Int × Int} (h : inCut b = (k, n, some c)) : inStep ks b = (inst0, 0, some c) := by unfold inStep; rw [h]
theorem inStep_two {ks : List Int} {b : List (BitVec 8)} {k : Int} {n : Nat} (h : inCut b = (k, n, none)) (hk : k ∈ ks) : inStep ks b = (inst0, 0, some (3, 9)) := by
  unfold inStep; rw [h]; simp only; rw [if_pos hk]
theorem inStep_none {ks : List Int} {b : List (BitVec 8)} {k : Int} {n : Nat} {y : Inst} (h : inCut b = (k, n, none)) (hk : k ∉ ks) (ho : inOf k (b.take n) = (y, none)) : inStep ks b = (y, n, none) := by
  unfold inStep; rw [h]; simp only; rw [if_neg hk, ho]
theorem inStep_some {ks : List Int} {b : List (BitVec 8)} {k : Int} {n : Nat} {y : Inst} {c : Int × Int} (h : inCut b = (k, n, none)) (hk : k ∉ ks) (ho : inOf k (b.take n) = (y, some c)) : inStep ks b = (inst0, 0, some c) := by
  unfold inStep; rw [h]; simp only; rw [if_neg hk, ho]
set_option maxHeartbeats 4000000 in
theorem idec_c (b : List (BitVec 8)) (hb : b.length ≤ 100000) : FnT Tryz.prog 106 [byS b] (inDec b).1.length 7 (instL (inDec b).1) [.agg (gFault (inDec b).2)] := by
  have b9 := ibad_c 9
  unfold byS
  refine FnT.intro Tryz.func106 rfl rfl fun G w => ?_
  repeat' (first
   | refine WK.seq ?_
   | refine WK.block ?_
   | (refine Hid.h hQ _ _ ?_; clear hQ hA)
   | (refine WK.regH Tryz.ntmps106 (by kernel_rfl) ?_; intro A hA Q hQ; simp [*])
   | (refine RunQ.makeMap 910 rfl rfl rfl ?_ ?_; (focus (simp [*]; done)); refine RunQ.evalH ?_; simp [*])
   | fail)
  refine WK.ghost (Ghost.own 4 900 7 rfl rfl) ?_
  refine WK.loopI (fun n => if n = 60 then 900 else if n = 61 then 910 else n) (fun x : Nat × Nat × List Inst => (⟨(upd (upd (upd (upd (upd J 0 (.sl false (b.length - x.2.1) (byL (b.drop x.2.1)))) 2 (.sl true 0 [])) 3 (.ptr 1 0)) 4 (.msl 60 0 x.2.2.length)) 5 (.mv 61)), (upd (upd (upd B0 1 (.var (gFault none))) 60 (.buf 7 (instL x.2.2))) 61 (.obj (mpObj (mpSeen (inKinds x.2.2))))), 0⟩ : St)) (fun x => InAt b x) (fun x => b.length - x.2.1) ((b.length, 0, [])) (by repeat (first | exact TmW.nil | refine TmW.upd ?_ (by simp (maxDischargeDepth := 120) [gFault, inKinds, mpSeen]))) (by repeat (first | exact BxW.nil | refine BxW.upd ?_ (by simp (maxDischargeDepth := 120) [gFault, inKinds, mpSeen]))) (by first | exact InjW.id | exact InjW.nil | exact InjW.one | exact InjW.two (by simp) | exact InjW.three (by simp) (by simp) (by simp)) (InAt.start b) (fun i hi IH => ?_)
  obtain ⟨f, p, acc⟩ := i
  have hsm := hi.small
  have hle := hi.le
  have hnd := hi.once
  simp only at hsm hle hi hnd ⊢
  by_cases h1 : p < b.length
  · have hc := icut_c (b.drop p) (by rw [List.length_drop]; omega)
    obtain ⟨k, n, c, hd⟩ : ∃ k n c, inCut (b.drop p) = (k, n, c) := ⟨_, _, _, rfl⟩
    rw [hd] at hc
    unfold byS at hc
    rw [List.length_drop] at hc
    have hpos : 0 < b.length - p := by omega
    have hpos' : (0 : Int) < ((b.length - p : Nat) : Int) := by omega
    cases c with
    | some c =>
      have e := InAt.bad hi h1 (inStep_cut hd)
      obtain ⟨L, hL⟩ : ∃ L, b.length - p = L := ⟨_, rfl⟩
      obtain ⟨B, hB⟩ : ∃ B, (b.drop p).take n = B := ⟨_, rfl⟩
      rw [hL] at hc hpos hpos' ⊢
      simp only [hB] at hc
      rw [e]
      clear hL hB b9
      repeat' (first
       | refine WK.seq ?_
       | refine WK.block ?_
       | refine WK.skip ?_
       | refine WK.condT rfl ?_
       | (refine Hid.h hQ _ _ ?_; clear hQ hA)
       | (refine WK.regH Tryz.ntmps106 (by kernel_rfl) ?_; intro A hA Q hQ; simp [gFault, *])
       | (refine WK.regX (by kernel_rfl) Tryz.ntmps106 (by kernel_rfl) ?_; intro A hA Q hQ; simp [gFault, *])
       | (refine Hid.h hQ _ _ _ (by decide +kernel) ?_; clear hQ hA)
       | (refine RunQ.call rfl rfl rfl rfl rfl ?_ (hc) ?_ ?_; (focus (simp (maxDischargeDepth := 120) [gFault, *]; done)); (focus (simp [gFault, *]; done)); refine RunQ.evalH ?_; simp [gFault, *])
       | fail)
      refine WK.ghost (Ghost.own 2 901 7 rfl rfl) ?_
      refine WK.retT2 Tryz.func106 ?_ ?_ ?_ <;> simp (maxDischargeDepth := 120) [Tryz.results106, instL_nil, gFault]
    | none =>
    obtain ⟨f1, f2, f3, f4, ⟨kn, hkn, f5, f6, f7⟩, f8, f9⟩ := inCut_facts hd
    rw [List.length_drop] at f2
    have hvl := mpSeen_val (inKinds acc) k
    have hsn := mpSeen_snoc (inKinds acc) k
    have hcl := List.count_le_length (l := inKinds acc) (a := k)
    have hkl : (inKinds acc).length ≤ 100000 := by unfold inKinds; rw [List.length_map]; omega
    have hcp : 0 < (inKinds acc).count k ↔ k ∈ inKinds acc := List.count_pos_iff
    obtain ⟨c, hcc⟩ : ∃ c, (inKinds acc).count k = c := ⟨_, rfl⟩
    rw [hcc] at hvl hcl hcp
    obtain ⟨S, hS⟩ : ∃ S, mpSeen (inKinds acc) = S := ⟨_, rfl⟩
    rw [hS] at hsn hvl ⊢
    rw [hvl] at hsn
    have hput := mpVal_put S k ((c : Int) + 1) k
    rw [if_pos rfl] at hput
    have wc : IntKind.i64.wrap ((c : Int) + 1) = c + 1 := wrap_i64 (by omega) (by omega)
    have hBl : ((b.drop p).take n).length = n := by rw [List.length_take, List.length_drop]; omega
    have ho := ione_c k ((b.drop p).take n) (by omega) (by omega) (fun h => by
      unfold inLaid at f9; rw [h, if_neg (by decide), if_pos rfl] at f9
      simp only [Bool.and_eq_true, beq_iff_eq] at f9; omega)
    clear hkn f5 f6 f7 f8
    by_cases hc0 : c = 0
    case neg =>
      have e := InAt.bad hi h1 (inStep_two hd (hcp.1 (by omega)))
      have hgt : (1 : Int) < (c : Int) + 1 := by omega
      have hgt2 : 0 < c := by omega
      obtain ⟨L, hL⟩ : ∃ L, b.length - p = L := ⟨_, rfl⟩
      obtain ⟨B, hB⟩ : ∃ B, (b.drop p).take n = B := ⟨_, rfl⟩
      rw [hL] at hc hpos hpos' ⊢
      simp only [hB] at hc
      rw [e]
      clear hL hB ho hsn hcp hcl hS hcc hBl f9
      repeat' (first
       | refine WK.seq ?_
       | refine WK.block ?_
       | refine WK.skip ?_
       | refine WK.condT rfl ?_
       | refine WK.condF rfl ?_
       | (refine Hid.h hQ _ _ ?_; clear hQ hA)
       | (refine WK.regH Tryz.ntmps106 (by kernel_rfl) ?_; intro A hA Q hQ; simp [gFault, *])
       | (refine RunQ.mapUpdate mpOkInt rfl rfl rfl rfl rfl rfl rfl ?_; refine RunQ.evalH ?_; simp [gFault, *])
       | (refine RunQ.lookup mpOkInt rfl rfl rfl rfl rfl rfl ?_; refine RunQ.evalH ?_; simp [gFault, *])
       | (refine RunQ.call rfl rfl rfl rfl rfl ?_ (hc) ?_ ?_; (focus (simp (maxDischargeDepth := 120) [gFault, *]; done)); (focus (simp [gFault, *]; done)); refine RunQ.evalH ?_; simp [gFault, *])
       | (refine RunQ.call rfl rfl rfl rfl rfl ?_ (b9) ?_ ?_; (focus (simp (maxDischargeDepth := 120) [gFault, *]; done)); (focus (simp [gFault, *]; done)); refine RunQ.evalH ?_; simp [gFault, *])
       | fail)
      refine WK.ghost (Ghost.own 2 901 7 rfl rfl) ?_
      refine WK.retT2 Tryz.func106 ?_ ?_ ?_ <;> simp (maxDischargeDepth := 120) [Tryz.results106, instL_nil, gFault]
    subst hc0
    have hput1 : mpVal (mpPut S k 1) k = 1 := by simpa using hput
    have hsn1 : mpSeen (inKinds acc ++ [k]) = mpPut S k 1 := by simpa using hsn
    have hvl1 : mpVal S k = 0 := by simpa using hvl
    have wc1 : IntKind.i64.wrap 1 = 1 := rfl
    have hnk : k ∉ inKinds acc := fun h => by have := hcp.2 h; omega
    obtain ⟨y, c, hy⟩ : ∃ y c, inOf k ((b.drop p).take n) = (y, c) := ⟨_, _, rfl⟩
    rw [hy] at ho
    unfold byS at ho
    rw [hBl] at ho hc
    clear hput hsn hvl wc hcp hcl hS hcc
    cases c with
    | some c =>
      have hst := inStep_some hd hnk hy
      have e := InAt.bad hi h1 hst
      obtain ⟨L, hL⟩ : ∃ L, b.length - p = L := ⟨_, rfl⟩
      obtain ⟨B, hB⟩ : ∃ B, (b.drop p).take n = B := ⟨_, rfl⟩
      rw [hL] at hc hpos hpos' ⊢
      rw [hB] at hc ho
      rw [e]
      clear hL hB hst hBl f9 b9 hsn1
      repeat' (first
       | refine WK.seq ?_
       | refine WK.block ?_
       | refine WK.skip ?_
       | refine WK.condT rfl ?_
       | refine WK.condF rfl ?_
       | (refine Hid.h hQ _ _ ?_; clear hQ hA)
       | (refine WK.regH Tryz.ntmps106 (by kernel_rfl) ?_; intro A hA Q hQ; simp [gFault, Inst.enc, *])
       | (refine WK.regX (by kernel_rfl) Tryz.ntmps106 (by kernel_rfl) ?_; intro A hA Q hQ; simp [gFault, Inst.enc, *])
       | (refine Hid.h hQ _ _ _ (by decide +kernel) ?_; clear hQ hA)
       | (refine RunQ.mapUpdate mpOkInt rfl rfl rfl rfl rfl rfl rfl ?_; refine RunQ.evalH ?_; simp [gFault, Inst.enc, *])
       | (refine RunQ.lookup mpOkInt rfl rfl rfl rfl rfl rfl ?_; refine RunQ.evalH ?_; simp [gFault, Inst.enc, *])
       | (refine RunQ.call rfl rfl rfl rfl rfl ?_ (hc) ?_ ?_; (focus (simp (maxDischargeDepth := 120) [gFault, Inst.enc, *]; done)); (focus (simp [gFault, Inst.enc, *]; done)); refine RunQ.evalH ?_; simp [gFault, Inst.enc, *])
       | (refine RunQ.call rfl rfl rfl rfl rfl ?_ (ho) ?_ ?_; (focus (simp (maxDischargeDepth := 120) [gFault, Inst.enc, *]; done)); (focus (simp [gFault, Inst.enc, *]; done)); refine RunQ.evalH ?_; simp [gFault, Inst.enc, *])
       | fail)
      refine WK.ghost (Ghost.own 2 901 7 rfl rfl) ?_
      refine WK.retT2 Tryz.func106 ?_ ?_ ?_ <;> simp (maxDischargeDepth := 120) [Tryz.results106, instL_nil, gFault]
    | none =>
      have hst := inStep_none hd hnk hy
      obtain ⟨hk1, hk2, hn⟩ := InAt.next hi h1 hst
      simp only at hk1 hn
      have hyk : y.kind = k := by have := inOf_kind k ((b.drop p).take n); rw [hy] at this; exact this
      have hkk : inKinds (acc ++ [y]) = inKinds acc ++ [k] := by unfold inKinds; rw [List.map_append, List.map_cons, List.map_nil, hyk]
      have hnL : (n : Int) ≤ ((b.length - p : Nat) : Int) := by omega
      have hdd : ((byL (b.drop p)).drop n).take (b.length - p - n) = byL (b.drop (p + n)) := by
        rw [byL_drop, List.drop_drop]; exact by_full _ _ (by rw [List.length_drop]; omega)
      have hll : b.length - (p + n) = b.length - p - n := by omega
      have hbd : (acc.length + 1) * 72 ≤ 140737488355328 := by omega
      have hsq := instL_snoc acc y
      obtain ⟨L, hL⟩ : ∃ L, b.length - p = L := ⟨_, rfl⟩
      obtain ⟨B, hB⟩ : ∃ B, (b.drop p).take n = B := ⟨_, rfl⟩
      rw [hL] at hc hpos hpos' hnL hdd hll ⊢
      rw [hB] at hc ho
      rw [← hkk] at hsn1
      simp only [Inst.enc] at hsq ho
      clear hL hB hst hBl f9 b9 hkk hyk hy hd
      repeat' (first
       | refine WK.seq ?_
       | refine WK.block ?_
       | refine WK.inBlock ?_
       | refine WK.skip ?_
       | refine WK.condT rfl ?_
       | refine WK.condF rfl ?_
       | (refine Hid.h hQ _ _ ?_; clear hQ hA)
       | (refine WK.regH Tryz.ntmps106 (by kernel_rfl) ?_; intro A hA Q hQ; simp [gFault, *])
       | (refine WK.regX (by kernel_rfl) Tryz.ntmps106 (by kernel_rfl) ?_; intro A hA Q hQ; simp [gFault, *])
       | (refine Hid.h hQ _ _ _ (by decide +kernel) ?_; clear hQ hA)
       | (refine RunQ.mapUpdate mpOkInt rfl rfl rfl rfl rfl rfl rfl ?_; refine RunQ.evalH ?_; simp [gFault, *])
       | (refine RunQ.lookup mpOkInt rfl rfl rfl rfl rfl rfl ?_; refine RunQ.evalH ?_; simp [gFault, *])
       | (refine RunX.append 902 appInst rfl rfl rfl rfl rfl rfl rfl rfl ?_ ?_ ?_ ?_ ?_; (focus (first | omega | (simp [gFault, *]; done); done)); (focus (first | omega | (simp [gFault, *]; done); done)); (focus (first | omega | (simp [gFault, *]; done); done)); (focus (first | omega | (simp [gFault, *]; done); done)); refine RunX.evalY ?_; simp [gFault, *])
       | (refine RunQ.call rfl rfl rfl rfl rfl ?_ (hc) ?_ ?_; (focus (simp (maxDischargeDepth := 120) [gFault, *]; done)); (focus (simp [gFault, *]; done)); refine RunQ.evalH ?_; simp [gFault, *])
       | (refine RunQ.call rfl rfl rfl rfl rfl ?_ (ho) ?_ ?_; (focus (simp (maxDischargeDepth := 120) [gFault, *]; done)); (focus (simp [gFault, *]; done)); refine RunQ.evalH ?_; simp [gFault, *])
       | fail)
      refine WK.next (fun n => if n = 60 then 902 else n) (IH ((f - 1, p + n, acc ++ [y])) (hn) (by first | omega | (dsimp only; omega))) (by repeat (first | exact TmW.nil | refine TmW.upd ?_ (by simp (maxDischargeDepth := 120) [hsq, hll, gFault, hsn1]))) (by repeat (first | exact BxW.nil | refine BxW.upd ?_ (by simp (maxDischargeDepth := 120) [hsq, hll, gFault, hsn1]))) (by first | exact InjW.id | exact InjW.nil | exact InjW.one | exact InjW.two (by simp) | exact InjW.three (by simp) (by simp) (by simp))
  · have hstop := InAt.stop hi h1
    simp only at hstop
    have hpos : ¬ 0 < b.length - p := by omega
    have hpos' : ¬ (0 : Int) < ((b.length - p : Nat) : Int) := by omega
    obtain ⟨L, hL⟩ : ∃ L, b.length - p = L := ⟨_, rfl⟩
    rw [hL] at hpos hpos' ⊢
    rw [hstop]
    clear hL
    repeat' (first
     | refine WK.seq ?_
     | refine WK.exit rfl ?_
     | refine WK.condF rfl ?_
     | (refine Hid.h hQ _ _ ?_; clear hQ hA)
     | (refine WK.regH Tryz.ntmps106 (by kernel_rfl) ?_; intro A hA Q hQ; simp [gFault, *])
     | (refine WK.retT2 Tryz.func106 ?_ ?_ ?_ <;> simp (maxDischargeDepth := 120) [Tryz.results106, gFault, *])
     | fail)
end Go.Proofs.YtcccfbjkcahgfaaGreat
end

section
set_option linter.unusedVariables false
set_option linter.unusedSimpArgs false
namespace Go.Proofs.YtcccfbjkcahgfaaGreat
open Go Go.AI Go.Proofs
attribute [local irreducible] FnP FnO FnB FnT FnSeq WK RunQ RunQW RunX RunXW

theorem nodup_len : ∀ (ks s : List Int), ks.Nodup → (∀ x, x ∈ ks → x ∈ s) → ks.length ≤ s.length
  | [], s, _, _ => Nat.zero_le _
  | k :: ks, s, hn, hs => by
    rw [List.nodup_cons] at hn
    have hm := hs k (by simp)
    have h1 := nodup_len ks (s.erase k) hn.2 fun x hx => by
      have hne : x ≠ k := fun e => hn.1 (by rw [← e]; exact hx)
      exact (List.mem_erase_of_ne hne).2 (hs x (List.mem_cons_of_mem _ hx))
    have h2 := List.length_erase_of_mem hm
    have h3 := List.length_pos_of_mem hm
    rw [List.length_cons]; omega
theorem iencP_c (l : List Inst) (hl : l.length ≤ 100) (ha : ∀ x, x ∈ l → x.acts.length ≤ 1000000) : FnP Tryz.prog 237 [instS l] (.tup [byS (inEnc l).1, .int .i64 (inEnc l).2]) := by
  have h := (ienc_c l hl ha).toP (by simp [byL_take]) (by rfl)
  rwa [Nat.mul_one, by_full _ _ rfl] at h
theorem idecP_c (b : List (BitVec 8)) (hb : b.length ≤ 100000) : FnP Tryz.prog 106 [byS b] (.tup [instS (inDec b).1, .agg (gFault (inDec b).2)]) := by
  have h := (idec_c b hb).toP (by simp) (by simp [ClL, Cl])
  rwa [instL_take] at h
end Go.Proofs.YtcccfbjkcahgfaaGreat
end

section
set_option linter.unusedVariables false
set_option linter.unusedSimpArgs false
namespace Go.Proofs.YtcccfbjkcahgfaaGreat
open Go Go.AI Go.Proofs
attribute [local irreducible] FnP FnO FnB FnT FnSeq WK RunQ RunQW RunX RunXW

@[simp] theorem GroupMod.len (x : GroupMod) : x.enc.length = 4 := rfl
@[simp] theorem GroupMod.cl (x : GroupMod) : ClL x.enc = true := by simp [GroupMod.enc, ClL, Cl]
@[simp] theorem GroupMod.take (x : GroupMod) : x.enc.take 4 = x.enc := rfl
def prE (x : Int × Nat) : List AV := [.int .i64 x.1, .int .i64 x.2]
def prL (l : List (Int × Nat)) : List AV := l.flatMap prE
theorem prE_len (x : Int × Nat) : (prE x).length = 2 := rfl
@[simp] theorem prL_len (l : List (Int × Nat)) : (prL l).length = l.length * 2 := fm_length prE_len l
@[simp] theorem prL_cl (l : List (Int × Nat)) : ClL (prL l) = true := ClL_flatMap _ (fun x => by simp [prE, ClL, Cl]) l
theorem pr_load (l : List (Int × Nat)) (i : Nat) (h : i < l.length) : ((prL l).drop (i * 2)).take 2 = prE (nth l i) ∧ 2 ≤ l.length * 2 - i * 2 := ⟨fm_nth prE_len l i h, by omega⟩
def fldF (l : List (Int × Nat)) : List (BitVec 8) := l.foldl (fun b x => putN b x.1 x.2) []
theorem fldF_succ {l : List (Int × Nat)} {i : Nat} (h : i < l.length) : fldF (l.take (i + 1)) = putN (fldF (l.take i)) (nth l i).1 (nth l i).2 := by
  unfold fldF; rw [take_nth h, List.foldl_append]; rfl
theorem fldF_len {l : List (Int × Nat)} (hs : ∀ x, x ∈ l → Sz x.2) : ∀ i, (fldF (l.take i)).length ≤ i * 4
  | 0 => by simp [fldF]
  | i + 1 => by
    by_cases h : i < l.length
    · have h1 := fldF_len hs i
      have h2 := putN_len (fldF (l.take i)) (nth l i).1 (nth l i).2
      have h3 := hs _ (nth_mem h)
      unfold Sz at h3
      rw [fldF_succ h]; omega
    · have h1 := fldF_len hs i
      rw [List.take_of_length_le (by omega)] at h1 ⊢
      omega
theorem gfields_c (l : List (Int × Nat)) (hs : ∀ x, x ∈ l → Sz x.2) (hl : l.length ≤ 1000) : FnO Tryz.prog 250 [.sl true l.length (prL l)] (fldF l).length 1 (byL (fldF l)) := by
  refine FnO.intro Tryz.func250 rfl rfl fun G w => ?_
  repeat' (first
   | refine WK.seq ?_
   | refine WK.block ?_
   | (refine Hid.h hQ _ _ ?_; clear hQ hA)
   | (refine WK.regH Tryz.ntmps250 (by kernel_rfl) ?_; intro A hA Q hQ; simp [*])
   | fail)
  refine WK.ghost (Ghost.own 3 900 1 rfl rfl) ?_
  refine WK.loopI (fun n => if n = 1 then 900 else n) (fun i : Nat => (⟨(upd (upd (upd (upd J 3 (.msl 1 0 (fldF (l.take i)).length)) 6 (.sl true l.length (prL l))) 7 (.int .i64 l.length)) 8 (.int .i64 i)), (upd B0 1 (.buf 1 (byL (fldF (l.take i))))), 0⟩ : St)) (fun i => i ≤ l.length) (fun i => l.length - i) (0) (by repeat (first | exact TmW.nil | refine TmW.upd ?_ (by simp (maxDischargeDepth := 120) [fldF, byL_nil]))) (by repeat (first | exact BxW.nil | refine BxW.upd ?_ (by simp (maxDischargeDepth := 120) [fldF, byL_nil]))) (by first | exact InjW.id | exact InjW.nil | exact InjW.one | exact InjW.two (by simp) | exact InjW.three (by simp) (by simp) (by simp)) (Nat.zero_le _) (fun i hi IH => ?_)
  by_cases h1 : i < l.length
  · obtain ⟨h4, h3⟩ := pr_load l i h1
    have h6 : IntKind.i64.wrap ((i : Int) + 1) = i + 1 := wrap_i64 (by omega) (by omega)
    have hnx := fldF_succ h1
    have hln := fldF_len hs i
    have c := nput_c (fldF (l.take i)) (nth l i).1 (nth l i).2 (hs _ (nth_mem h1)) (by omega)
    obtain ⟨F, hF⟩ : ∃ F, fldF (l.take i) = F := ⟨_, rfl⟩
    rw [hF] at hnx c ⊢
    have hfu := by_full F F.length rfl
    unfold byS at c
    unfold prE at h4
    clear hF hln
    repeat' (first
     | refine WK.seq ?_
     | refine WK.block ?_
     | refine WK.inBlock ?_
     | refine WK.skip ?_
     | refine WK.condT rfl ?_
     | (refine Hid.h hQ _ _ ?_; clear hQ hA)
     | (refine WK.regH Tryz.ntmps250 (by kernel_rfl) ?_; intro A hA Q hQ; simp [*])
     | (refine RunQ.callOz 901 12 1 rfl rfl rfl rfl rfl rfl rfl ?_ (c) ?_ ?_ (by simp) (by decide) ?_; (focus (simp (maxDischargeDepth := 120) [*]; done)); (focus (simp [*]; done)); (focus (simp [*]; done)); refine RunQ.evalH ?_; simp [*])
     | fail)
    refine WK.next (fun n => if n = 1 then 901 else n) (IH (i + 1) (by omega) (by first | omega | (dsimp only; omega))) (by repeat (first | exact TmW.nil | refine TmW.upd ?_ (by simp (maxDischargeDepth := 120) [hnx]))) (by repeat (first | exact BxW.nil | refine BxW.upd ?_ (by simp (maxDischargeDepth := 120) [hnx]))) (by first | exact InjW.id | exact InjW.nil | exact InjW.one | exact InjW.two (by simp) | exact InjW.three (by simp) (by simp) (by simp))
  · have hT : l.take i = l := List.take_of_length_le (by omega)
    rw [hT]
    repeat' (first
     | refine WK.seq ?_
     | refine WK.exit rfl ?_
     | refine WK.condF rfl ?_
     | (refine Hid.h hQ _ _ ?_; clear hQ hA)
     | (refine WK.regH Tryz.ntmps250 (by kernel_rfl) ?_; intro A hA Q hQ; simp [*])
     | (refine WK.retO Tryz.func250 rfl rfl ?_ ?_ <;> simp (maxDischargeDepth := 120) [*])
     | fail)
theorem gbad_c (k c : Int) : FnP Tryz.prog 108 [.int .i64 k, .int .i64 c] (.tup [.agg gm0.enc, .agg (gFault (some (k, c)))]) := by
  refine FnP.intro Tryz.func108 rfl rfl fun G w => ?_
  repeat' (first
   | refine WK.seq ?_
   | (refine Hid.h hQ _ _ ?_; clear hQ hA)
   | (refine WK.regH Tryz.ntmps108 (by kernel_rfl) ?_; intro A hA Q hQ; simp [*])
   | (refine WK.ret Tryz.func108 ?_ ?_ <;> simp (maxDischargeDepth := 120) [Tryz.results108, gFault, gm0, GroupMod.enc, *])
   | fail)
theorem gwithin_c (n t : Int) : FnP Tryz.prog 109 [.int .i64 n, .int .i64 t] (.bool (gmIn n t)) := by
  have e : gmIn n t = (decide (0 ≤ n) && decide (n ≤ t)) := rfl
  refine FnP.intro Tryz.func109 rfl rfl fun G w => ?_
  repeat' (first
   | refine WK.seq ?_
   | (refine Hid.h hQ _ _ ?_; clear hQ hA)
   | (refine Fork.mk (fun h => ?_) (fun h => ?_) <;> (first | (simp [*] at h; done) | (have h2 := h; simp at h2; exfalso; omega) | (have h2 := h; simp at h2; try simp only [Bool.not_eq_true', Bool.not_eq_false'] at h) | skip))
   | (refine WK.regH Tryz.ntmps109 (by kernel_rfl) ?_; intro A hA Q hQ; simp [*])
   | (refine RunQ.gd rfl (by rw [hA.h]; rfl) ?_; simp [*])
   | (refine WK.ret Tryz.func109 ?_ ?_ <;> simp (maxDischargeDepth := 120) [Tryz.results109, *])
   | fail)
structure GmFit (g : GroupMod) : Prop where
  len : g.buckets.length ≤ 1000000
  acts : ∀ x, x ∈ g.buckets → x.acts.length ≤ 1000000
theorem gright_c (g : GroupMod) (hg : GmFit g) : FnP Tryz.prog 248 [.agg g.enc] (.bool (gmRight g)) := by
  have p := bkencP_c g.buckets hg.len hg.acts
  have n1 := gwithin_c g.command 2
  have n2 := gwithin_c g.kind 3
  have n3 := nright_c g.id 4 Sz4
  have e : gmRight g = ((bkEnc g.buckets).2 == 0 && (gmIn g.command 2 && (gmIn g.kind 3 && numOk g.id 4))) := rfl
  obtain ⟨R, hR⟩ : ∃ R, bkEnc g.buckets = R := ⟨_, rfl⟩
  rw [hR] at p e
  simp only [byS, bukS] at p
  refine FnP.intro Tryz.func248 rfl rfl fun G w => ?_
  repeat' (first
   | refine WK.seq ?_
   | (refine Hid.h hQ _ _ ?_; clear hQ hA)
   | (refine Fork.mk (fun h => ?_) (fun h => ?_) <;> (first | (simp [*] at h; done) | (have h2 := h; simp at h2; exfalso; omega) | (have h2 := h; simp at h2; try simp only [Bool.not_eq_true', Bool.not_eq_false'] at h) | skip))
   | (refine WK.regH Tryz.ntmps248 (by kernel_rfl) ?_; intro A hA Q hQ; simp [GroupMod.enc, *])
   | (refine RunQ.gd rfl (by rw [hA.h]; rfl) ?_; simp [GroupMod.enc, *])
   | (refine RunQ.call rfl rfl rfl rfl rfl ?_ (p) ?_ ?_; (focus (simp (maxDischargeDepth := 120) [GroupMod.enc, *]; done)); (focus (simp [GroupMod.enc, *]; done)); refine RunQ.evalH ?_; simp [GroupMod.enc, *])
   | (refine RunQW.call rfl rfl rfl rfl ?_ (n1) ?_ ?_; (focus (simp (maxDischargeDepth := 120) [GroupMod.enc, *]; done)); (focus (simp [GroupMod.enc, *]; done)); refine RunQ.evalH ?_; simp [GroupMod.enc, *])
   | (refine RunQW.call rfl rfl rfl rfl ?_ (n2) ?_ ?_; (focus (simp (maxDischargeDepth := 120) [GroupMod.enc, *]; done)); (focus (simp [GroupMod.enc, *]; done)); refine RunQ.evalH ?_; simp [GroupMod.enc, *])
   | (refine RunQW.call rfl rfl rfl rfl ?_ (n3) ?_ ?_; (focus (simp (maxDischargeDepth := 120) [GroupMod.enc, *]; done)); (focus (simp [GroupMod.enc, *]; done)); refine RunQ.evalH ?_; simp [GroupMod.enc, *])
   | (refine WK.ret Tryz.func248 ?_ ?_ <;> simp (maxDischargeDepth := 120) [Tryz.results248, GroupMod.enc, *])
   | fail)
theorem gmFld {g : GroupMod} (h : gmRight g = true) : fldF [(g.command, 2), (g.kind, 1), (0, 1), (g.id, 4)] = gmHead g ∧ (bkEnc g.buckets).2 = 0 := by
  unfold gmRight at h
  rw [Bool.and_eq_true, Bool.and_eq_true, Bool.and_eq_true, beq_iff_eq] at h
  obtain ⟨h0, h1, h2, h3⟩ := h
  refine ⟨?_, h0⟩
  show putN (putN (putN (putN [] g.command 2) g.kind 1) 0 1) g.id 4 = _
  rw [putN_beN (gmIn_ok h1 (by decide)), putN_beN (gmIn_ok h2 (by decide)), putN_beN h3, putN_beN (n := 0) (s := 1) (by decide)]
  unfold gmHead
  simp only [List.nil_append, List.append_assoc]
theorem gmHead_len (g : GroupMod) : (gmHead g).length = 8 := by unfold gmHead; simp [beN_len]
theorem genc_c (g : GroupMod) (hg : GmFit g) : FnT Tryz.prog 247 [.agg g.enc] (gmEnc g).1.length 1 (byL (gmEnc g).1) [.int .i64 (gmEnc g).2] := by
  have r := gright_c g hg
  cases hr : gmRight g
  · have e : gmEnc g = ([], 1) := by unfold gmEnc; rw [if_neg (by rw [hr]; exact Bool.false_ne_true)]
    rw [hr] at r
    rw [e]
    unfold GroupMod.enc at *
    refine FnT.intro Tryz.func247 rfl rfl fun G w => ?_
    repeat' (first
     | refine WK.seq ?_
     | refine WK.condT rfl ?_
     | (refine Hid.h hQ _ _ ?_; clear hQ hA)
     | (refine WK.regH Tryz.ntmps247 (by kernel_rfl) ?_; intro A hA Q hQ; simp [*])
     | (refine RunQ.call rfl rfl rfl rfl rfl ?_ (r) ?_ ?_; (focus (simp (maxDischargeDepth := 120) [*]; done)); (focus (simp [*]; done)); refine RunQ.evalH ?_; simp [*])
     | fail)
    refine WK.ghost (Ghost.own 2 900 1 rfl rfl) ?_
    refine WK.retT2 Tryz.func247 ?_ ?_ ?_ <;> simp (maxDischargeDepth := 120) [Tryz.results247, byL_nil]
  obtain ⟨hf, h0⟩ := gmFld hr
  have e : gmEnc g = (gmHead g ++ (bkEnc g.buckets).1, 0) := by unfold gmEnc; rw [if_pos hr]
  have p := bkencP_c g.buckets hg.len hg.acts
  have hEl := bkEnc_len g.buckets
  have hHl := gmHead_len g
  have c := gfields_c [(g.command, 2), (g.kind, 1), (0, 1), (g.id, 4)] (by simp [Sz]) (by simp)
  rw [hf] at c
  rw [h0] at p
  rw [hr] at r
  obtain ⟨E, hE⟩ : ∃ E, (bkEnc g.buckets).1 = E := ⟨_, rfl⟩
  obtain ⟨F, hF⟩ : ∃ F, gmHead g = F := ⟨_, rfl⟩
  rw [hE] at p e hEl
  rw [hF] at c e hHl
  rw [e]
  have hbd : F.length + E.length ≤ 140737488355328 := by omega
  have hfu := by_full E E.length rfl
  simp only [byS, bukS, prL, prE, List.flatMap_cons, List.flatMap_nil, List.append_nil, List.cons_append, List.nil_append, List.length_cons, List.length_nil, Nat.zero_add, Nat.reduceAdd] at p c
  unfold GroupMod.enc at *
  clear hE hF hf hEl hHl hg e hr h0
  refine FnT.intro Tryz.func247 rfl rfl fun G w => ?_
  repeat' (first
   | refine WK.seq ?_
   | refine WK.skip ?_
   | refine WK.condF rfl ?_
   | (refine Hid.h hQ _ _ ?_; clear hQ hA)
   | (refine WK.regH Tryz.ntmps247 (by kernel_rfl) ?_; intro A hA Q hQ; simp [*])
   | (refine RunQ.callO 900 rfl rfl rfl rfl rfl ?_ (c) ?_ ?_ ?_ ?_; (focus (simp (maxDischargeDepth := 120) [*]; done)); (focus (simp [*]; done)); (focus (simp [*]; done)); (focus (simp [*]; done)); refine RunQ.evalH ?_; simp [*])
   | (refine RunQ.append 901 appByte rfl rfl rfl rfl rfl rfl rfl rfl rfl ?_ ?_ ?_ ?_ ?_; (focus (first | omega | (simp [*]; done); done)); (focus (first | omega | (simp [*]; done); done)); (focus (first | omega | (simp [*]; done); done)); (focus (first | omega | (simp [*]; done); done)); refine RunQ.evalH ?_; simp [*])
   | (refine RunQ.call rfl rfl rfl rfl rfl ?_ (r) ?_ ?_; (focus (simp (maxDischargeDepth := 120) [*]; done)); (focus (simp [*]; done)); refine RunQ.evalH ?_; simp [*])
   | (refine RunQ.call rfl rfl rfl rfl rfl ?_ (p) ?_ ?_; (focus (simp (maxDischargeDepth := 120) [*]; done)); (focus (simp [*]; done)); refine RunQ.evalH ?_; simp [*])
   | (refine WK.retT2 Tryz.func247 ?_ ?_ ?_ <;> simp (maxDischargeDepth := 120) [Tryz.results247, byL_app, *])
   | fail)
theorem getN_one {b : List (BitVec 8)} {p : Nat} (h : p < b.length) : getN b p 1 = (bI (nth b p), 0) := by
  unfold getN
  rw [if_pos (by omega)]
  have : (b.drop p).take 1 = [nth b p] := by
    rw [nth_eq h, List.drop_eq_getElem_cons h]; rfl
  rw [this]
  simp [valN, bI]
set_option maxHeartbeats 4000000 in
theorem gdec_c (b : List (BitVec 8)) (hb : b.length ≤ 1000000) : FnP Tryz.prog 70 [byS b] (.tup [.agg (gmDec b).1.enc, .agg (gFault (gmDec b).2)]) := by
  have b16 := gbad_c 1 6
  have b611 := gbad_c 6 11
  have b610 := gbad_c 6 10
  by_cases c0 : b.length < 8
  · have e : gmDec b = (gm0, some (1, 6)) := by unfold gmDec; rw [if_pos (.inl c0)]
    have c0' : (b.length : Int) < 8 := by omega
    rw [e]
    unfold byS
    clear b611 b610
    refine FnP.intro Tryz.func70 rfl rfl fun G w => ?_
    repeat' (first
     | refine WK.seq ?_
     | refine WK.condT rfl ?_
     | (refine Hid.h hQ _ _ ?_; clear hQ hA)
     | (refine WK.regH Tryz.ntmps70 (by kernel_rfl) ?_; intro A hA Q hQ; simp [gFault, gm0, GroupMod.enc, *])
     | (refine RunQ.gd rfl (by rw [hA.h]; rfl) ?_; simp [gFault, gm0, GroupMod.enc, *])
     | (refine RunQ.call rfl rfl rfl rfl rfl ?_ (b16) ?_ ?_; (focus (simp (maxDischargeDepth := 120) [gFault, gm0, GroupMod.enc, *]; done)); (focus (simp [gFault, gm0, GroupMod.enc, *]; done)); refine RunQ.evalH ?_; simp [gFault, gm0, GroupMod.enc, *])
     | (refine WK.ret Tryz.func70 ?_ ?_ <;> simp (maxDischargeDepth := 120) [Tryz.results70, gFault, gm0, GroupMod.enc, *])
     | fail)
  have c0' : ¬ (b.length : Int) < 8 := by omega
  have x3 := by_get b 3 (by omega)
  have y3 := bI_zero (nth b 3)
  have u3 : (3 : Int) < b.length := by omega
  have v3 : 3 < b.length := by omega
  have hdef : gmDec b = if (nth b 3 == 0#8) = false then (gm0, some (1, 6)) else if gmIn (getN b 0 2).1 2 = false then (gm0, some (6, 11))
    else if gmIn (getN b 2 1).1 3 = false then (gm0, some (6, 10))
    else match (bkDec (b.drop 8)).2 with
      | some c => (gm0, some c)
      | none => (⟨(getN b 0 2).1, (getN b 2 1).1, (getN b 4 4).1, (bkDec (b.drop 8)).1⟩, none) := by
    unfold gmDec
    rw [getN_one v3]
    by_cases h : (nth b 3 == 0#8) = false
    · rw [if_pos h, if_pos (.inr (by rw [← y3] at h; simpa using h))]
    · rw [if_neg h, if_neg (by rintro (h' | h'); exact c0 h'; rw [Bool.not_eq_false] at h; rw [h] at y3; exact h' (by simpa using y3))]; rfl
  have g0 := nget_c b 0 2 Sz2 (by omega) (by omega)
  have g1 := nget_c b 2 1 Sz1 (by omega) (by omega)
  have g2 := nget_c b 4 4 Sz4 (by omega) (by omega)
  obtain ⟨k3, hk3⟩ : ∃ k, nth b 3 = k := ⟨_, rfl⟩
  rw [hk3] at x3 y3 hdef
  obtain ⟨z3, hz3⟩ : ∃ k, (k3 == 0#8) = k := ⟨_, rfl⟩
  rw [hz3] at y3 hdef
  obtain ⟨q0, hq0⟩ : ∃ q, getN b 0 2 = q := ⟨_, rfl⟩
  obtain ⟨q1, hq1⟩ : ∃ q, getN b 2 1 = q := ⟨_, rfl⟩
  obtain ⟨q2, hq2⟩ : ∃ q, getN b 4 4 = q := ⟨_, rfl⟩
  rw [hq0] at g0 hdef
  rw [hq1] at g1 hdef
  rw [hq2] at g2 hdef
  have w1 := gwithin_c q0.1 2
  have w2 := gwithin_c q1.1 3
  have d := bkdecP_c (b.drop 8) (by rw [List.length_drop]; omega)
  have hs : ((byL b).drop 8).take (b.length - 8) = byL (b.drop 8) := by rw [byL_drop]; exact by_full _ _ (by rw [List.length_drop])
  have u8 : (8 : Int) ≤ b.length := by omega
  simp only [byS, bukS, List.length_drop] at d g0 g1 g2 ⊢
  obtain ⟨S, hS⟩ : ∃ S, b.drop 8 = S := ⟨_, rfl⟩
  rw [hS] at hs d hdef
  clear hk3 hz3 hq0 hq1 hq2 hS
  cases z3
  · rw [if_pos rfl] at hdef
    rw [hdef]
    clear d w1 w2 g0 g1 g2 hs
    refine FnP.intro Tryz.func70 rfl rfl fun G w => ?_
    repeat' (first
     | refine WK.seq ?_
     | refine WK.condT rfl ?_
     | (refine Hid.h hQ _ _ ?_; clear hQ hA)
     | (refine WK.regH Tryz.ntmps70 (by kernel_rfl) ?_; intro A hA Q hQ; simp [gFault, gm0, GroupMod.enc, bne, *])
     | (refine RunQ.gd rfl (by rw [hA.h]; rfl) ?_; simp [gFault, gm0, GroupMod.enc, bne, *])
     | (refine RunQ.call rfl rfl rfl rfl rfl ?_ (b16) ?_ ?_; (focus (simp (maxDischargeDepth := 120) [gFault, gm0, GroupMod.enc, bne, *]; done)); (focus (simp [gFault, gm0, GroupMod.enc, bne, *]; done)); refine RunQ.evalH ?_; simp [gFault, gm0, GroupMod.enc, bne, *])
     | (refine WK.ret Tryz.func70 ?_ ?_ <;> simp (maxDischargeDepth := 120) [Tryz.results70, gFault, gm0, GroupMod.enc, bne, *])
     | fail)
  rw [if_neg (by simp)] at hdef
  obtain ⟨i1, hi1⟩ : ∃ i, gmIn q0.1 2 = i := ⟨_, rfl⟩
  rw [hi1] at w1 hdef
  cases i1
  · rw [if_pos rfl] at hdef
    rw [hdef]
    clear d w2 hs
    refine FnP.intro Tryz.func70 rfl rfl fun G w => ?_
    repeat' (first
     | refine WK.seq ?_
     | refine WK.skip ?_
     | refine WK.condT rfl ?_
     | refine WK.condF rfl ?_
     | (refine Hid.h hQ _ _ ?_; clear hQ hA)
     | (refine WK.regH Tryz.ntmps70 (by kernel_rfl) ?_; intro A hA Q hQ; simp [gFault, gm0, GroupMod.enc, bne, *])
     | (refine RunQ.gd rfl (by rw [hA.h]; rfl) ?_; simp [gFault, gm0, GroupMod.enc, bne, *])
     | (refine RunQ.call rfl rfl rfl rfl rfl ?_ (g0) ?_ ?_; (focus (simp (maxDischargeDepth := 120) [gFault, gm0, GroupMod.enc, bne, *]; done)); (focus (simp [gFault, gm0, GroupMod.enc, bne, *]; done)); refine RunQ.evalH ?_; simp [gFault, gm0, GroupMod.enc, bne, *])
     | (refine RunQ.call rfl rfl rfl rfl rfl ?_ (g1) ?_ ?_; (focus (simp (maxDischargeDepth := 120) [gFault, gm0, GroupMod.enc, bne, *]; done)); (focus (simp [gFault, gm0, GroupMod.enc, bne, *]; done)); refine RunQ.evalH ?_; simp [gFault, gm0, GroupMod.enc, bne, *])
     | (refine RunQ.call rfl rfl rfl rfl rfl ?_ (g2) ?_ ?_; (focus (simp (maxDischargeDepth := 120) [gFault, gm0, GroupMod.enc, bne, *]; done)); (focus (simp [gFault, gm0, GroupMod.enc, bne, *]; done)); refine RunQ.evalH ?_; simp [gFault, gm0, GroupMod.enc, bne, *])
     | (refine RunQ.call rfl rfl rfl rfl rfl ?_ (w1) ?_ ?_; (focus (simp (maxDischargeDepth := 120) [gFault, gm0, GroupMod.enc, bne, *]; done)); (focus (simp [gFault, gm0, GroupMod.enc, bne, *]; done)); refine RunQ.evalH ?_; simp [gFault, gm0, GroupMod.enc, bne, *])
     | (refine RunQ.call rfl rfl rfl rfl rfl ?_ (b611) ?_ ?_; (focus (simp (maxDischargeDepth := 120) [gFault, gm0, GroupMod.enc, bne, *]; done)); (focus (simp [gFault, gm0, GroupMod.enc, bne, *]; done)); refine RunQ.evalH ?_; simp [gFault, gm0, GroupMod.enc, bne, *])
     | (refine WK.ret Tryz.func70 ?_ ?_ <;> simp (maxDischargeDepth := 120) [Tryz.results70, gFault, gm0, GroupMod.enc, bne, *])
     | fail)
  rw [if_neg (by simp)] at hdef
  obtain ⟨i2, hi2⟩ : ∃ i, gmIn q1.1 3 = i := ⟨_, rfl⟩
  rw [hi2] at w2 hdef
  cases i2
  · rw [if_pos rfl] at hdef
    rw [hdef]
    clear d hs
    refine FnP.intro Tryz.func70 rfl rfl fun G w => ?_
    repeat' (first
     | refine WK.seq ?_
     | refine WK.skip ?_
     | refine WK.condT rfl ?_
     | refine WK.condF rfl ?_
     | (refine Hid.h hQ _ _ ?_; clear hQ hA)
     | (refine WK.regH Tryz.ntmps70 (by kernel_rfl) ?_; intro A hA Q hQ; simp [gFault, gm0, GroupMod.enc, bne, *])
     | (refine RunQ.gd rfl (by rw [hA.h]; rfl) ?_; simp [gFault, gm0, GroupMod.enc, bne, *])
     | (refine RunQ.call rfl rfl rfl rfl rfl ?_ (g0) ?_ ?_; (focus (simp (maxDischargeDepth := 120) [gFault, gm0, GroupMod.enc, bne, *]; done)); (focus (simp [gFault, gm0, GroupMod.enc, bne, *]; done)); refine RunQ.evalH ?_; simp [gFault, gm0, GroupMod.enc, bne, *])
     | (refine RunQ.call rfl rfl rfl rfl rfl ?_ (g1) ?_ ?_; (focus (simp (maxDischargeDepth := 120) [gFault, gm0, GroupMod.enc, bne, *]; done)); (focus (simp [gFault, gm0, GroupMod.enc, bne, *]; done)); refine RunQ.evalH ?_; simp [gFault, gm0, GroupMod.enc, bne, *])
     | (refine RunQ.call rfl rfl rfl rfl rfl ?_ (g2) ?_ ?_; (focus (simp (maxDischargeDepth := 120) [gFault, gm0, GroupMod.enc, bne, *]; done)); (focus (simp [gFault, gm0, GroupMod.enc, bne, *]; done)); refine RunQ.evalH ?_; simp [gFault, gm0, GroupMod.enc, bne, *])
     | (refine RunQ.call rfl rfl rfl rfl rfl ?_ (w1) ?_ ?_; (focus (simp (maxDischargeDepth := 120) [gFault, gm0, GroupMod.enc, bne, *]; done)); (focus (simp [gFault, gm0, GroupMod.enc, bne, *]; done)); refine RunQ.evalH ?_; simp [gFault, gm0, GroupMod.enc, bne, *])
     | (refine RunQ.call rfl rfl rfl rfl rfl ?_ (w2) ?_ ?_; (focus (simp (maxDischargeDepth := 120) [gFault, gm0, GroupMod.enc, bne, *]; done)); (focus (simp [gFault, gm0, GroupMod.enc, bne, *]; done)); refine RunQ.evalH ?_; simp [gFault, gm0, GroupMod.enc, bne, *])
     | (refine RunQ.call rfl rfl rfl rfl rfl ?_ (b610) ?_ ?_; (focus (simp (maxDischargeDepth := 120) [gFault, gm0, GroupMod.enc, bne, *]; done)); (focus (simp [gFault, gm0, GroupMod.enc, bne, *]; done)); refine RunQ.evalH ?_; simp [gFault, gm0, GroupMod.enc, bne, *])
     | (refine WK.ret Tryz.func70 ?_ ?_ <;> simp (maxDischargeDepth := 120) [Tryz.results70, gFault, gm0, GroupMod.enc, bne, *])
     | fail)
  rw [if_neg (by simp)] at hdef
  obtain ⟨R, hR⟩ : ∃ R, bkDec S = R := ⟨_, rfl⟩
  rw [hR] at d hdef
  obtain ⟨l, f⟩ := R
  rw [hdef]
  clear hdef hR hi1 hi2
  refine FnP.intro Tryz.func70 rfl rfl fun G w => ?_
  cases f <;>
  · repeat' (first
     | refine WK.seq ?_
     | refine WK.skip ?_
     | refine WK.condT rfl ?_
     | refine WK.condF rfl ?_
     | (refine Hid.h hQ _ _ ?_; clear hQ hA)
     | (refine WK.regH Tryz.ntmps70 (by kernel_rfl) ?_; intro A hA Q hQ; simp [gFault, gm0, GroupMod.enc, bne, *])
     | (refine WK.regX (by kernel_rfl) Tryz.ntmps70 (by kernel_rfl) ?_; intro A hA Q hQ; simp [gFault, gm0, GroupMod.enc, bne, *])
     | (refine Hid.h hQ _ _ _ (by decide +kernel) ?_; clear hQ hA)
     | (refine RunQ.gd rfl (by rw [hA.h]; rfl) ?_; simp [gFault, gm0, GroupMod.enc, bne, *])
     | (refine RunQ.call rfl rfl rfl rfl rfl ?_ (g0) ?_ ?_; (focus (simp (maxDischargeDepth := 120) [gFault, gm0, GroupMod.enc, bne, *]; done)); (focus (simp [gFault, gm0, GroupMod.enc, bne, *]; done)); refine RunQ.evalH ?_; simp [gFault, gm0, GroupMod.enc, bne, *])
     | (refine RunQ.call rfl rfl rfl rfl rfl ?_ (g1) ?_ ?_; (focus (simp (maxDischargeDepth := 120) [gFault, gm0, GroupMod.enc, bne, *]; done)); (focus (simp [gFault, gm0, GroupMod.enc, bne, *]; done)); refine RunQ.evalH ?_; simp [gFault, gm0, GroupMod.enc, bne, *])
     | (refine RunQ.call rfl rfl rfl rfl rfl ?_ (g2) ?_ ?_; (focus (simp (maxDischargeDepth := 120) [gFault, gm0, GroupMod.enc, bne, *]; done)); (focus (simp [gFault, gm0, GroupMod.enc, bne, *]; done)); refine RunQ.evalH ?_; simp [gFault, gm0, GroupMod.enc, bne, *])
     | (refine RunQ.call rfl rfl rfl rfl rfl ?_ (w1) ?_ ?_; (focus (simp (maxDischargeDepth := 120) [gFault, gm0, GroupMod.enc, bne, *]; done)); (focus (simp [gFault, gm0, GroupMod.enc, bne, *]; done)); refine RunQ.evalH ?_; simp [gFault, gm0, GroupMod.enc, bne, *])
     | (refine RunQ.call rfl rfl rfl rfl rfl ?_ (w2) ?_ ?_; (focus (simp (maxDischargeDepth := 120) [gFault, gm0, GroupMod.enc, bne, *]; done)); (focus (simp [gFault, gm0, GroupMod.enc, bne, *]; done)); refine RunQ.evalH ?_; simp [gFault, gm0, GroupMod.enc, bne, *])
     | (refine RunQ.call rfl rfl rfl rfl rfl ?_ (d) ?_ ?_; (focus (simp (maxDischargeDepth := 120) [gFault, gm0, GroupMod.enc, bne, *]; done)); (focus (simp [gFault, gm0, GroupMod.enc, bne, *]; done)); refine RunQ.evalH ?_; simp [gFault, gm0, GroupMod.enc, bne, *])
     | (refine WK.ret Tryz.func70 ?_ ?_ <;> simp (maxDischargeDepth := 120) [Tryz.results70, gFault, gm0, GroupMod.enc, bne, *])
     | fail)
end Go.Proofs.YtcccfbjkcahgfaaGreat
end

section
set_option linter.unusedVariables false
set_option linter.unusedSimpArgs false
namespace Go.Proofs.YtcccfbjkcahgfaaGreat
open Go Go.AI Go.Proofs
attribute [local irreducible] FnP FnO FnB FnT FnSeq WK RunQ RunQW RunX RunXW

def GroupMod.same (a b : GroupMod) : Bool := (a.command == b.command && (a.kind == b.kind && a.id == b.id)) && eqBy Bucket.same a.buckets b.buckets
theorem gsame_c (a b : GroupMod) (ha : GmFit a) : FnP Tryz.prog 33 [.agg a.enc, .agg b.enc] (.bool (GroupMod.same a b)) := by
  have hsa := bsameL_c a.buckets b.buckets ha.len ha.acts
  have e : GroupMod.same a b = ((a.command == b.command && (a.kind == b.kind && a.id == b.id)) && eqBy Bucket.same a.buckets b.buckets) := rfl
  obtain ⟨s, hs⟩ : ∃ s, eqBy Bucket.same a.buckets b.buckets = s := ⟨_, rfl⟩
  rw [hs] at hsa e
  unfold bukS at hsa
  refine FnP.intro Tryz.func33 rfl rfl fun G w => ?_
  repeat' (first
   | refine WK.seq ?_
   | (refine Hid.h hQ _ _ ?_; clear hQ hA)
   | (refine Fork.mk (fun h => ?_) (fun h => ?_) <;> (first | (simp [*] at h; done) | (have h2 := h; simp at h2; exfalso; omega) | (have h2 := h; simp at h2; try simp only [Bool.not_eq_true', Bool.not_eq_false'] at h) | skip))
   | (refine WK.regH Tryz.ntmps33 (by kernel_rfl) ?_; intro A hA Q hQ; simp [GroupMod.enc, *])
   | (refine RunQ.gd rfl (by rw [hA.h]; rfl) ?_; simp [GroupMod.enc, *])
   | (refine RunQW.call rfl rfl rfl rfl ?_ (hsa) ?_ ?_; (focus (simp (maxDischargeDepth := 120) [GroupMod.enc, *]; done)); (focus (simp [GroupMod.enc, *]; done)); refine RunQ.evalH ?_; simp [GroupMod.enc, *])
   | (refine WK.ret Tryz.func33 ?_ ?_ <;> simp (maxDischargeDepth := 120) [Tryz.results33, GroupMod.enc, *])
   | fail)
theorem gencP_c (g : GroupMod) (hg : GmFit g) : FnP Tryz.prog 247 [.agg g.enc] (.tup [byS (gmEnc g).1, .int .i64 (gmEnc g).2]) := by
  have h := (genc_c g hg).toP (by simp [byL_take]) (by rfl)
  rwa [Nat.mul_one, by_full _ _ rfl] at h
theorem gmEnc_len (g : GroupMod) : (gmEnc g).1.length ≤ 60008 := by
  unfold gmEnc
  split
  · have := gmHead_len g
    have := bkEnc_len g.buckets
    simp only [List.length_append]; omega
  · simp
end Go.Proofs.YtcccfbjkcahgfaaGreat
end

section
set_option linter.unusedVariables false
set_option linter.unusedSimpArgs false
namespace Go.Proofs.YtcccfbjkcahgfaaGreat
open Go Go.AI Go.Proofs

theorem inDone_five {b : List (BitVec 8)} {l : List Inst} (d : InDone b l) : l.length ≤ 5 := by
  have h2 : ∀ x, x ∈ inKinds l → x ∈ [(1 : Int), 2, 3, 4, 5] := fun x hx => by
    unfold inKinds at hx
    obtain ⟨y, hy, rfl⟩ := List.mem_map.1 hx
    have := inKind_of (inRight_facts (d.right y hy).1).1
    simp; omega
  have h3 := nodup_len _ _ d.once h2
  unfold inKinds at h3
  rw [List.length_map] at h3
  simpa using h3
/-- a fault, as it stands in a message -/
structure Flt where
  is : Bool
  kind : Int
  code : Int
  deriving DecidableEq, Inhabited
def Flt.enc (f : Flt) : List AV := [.bool f.is, .int .i64 f.kind, .int .i64 f.code]
def flt0 : Flt := ⟨false, 0, 0⟩
structure Msg where
  kind : Int
  xid : Int
  flow : FlowMod
  group : GroupMod
  fault : Flt
  data : List (BitVec 8)
  deriving DecidableEq, Inhabited
def Msg.enc (m : Msg) : List AV := .int .i64 m.kind :: .int .i64 m.xid :: (m.flow.enc ++ (m.group.enc ++ (m.fault.enc ++ [.sl false m.data.length (byL m.data)])))
def msg0 : Msg := ⟨0, 0, flowMod0, gm0, flt0, []⟩
def frHead (k x : Int) (b : List (BitVec 8)) : List (BitVec 8) × Int :=
  if (numOk k 1 && numOk x 4) = true ∧ b.length ≤ 65527 then (beN 4 1 ++ (beN k 1 ++ (beN (8 + b.length : Nat) 2 ++ (beN x 4 ++ b))), 0) else ([], 1)
def mgData (k : Int) : Bool := k == 0 || (k == 2 || k == 3)
def mgBare (m : Msg) : Msg := if mgData m.kind = true then { msg0 with kind := m.kind, xid := m.xid, data := m.data } else if m.kind = 1 then { msg0 with kind := m.kind, xid := m.xid, fault := m.fault, data := m.data }
  else if m.kind = 14 then { msg0 with kind := m.kind, xid := m.xid, flow := m.flow } else if m.kind = 15 then { msg0 with kind := m.kind, xid := m.xid, group := m.group } else { msg0 with kind := m.kind, xid := m.xid }
def mgBody (m : Msg) : List (BitVec 8) := if mgData m.kind = true then m.data else if m.kind = 1 then putN (putN [] m.fault.kind 2) m.fault.code 2 ++ m.data else if m.kind = 14 then (fmEnc m.flow).1 else (gmEnc m.group).1
def mgOk (m : Msg) : Bool := if mgData m.kind = true then decide (m.data.length ≤ 60000) else if m.kind = 1 then m.fault.is && (numOk m.fault.kind 2 && (numOk m.fault.code 2 && decide (m.data.length ≤ 60000))) else if m.kind = 14 then fmRight m.flow else if m.kind = 15 then gmRight m.group else false
def FlowMod.same (a b : FlowMod) : Bool := (fmNums a == fmNums b) && (a.cookie == b.cookie && (a.cookieMask == b.cookieMask && (eqBy (fun x y : Oxm => x == y) a.mat b.mat && eqBy Inst.same a.insts b.insts)))
def Msg.same (a b : Msg) : Bool := a.kind == b.kind && (a.xid == b.xid && (a.fault == b.fault && (a.data == b.data && (FlowMod.same a.flow b.flow && GroupMod.same a.group b.group))))
def mgRight (m : Msg) : Bool := mgOk m && (numOk m.xid 4 && Msg.same m (mgBare m))
def mgEnc (m : Msg) : List (BitVec 8) × Int := if mgRight m = true then frHead m.kind m.xid (mgBody m) else ([], 1)
theorem eqBy_eq {α : Type} [Inhabited α] {p : α → α → Bool} (hp : ∀ x y, p x y = true ↔ x = y) {l m : List α} : eqBy p l m = true ↔ l = m := by
  constructor
  · intro h
    unfold eqBy at h
    rw [Bool.and_eq_true, beq_iff_eq, List.all_eq_true] at h
    refine List.ext_getElem h.1 fun i h1 h2 => ?_
    have := (hp _ _).1 (h.2 i (by simpa using h1))
    rwa [nth_eq h1, nth_eq h2] at this
  · intro h; subst h; exact eqBy_refl (fun x => (hp x x).2 rfl) l
theorem bkSame_iff (a b : Bucket) : Bucket.same a b = true ↔ a = b := by
  obtain ⟨w, x, y, z⟩ := a
  obtain ⟨w', x', y', z'⟩ := b
  unfold Bucket.same
  simp only [Bool.and_eq_true, beq_iff_eq, Bucket.mk.injEq]
  rw [show (eqBy (fun x1 x2 => x1 == x2) z z' = true) ↔ z = z' from eqBy_iff]
theorem gmSame_iff (a b : GroupMod) : GroupMod.same a b = true ↔ a = b := by
  obtain ⟨w, x, y, z⟩ := a
  obtain ⟨w', x', y', z'⟩ := b
  unfold GroupMod.same
  simp only [Bool.and_eq_true, beq_iff_eq, GroupMod.mk.injEq]
  rw [eqBy_eq bkSame_iff, and_assoc, and_assoc]
theorem fmSame_iff (a b : FlowMod) : FlowMod.same a b = true ↔ a = b := by
  obtain ⟨c, k, a1, a2, a3, a4, a5, a6, a7, a8, a9, l, i⟩ := a
  obtain ⟨c', k', b1, b2, b3, b4, b5, b6, b7, b8, b9, l', i'⟩ := b
  unfold FlowMod.same fmNums
  simp only [Bool.and_eq_true, beq_iff_eq, FlowMod.mk.injEq, List.cons.injEq, and_true]
  rw [eqBy_eq (fun x y : Oxm => beq_iff_eq), eqBy_eq (fun x y => instSame_iff)]
  constructor
  · rintro ⟨⟨h1, h2, h3, h4, h5, h6, h7, h8, h9⟩, h10, h11, h12, h13⟩
    exact ⟨h10, h11, h1, h2, h3, h4, h5, h6, h7, h8, h9, h12, h13⟩
  · rintro ⟨h10, h11, h1, h2, h3, h4, h5, h6, h7, h8, h9, h12, h13⟩
    exact ⟨⟨h1, h2, h3, h4, h5, h6, h7, h8, h9⟩, h10, h11, h12, h13⟩
theorem mgSame_iff (a b : Msg) : Msg.same a b = true ↔ a = b := by
  obtain ⟨k, x, f, g, e, d⟩ := a
  obtain ⟨k', x', f', g', e', d'⟩ := b
  unfold Msg.same
  simp only [Bool.and_eq_true, beq_iff_eq, Msg.mk.injEq, fmSame_iff, gmSame_iff]
  constructor
  · rintro ⟨h1, h2, h3, h4, h5, h6⟩; exact ⟨h1, h2, h5, h6, h3, h4⟩
  · rintro ⟨h1, h2, h5, h6, h3, h4⟩; exact ⟨h1, h2, h3, h4, h5, h6⟩
theorem mgSame_self (a : Msg) : Msg.same a a = true := (mgSame_iff a a).2 rfl
/-- what is behind the head of a message, read -/
def mgFill (k x : Int) (b : List (BitVec 8)) : Msg × Option (Int × Int) :=
  if mgData k = true then (if 60000 < b.length then (msg0, some (1, 6)) else ({ msg0 with kind := k, xid := x, data := b }, none))
  else if k = 1 then (if b.length < 4 then (msg0, some (1, 6)) else if 60000 < b.length - 4 then (msg0, some (1, 6)) else ({ msg0 with kind := k, xid := x, fault := ⟨true, (getN b 0 2).1, (getN b 2 2).1⟩, data := b.drop 4 }, none))
  else if k = 14 then (match (fmDec b).2 with | some c => (msg0, some c) | none => ({ msg0 with kind := k, xid := x, flow := (fmDec b).1 }, none))
  else if k = 15 then (match (gmDec b).2 with | some c => (msg0, some c) | none => ({ msg0 with kind := k, xid := x, group := (gmDec b).1 }, none))
  else (msg0, some (1, 1))
def mgDec (b : List (BitVec 8)) : Msg × Option (Int × Int) :=
  if b.length < 8 then (msg0, some (1, 6)) else if (nth b 0 == 4#8) = false then (msg0, some (1, 0)) else if ¬ valN ((b.drop 2).take 2) = b.length then (msg0, some (1, 6))
  else mgFill (bI (nth b 1)) (getN b 4 4).1 (b.drop 8)
structure MgFit (m : Msg) : Prop where
  ok : mgOk m = true
  xid : numOk m.xid 4 = true
  bare : m = mgBare m
theorem mgRight_facts {m : Msg} (h : mgRight m = true) : MgFit m := by
  unfold mgRight at h
  rw [Bool.and_eq_true, Bool.and_eq_true] at h
  exact ⟨h.1, h.2.1, (mgSame_iff _ _).1 h.2.2⟩
theorem mgKind_of {m : Msg} (h : mgOk m = true) : mgData m.kind = true ∨ m.kind = 1 ∨ m.kind = 14 ∨ m.kind = 15 := by
  unfold mgOk at h
  split at h
  · exact .inl ‹_›
  split at h
  · exact .inr (.inl ‹_›)
  split at h
  · exact .inr (.inr (.inl ‹_›))
  split at h
  · exact .inr (.inr (.inr ‹_›))
  · cases h
theorem mgData_iff {k : Int} : mgData k = true ↔ k = 0 ∨ k = 2 ∨ k = 3 := by unfold mgData; simp
theorem mgBody_len {m : Msg} (h : mgOk m = true) : (mgBody m).length ≤ 61052 := by
  unfold mgOk at h
  unfold mgBody
  split
  · rename_i hk; rw [if_pos hk] at h; have := of_decide_eq_true h; omega
  rename_i hk; rw [if_neg hk] at h
  split
  · rename_i hk; rw [if_pos hk] at h
    simp only [Bool.and_eq_true, decide_eq_true_eq] at h
    have l1 := putN_len [] m.fault.kind 2
    have l2 := putN_len (putN [] m.fault.kind 2) m.fault.code 2
    simp only [List.length_append, List.length_nil] at l1 ⊢
    omega
  split
  · exact fmEnc_len m.flow
  · have := gmEnc_len m.group; omega
theorem mgEnc_good {m : Msg} (h : mgRight m = true) : mgEnc m = (beN 4 1 ++ (beN m.kind 1 ++ (beN (8 + (mgBody m).length : Nat) 2 ++ (beN m.xid 4 ++ mgBody m))), 0) := by
  obtain ⟨h1, h2, h3⟩ := mgRight_facts h
  have hk := mgKind_of h1
  rw [mgData_iff] at hk
  have hl := mgBody_len h1
  have hn : numOk m.kind 1 = true := by rw [numOk_iff]; exact ⟨by omega, by show m.kind < 256; omega⟩
  unfold mgEnc frHead
  rw [if_pos h, if_pos ⟨by rw [hn, h2]; rfl, by omega⟩]
theorem mgEnc_bad {m : Msg} (h : mgRight m = false) : mgEnc m = ([], 1) := by unfold mgEnc; rw [if_neg (by rw [h]; exact Bool.false_ne_true)]
end Go.Proofs.YtcccfbjkcahgfaaGreat
end

section
set_option linter.unusedVariables false
set_option linter.unusedSimpArgs false
namespace Go.Proofs.YtcccfbjkcahgfaaGreat
open Go Go.AI Go.Proofs Go.Proofs.YtcccfbjkcahgfaaGreat
section
variable {w : World} {H : Type} {enc : TypeId × Value → H} {sp : Nat → Bool} {held : Bool}
theorem rdFlt : Rd enc Tryz.prog w sp held 31 Flt.enc := by
  intro fuel cs x h
  obtain ⟨hl, fuel', hf⟩ := trod_struct Tryz.underlying31 h
  simp only [cellsOf_sz, sz31] at hl
  simp only [List.mem_cons, List.not_mem_nil, or_false, forall_eq_or_imp, forall_eq, cellsOf_sz, sz3, sz4] at hf
  match cs, hl, hf with
  | [c0, c1, c2], _, ⟨⟨y0, h0⟩, ⟨y1, h1⟩, ⟨y2, h2⟩⟩ =>
    obtain ⟨b, e0⟩ := trod_bool Tryz.underlying4 h0
    obtain ⟨n1, e1⟩ := rd_int Tryz.underlying3 h1
    obtain ⟨n2, e2⟩ := rd_int Tryz.underlying3 h2
    simp at e0 e1 e2
    subst e0 e1 e2
    exact ⟨⟨b, n1, n2⟩, RelL.cons (by simp [Rel]) (RelL.cons (by simp [Rel]) (RelL.cons (by simp [Rel]) RelL.nil)), by simp [Ones, Value.oneCell']⟩
set_option maxHeartbeats 4000000 in
theorem rdMsg : Rd enc Tryz.prog w sp held 34 Msg.enc := by
  intro fuel cs x h
  obtain ⟨hl, fuel', hf⟩ := trod_struct Tryz.underlying34 h
  simp only [cellsOf_sz, sz34] at hl
  simp only [List.mem_cons, List.not_mem_nil, or_false, forall_eq_or_imp, forall_eq, cellsOf_sz, sz3, sz26, sz29, sz31, sz32] at hf
  match cs, hl, hf with
  | [c0, c1, c2, c3, c4, c5, c6, c7, c8, c9, c10, c11, c12, c13, c14, c15, c16, c17, c18, c19, c20, c21, c22], _, ⟨⟨y0, h0⟩, ⟨y1, h1⟩, ⟨y2, h2⟩, ⟨y3, h3⟩, ⟨y4, h4⟩, ⟨y5, h5⟩⟩ =>
    obtain ⟨n0, e0⟩ := rd_int Tryz.underlying3 h0
    obtain ⟨n1, e1⟩ := rd_int Tryz.underlying3 h1
    obtain ⟨fl, r2, o2⟩ := rdFlowMod fuel' _ y2 h2
    obtain ⟨gr, r3, o3⟩ := rdGroupMod fuel' _ y3 h3
    obtain ⟨fa, r4, o4⟩ := rdFlt fuel' _ y4 h4
    obtain ⟨l, u, e5, r5⟩ := rd_slice (s := 1) (f := byE) Tryz.underlying32 (by kernel_rfl) (by omega) (fun _ => rfl) rdByte h5
    rw [byL_flat] at r5
    simp at e0 e1 e5
    subst e0 e1 e5
    exact ⟨⟨n0, n1, fl, gr, fa, l⟩, RelL.cons (by simp [Rel]) (RelL.cons (by simp [Rel]) (r2.append (r3.append (r4.append (RelL.cons r5 RelL.nil))))),
      (Ones.append (vs := [_, _]) (by simp [Ones, Value.oneCell']) (o2.append (o3.append (o4.append (Ones.single (one_of_sl r5))))))⟩
end
theorem rdvMsg : RdV Tryz.prog 34 (fun a => ∃ x, a = .agg (Msg.enc x)) := rdV_agg (.inl ⟨_, Tryz.underlying34⟩) (fun _ _ _ => rdMsg)
def zeroMsg : Array Value := #[.int .i64 0, .int .i64 0, .int .u64 0, .int .u64 0, .int .i64 0, .int .i64 0, .int .i64 0, .int .i64 0, .int .i64 0, .int .i64 0, .int .i64 0, .int .i64 0, .int .i64 0, .slice none 0 0, .slice none 0 0, .int .i64 0, .int .i64 0, .int .i64 0, .slice none 0 0, .bool false, .int .i64 0, .int .i64 0, .slice none 0 0]
end Go.Proofs.YtcccfbjkcahgfaaGreat
end

section
set_option linter.unusedVariables false
set_option linter.unusedSimpArgs false
namespace Go.Proofs.YtcccfbjkcahgfaaGreat
open Go Go.AI Go.Proofs

theorem drop_nth {α : Type} [Inhabited α] {l : List α} {i : Nat} (h : i < l.length) : l.drop i = nth l i :: l.drop (i + 1) := by
  rw [List.drop_eq_getElem_cons h, nth_eq h]
theorem take_nth {α : Type} [Inhabited α] {l : List α} {i : Nat} (h : i < l.length) : l.take (i + 1) = l.take i ++ [nth l i] := by
  rw [List.take_succ_eq_append_getElem h, nth_eq h]
theorem mCheck_at {l : List Oxm} {i : Nat} (h : i < l.length) : mCheckF (l.take i) (l.drop i) =
    if ((l.take i).any fun p => p.field == (nth l i).field) = true then some 10 else if mMet (l.take i) (nth l i).field = false then some 9 else mCheckF (l.take (i + 1)) (l.drop (i + 1)) := by
  rw [drop_nth h, mCheckF, take_nth h]
theorem mCheck_end (l : List Oxm) : mCheckF (l.take l.length) (l.drop l.length) = none := by rw [List.drop_length]; rfl
theorem all_false {α : Type} [Inhabited α] {p : α → Bool} {l : List α} {i : Nat} (h : i < l.length) (hp : p (nth l i) = false) : l.all p = false := by
  rw [List.all_eq_false]; exact ⟨nth l i, nth_mem h, by simp [hp]⟩
theorem all_true {α : Type} [Inhabited α] {p : α → Bool} {l : List α} (h : ∀ j, j < l.length → p (nth l j) = true) : l.all p = true := by
  rw [List.all_eq_true]; intro x hx
  obtain ⟨j, hj, rfl⟩ := mem_nth hx
  exact h j hj
theorem any_false' {α : Type} [Inhabited α] {p : α → Bool} {l : List α} (h : ∀ j, j < l.length → p (nth l j) = false) : l.any p = false := by
  rw [List.any_eq_false]; intro x hx
  obtain ⟨j, hj, rfl⟩ := mem_nth hx
  simp [h j hj]
theorem any_true' {α : Type} [Inhabited α] {p : α → Bool} {l : List α} {i : Nat} (h : i < l.length) (hp : p (nth l i) = true) : l.any p = true := by
  rw [List.any_eq_true]; exact ⟨nth l i, nth_mem h, hp⟩
theorem mMet_false {l : List Oxm} {f : Int} {i : Nat} (h : i < (needs f).length) (hp : (l.any fun o => mGives o (nth (needs f) i)) = false) : mMet l f = false := all_false (p := fun n => l.any fun o => mGives o n) h hp
theorem mMet_true {l : List Oxm} {f : Int} (h : ∀ j, j < (needs f).length → (l.any fun o => mGives o (nth (needs f) j)) = true) : mMet l f = true := all_true (p := fun n => l.any fun o => mGives o n) h
theorem needs_small (f : Int) : (needs f).length ≤ 2 ∧ ∀ n, n ∈ needs f → n.values.length ≤ 2 := by
  have h : ∀ L : List Need, L ∈ [[], [⟨5, []⟩], [nEth [0x800#64, 0x86dd#64]], [nEth [0x800#64]], [nEth [0x800#64, 0x86dd#64], nProto 6#64], [nEth [0x800#64, 0x86dd#64], nProto 17#64], [nEth [0x800#64], nProto 1#64], [nEth [0x806#64]], [nEth [0x86dd#64]], [nEth [0x8847#64, 0x8848#64]]] → L.length ≤ 2 ∧ ∀ n, n ∈ L → n.values.length ≤ 2 := by
    intro L hL
    simp only [List.mem_cons, List.not_mem_nil, or_false] at hL
    rcases hL with rfl | rfl | rfl | rfl | rfl | rfl | rfl | rfl | rfl | rfl <;> decide
  refine h _ ?_
  unfold needs
  repeat' split
  all_goals decide
theorem seven_bit : ∀ i : Fin 64, (7#64).getLsbD i.val = decide (i.val < 3) := by decide +kernel
theorem and_not7 (x : BitVec 64) : x &&& ~~~7#64 = (x >>> 3) <<< 3 := by
  refine BitVec.eq_of_getLsbD_eq fun i hi => ?_
  have h7 := seven_bit ⟨i, hi⟩
  simp only at h7
  rw [BitVec.getLsbD_and, BitVec.getLsbD_not, h7, BitVec.getLsbD_shiftLeft, BitVec.getLsbD_ushiftRight]
  by_cases h3 : i < 3
  · simp [h3]
  · have e : 3 + (i - 3) = i := by omega
    simp [h3, hi, e]
theorem bNot7_big (n : Nat) (h : n < 4611686018427387904) : bNot .i64 (n : Int) 7 = ((n / 8 * 8 : Nat) : Int) := by
  unfold bNot
  show IntKind.wrap .i64 (((BitVec.ofInt 64 (n : Int) &&& ~~~(BitVec.ofInt 64 7)).toNat : Nat) : Int) = _
  rw [show BitVec.ofInt 64 (n : Int) = BitVec.ofNat 64 n from by rw [← BitVec.ofInt_natCast], show BitVec.ofInt 64 7 = 7#64 from rfl, and_not7, BitVec.toNat_shiftLeft, BitVec.toNat_ushiftRight, BitVec.toNat_ofNat, Nat.mod_eq_of_lt (by omega),
    Nat.shiftLeft_eq, Nat.shiftRight_eq_div_pow, Nat.mod_eq_of_lt (by omega)]
  exact wrap_i64 (by omega) (by omega)
theorem mPad_bit (n : Nat) (h : n < 1000000000) : bNot .i64 (IntKind.i64.wrap ((n : Int) + 7)) 7 = ((mPad n : Nat) : Int) := by
  rw [wrap_i64 (by omega) (by omega), show (n : Int) + 7 = ((n + 7 : Nat) : Int) by omega, bNot7_big _ (by omega)]; rfl
end Go.Proofs.YtcccfbjkcahgfaaGreat
end
