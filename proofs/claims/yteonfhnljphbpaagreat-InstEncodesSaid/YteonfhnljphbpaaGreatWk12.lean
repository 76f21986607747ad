/- Instructions: written by the reference. -/
import Derived.Test.YteonfhnljphbpaaGreatWk11
set_option linter.all false
set_option linter.unnecessarySimpa false
section
set_option linter.unusedVariables false
set_option linter.unusedSimpArgs false
namespace Go.Proofs.YteonfhnljphbpaaGreat
open Go Go.AI Go.Proofs
attribute [local irreducible] FnP FnO FnB FnT FnSeq WK RunQ RunQW RunX RunXW

theorem inFind_snd (l : List Inst) (k : Int) : (inFind l k).2 = decide (k ∈ inKinds l) := by
  unfold inFind
  cases h : l.find? (fun i => i.kind == k) with
  | none =>
    rw [List.find?_eq_none] at h
    have : k ∉ inKinds l := by
      intro hk
      unfold inKinds at hk
      obtain ⟨x, hx, rfl⟩ := List.mem_map.1 hk
      exact h x hx (by simp)
    simp [this]
  | some i =>
    have hm := List.mem_of_find?_eq_some h
    have hp := List.find?_some h
    have : k ∈ inKinds l := List.mem_map.2 ⟨i, hm, by simpa using hp⟩
    simp [this]
theorem beN_one (t : Int) : beN t 1 = [BitVec.ofInt 8 t] := by simp [beN]
set_option maxHeartbeats 8000000 in
theorem rienc_c (l : List Inst) (hl : l.length ≤ 100) (ha : ∀ x, x ∈ l → x.acts.length ≤ 1000000) : FnT Tryz.prog 24 [instS l] (inEnc l).1.length 1 (byL (inEnc l).1) [.int .i64 (inEnc l).2] := by
  unfold instS
  refine FnT.intro Tryz.func24 rfl rfl fun G w => ?_
  repeat' (first
   | refine WK.seq ?_
   | refine WK.block ?_
   | refine WK.inBlock ?_
   | refine WK.skip ?_
   | refine WK.label ?_
   | refine WK.scope ?_
   | refine WK.inScope ?_
   | refine WK.exit rfl ?_
   | refine WK.condT rfl ?_
   | refine WK.condF rfl ?_
   | (refine Hid.h hQ _ _ ?_; clear hQ hA)
   | refine WK.condAny rfl ?_ ?_
   | ((first | refine WK.cond2 rfl (fun h => ?_) (fun h => ?_) | refine Fork.mk (fun h => ?_) (fun h => ?_)) <;> (first | (simp [*] at h; done) | (have h2 := h; simp at h2; exfalso; omega) | (have h2 := h; simp at h2; try simp only [Bool.not_eq_true', Bool.not_eq_false'] at h) | skip))
   | ((first | refine WK.regH Tryz.ntmps24 (by kernel_rfl) ?_ | refine WK.regX (by kernel_rfl) Tryz.ntmps24 (by kernel_rfl) ?_); intro A hA Q hQ; simp [*])
   | (refine Hid.h hQ _ _ _ (by decide +kernel) ?_; clear hQ hA)
   | ((first | refine RunQ.gd rfl (by rw [hA.h]; rfl) ?_ | refine RunX.gd rfl (by rw [hA.h]; rfl) ?_); simp [*])
   | fail)
  repeat (first | refine WK.seq ?_ | refine WK.block ?_ | refine WK.inBlock ?_ | refine WK.skip ?_ | refine WK.label ?_ | refine WK.scope ?_ | refine WK.inScope ?_ | refine WK.exit rfl ?_)
  refine WK.ghost (Ghost.own 4 900 1 rfl rfl) ?_
  repeat (first | refine WK.seq ?_ | refine WK.block ?_ | refine WK.inBlock ?_ | refine WK.skip ?_ | refine WK.label ?_ | refine WK.scope ?_ | refine WK.inScope ?_ | refine WK.exit rfl ?_)
  refine WK.loopI (fun n => if n = 1 then 900 else n) (fun i : Nat => (⟨(upd (upd (upd (upd (upd J 0 (.sl false l.length (instL l))) 2 (.sl true 0 [])) 3 (.int .i64 0)) 4 (.msl 1 0 (rwFlat inOne (l.take i)).length)) 5 (.int .i64 i)), (upd B0 1 (.buf 1 (byL (rwFlat inOne (l.take i))))), 0⟩ : St)) (fun i => i ≤ l.length ∧ (∀ j, j < i → inRight (nth l j) = true) ∧ (inKinds (l.take i)).Nodup) (fun i => l.length - i) (0) (by repeat (first | exact TmW.nil | refine TmW.upd ?_ (by simp (maxDischargeDepth := 120) [rwFlat, byL_nil]))) (by repeat (first | exact BxW.nil | refine BxW.upd ?_ (by simp (maxDischargeDepth := 120) [rwFlat, byL_nil]))) (by first | exact InjW.id | exact InjW.nil | exact InjW.one | exact InjW.two (by simp) | exact InjW.three (by simp) (by simp) (by simp)) (⟨by omega, by simp, by simp [inKinds]⟩) (fun i hi IH => ?_)
  have hfl := inFlat_len (l.take i)
  have htl : (l.take i).length ≤ 100 := by rw [List.length_take]; omega
  by_cases h1 : i < l.length
  · have h4 := inst_sub l i h1
    have h3 : 7 ≤ l.length * 7 - i * 7 := by omega
    have g0 := inst_get l i 0 h1 (by omega)
    have g1 := inst_get l i 1 h1 (by omega)
    have g6 := inst_get l i 6 h1 (by omega)
    have gv : ((instL l).drop (i * 7 + 2)).take 2 = (nth l i).value.enc := inst_value l i h1
    have gm : ((instL l).drop (i * 7 + 4)).take 2 = (nth l i).mask.enc := inst_mask l i h1
    have l0 : i * 7 < l.length * 7 := by omega
    have l1 : i * 7 + 1 < l.length * 7 := by omega
    have l6 : i * 7 + 6 < l.length * 7 := by omega
    have l2 : 2 ≤ l.length * 7 - (i * 7 + 2) := by omega
    have l4 : 2 ≤ l.length * 7 - (i * 7 + 4) := by omega
    have h6 : IntKind.i64.wrap ((i : Int) + 1) = i + 1 := wrap_i64 (by omega) (by omega)
    have hs := inFlat_succ h1
    have hx := ha _ (nth_mem h1)
    have hrc := riright_c (nth l i) hx
    have hks := inKinds_succ h1
    have hof := riof_c (l.take i) (nth l i).kind (by omega)
    have hfs := inFind_snd (l.take i) (nth l i).kind
    have htk : (instL l).take (i * 7) = instL (l.take i) := by unfold instL; exact fm_take Inst.len l i
    have hll : (l.take i).length = i := by rw [List.length_take]; omega
    have hil : (i : Int) ≤ l.length := by omega
    unfold instS at hof
    rw [hll] at hof
    have htwo : (nth l i).kind ∈ inKinds (l.take i) → inEnc l = ([], 1) := inEnc_two h1
    have hwr : inRight (nth l i) = false → inEnc l = ([], 1) := inEnc_wrong h1
    have hnd := hi.2.2
    have hall := hi.2.1
    have hjr : inRight (nth l i) = true → ∀ j, j < i + 1 → inRight (nth l j) = true := fun hr j hj => by
      by_cases h7 : j = i
      · subst h7; exact hr
      · exact hall j (by omega)
    have hjn : (nth l i).kind ∉ inKinds (l.take i) → (inKinds (l.take (i + 1))).Nodup := fun h0 => by
      rw [hks]; exact nodup_snoc hnd h0
    have hbl := inBody_len (nth l i)
    have hone : inOne (nth l i) = beN (nth l i).kind 2 ++ (beN (4 + (inBody (nth l i)).length : Nat) 2 ++ inBody (nth l i)) := rfl
    have hn2 : numOk ((4 + (inBody (nth l i)).length : Nat) : Int) 2 = true := numOk2 (by omega)
    have p := racencP_c (nth l i).acts hx
    have hEl := acEnc_len (nth l i).acts
    obtain ⟨x, hxx⟩ : ∃ x, nth l i = x := ⟨_, rfl⟩
    simp only [hxx, Inst.enc, List.getElem_cons_zero, List.getElem_cons_succ, Nat.add_zero] at g0 g1 g6
    rw [hxx] at h4 hs hx hrc hof hfs htwo hwr hjr hjn hbl hone hn2 p hEl gv gm
    obtain ⟨y, bo, hyb⟩ : ∃ y bo, inFind (l.take i) x.kind = (y, bo) := ⟨_, _, rfl⟩
    rw [hyb] at hof hfs
    simp only at hof hfs
    obtain ⟨F, hF⟩ : ∃ F, rwFlat inOne (l.take i) = F := ⟨_, rfl⟩
    rw [hF] at hs hfl ⊢
    have hFl : F.length ≤ 700000 := by omega
    obtain ⟨r, hr⟩ : ∃ r, inRight x = r := ⟨_, rfl⟩
    rw [hr] at hrc hwr hjr
    simp only [Inst.enc] at h4 hrc hof
    have hgot := hi
    clear hi hall hnd hks hF hxx hfl htl hyb hll
    cases bo
    case true =>
      have e := htwo (of_decide_eq_true hfs.symm)
      rw [e]
      clear htwo hwr hjr hjn hone hn2 hs p hEl hbl hr hfs
      repeat' (first
       | refine WK.seq ?_
       | refine WK.block ?_
       | refine WK.inBlock ?_
       | refine WK.skip ?_
       | refine WK.label ?_
       | refine WK.scope ?_
       | refine WK.inScope ?_
       | refine WK.exit rfl ?_
       | refine WK.condT rfl ?_
       | refine WK.condF rfl ?_
       | (refine Hid.h hQ _ _ ?_; clear hQ hA)
       | refine WK.condAny rfl ?_ ?_
       | ((first | refine WK.cond2 rfl (fun h => ?_) (fun h => ?_) | refine Fork.mk (fun h => ?_) (fun h => ?_)) <;> (first | (simp [*] at h; done) | (have h2 := h; simp at h2; exfalso; omega) | (have h2 := h; simp at h2; try simp only [Bool.not_eq_true', Bool.not_eq_false'] at h) | skip))
       | ((first | refine WK.regH Tryz.ntmps24 (by kernel_rfl) ?_ | refine WK.regX (by kernel_rfl) Tryz.ntmps24 (by kernel_rfl) ?_); intro A hA Q hQ; simp [*])
       | (refine Hid.h hQ _ _ _ (by decide +kernel) ?_; clear hQ hA)
       | ((first | refine RunQ.gd rfl (by rw [hA.h]; rfl) ?_ | refine RunX.gd rfl (by rw [hA.h]; rfl) ?_); simp [*])
       | (((first | refine RunQ.call rfl rfl rfl rfl rfl ?_ (hof) ?_ ?_ | refine RunQW.call rfl rfl rfl rfl ?_ (hof) ?_ ?_ | refine RunX.call rfl rfl rfl rfl ?_ (hof) ?_ ?_ | refine RunXW.call rfl rfl rfl ?_ (hof) ?_ ?_); (focus (simp (maxDischargeDepth := 120) [*]; done))); (focus (simp [*]; done)); (first | refine RunQ.evalH ?_ | refine RunX.evalY ?_); simp [*])
       | fail)
      repeat (first | refine WK.seq ?_ | refine WK.block ?_ | refine WK.inBlock ?_ | refine WK.skip ?_ | refine WK.label ?_ | refine WK.scope ?_ | refine WK.inScope ?_ | refine WK.exit rfl ?_)
      refine WK.ghost (Ghost.own 2 905 1 rfl rfl) ?_
      repeat (first | refine WK.seq ?_ | refine WK.block ?_ | refine WK.inBlock ?_ | refine WK.skip ?_ | refine WK.label ?_ | refine WK.scope ?_ | refine WK.inScope ?_ | refine WK.exit rfl ?_)
      refine WK.retT2 Tryz.func24 ?_ ?_ ?_ <;> simp (maxDischargeDepth := 120) [Tryz.results24, byL_nil]
    have hnot := of_decide_eq_false hfs.symm
    cases r
    · have e := hwr rfl
      rw [e]
      clear htwo hwr hjr hjn hone hn2 hs p hEl hbl hr hfs hnot
      repeat' (first
       | refine WK.seq ?_
       | refine WK.block ?_
       | refine WK.inBlock ?_
       | refine WK.skip ?_
       | refine WK.label ?_
       | refine WK.scope ?_
       | refine WK.inScope ?_
       | refine WK.exit rfl ?_
       | refine WK.condT rfl ?_
       | refine WK.condF rfl ?_
       | (refine Hid.h hQ _ _ ?_; clear hQ hA)
       | refine WK.condAny rfl ?_ ?_
       | ((first | refine WK.cond2 rfl (fun h => ?_) (fun h => ?_) | refine Fork.mk (fun h => ?_) (fun h => ?_)) <;> (first | (simp [*] at h; done) | (have h2 := h; simp at h2; exfalso; omega) | (have h2 := h; simp at h2; try simp only [Bool.not_eq_true', Bool.not_eq_false'] at h) | skip))
       | ((first | refine WK.regH Tryz.ntmps24 (by kernel_rfl) ?_ | refine WK.regX (by kernel_rfl) Tryz.ntmps24 (by kernel_rfl) ?_); intro A hA Q hQ; simp [*])
       | (refine Hid.h hQ _ _ _ (by decide +kernel) ?_; clear hQ hA)
       | ((first | refine RunQ.gd rfl (by rw [hA.h]; rfl) ?_ | refine RunX.gd rfl (by rw [hA.h]; rfl) ?_); simp [*])
       | ((first | ((first | refine RunQ.call rfl rfl rfl rfl rfl ?_ (hof) ?_ ?_ | refine RunQW.call rfl rfl rfl rfl ?_ (hof) ?_ ?_ | refine RunX.call rfl rfl rfl rfl ?_ (hof) ?_ ?_ | refine RunXW.call rfl rfl rfl ?_ (hof) ?_ ?_); (focus (simp (maxDischargeDepth := 120) [*]; done))) | ((first | refine RunQ.call rfl rfl rfl rfl rfl ?_ (hrc) ?_ ?_ | refine RunQW.call rfl rfl rfl rfl ?_ (hrc) ?_ ?_ | refine RunX.call rfl rfl rfl rfl ?_ (hrc) ?_ ?_ | refine RunXW.call rfl rfl rfl ?_ (hrc) ?_ ?_); (focus (simp (maxDischargeDepth := 120) [*]; done)))); (focus (simp [*]; done)); (first | refine RunQ.evalH ?_ | refine RunX.evalY ?_); simp [*])
       | fail)
      repeat (first | refine WK.seq ?_ | refine WK.block ?_ | refine WK.inBlock ?_ | refine WK.skip ?_ | refine WK.label ?_ | refine WK.scope ?_ | refine WK.inScope ?_ | refine WK.exit rfl ?_)
      refine WK.ghost (Ghost.own 2 905 1 rfl rfl) ?_
      repeat (first | refine WK.seq ?_ | refine WK.block ?_ | refine WK.inBlock ?_ | refine WK.skip ?_ | refine WK.label ?_ | refine WK.scope ?_ | refine WK.inScope ?_ | refine WK.exit rfl ?_)
      refine WK.retT2 Tryz.func24 ?_ ?_ ?_ <;> simp (maxDischargeDepth := 120) [Tryz.results24, byL_nil]
    have hK2 := hjn hnot
    have hj2 := hjr rfl
    have hokx := (inRight_facts hr).1
    have hkd : numOk x.kind 2 = true := by
      have := inKind_of hokx
      rw [numOk_iff]; exact ⟨by omega, by show x.kind < 65536; omega⟩
    have c1 := rput_c F x.kind 2 Sz2 (by omega)
    rw [putN_beN hkd] at c1
    obtain ⟨K, hK⟩ : ∃ K, inBody x = K := ⟨_, rfl⟩
    rw [hK] at hbl hone hn2
    obtain ⟨F1, hF1⟩ : ∃ F1, F ++ beN x.kind 2 = F1 := ⟨_, rfl⟩
    rw [hF1] at c1
    have hF1l : F1.length = F.length + 2 := by rw [← hF1, List.length_append, beN_len]
    have c2 := rput_c F1 ((4 + K.length : Nat) : Int) 2 Sz2 (by omega)
    rw [putN_beN hn2] at c2
    obtain ⟨F2, hF2⟩ : ∃ F2, F1 ++ beN ((4 + K.length : Nat) : Int) 2 = F2 := ⟨_, rfl⟩
    rw [hF2] at c2
    have hF2l : F2.length = F.length + 4 := by rw [← hF2, List.length_append, beN_len]; omega
    have hs2 : rwFlat inOne (l.take (i + 1)) = F2 ++ K := by rw [hs, hone, ← hF2, ← hF1]; simp only [List.append_assoc]
    have hs3 : byL F2 ++ byL K = byL (rwFlat inOne (l.take (i + 1))) := by rw [hs2, byL_app]
    have hs4 : (rwFlat inOne (l.take (i + 1))).length = F2.length + K.length := by rw [hs2, List.length_append]
    have w4 : IntKind.i64.wrap (4 + (K.length : Int)) = 4 + (K.length : Int) := wrap_i64 (by omega) (by omega)
    have hbd : F2.length + K.length ≤ 140737488355328 := by omega
    have hfu1 := by_full F F.length rfl
    have hfu2 := by_full F1 F1.length rfl
    have hfu3 := by_full K K.length rfl
    unfold byS at c1 c2
    clear htwo hwr hjr hjn hone hn2 hs hF1 hF2 hF1l hF2l hs2 hkd hfs hnot hr
    obtain ⟨kk, t, v, m, ac⟩ := x
    simp only at *
    rcases inKind_of hokx with k | k | k | k | k <;> (simp only at k; subst k)
    · have ht : numOk t 1 = true := by
        unfold inOk at hokx; simp only at hokx
        rw [numOk_iff]
        have : 0 ≤ t ∧ t < 255 := by simpa using hokx
        exact ⟨this.1, by show t < 256; omega⟩
      have e : inBody ⟨1, t, v, m, ac⟩ = BitVec.ofInt 8 t :: List.replicate 3 0#8 := by unfold inBody; simp only; rw [if_pos (by decide)]
      have c0 := rput_c [] t 1 Sz1 (by simp)
      rw [putN_beN ht, List.nil_append, beN_one] at c0
      have hKl : K.length = 4 := by rw [← hK, e]; rfl
      have hKb : byL K = [.int .u8 (bI (BitVec.ofInt 8 t)), .int .u8 0, .int .u8 0, .int .u8 0] := by rw [← hK, e]; rfl
      have hq2 : byL [BitVec.ofInt 8 t] = [.int .u8 (bI (BitVec.ofInt 8 t))] := rfl
      rw [hq2] at c0
      simp only [byS, byL_nil, List.length_nil, List.length_cons, Nat.zero_add] at c0
      rw [hKl] at c2 hs4 hbd
      rw [hKb] at hs3
      have w8 : IntKind.i64.wrap 8 = 8 := rfl
      clear w4
      clear p hEl ht e hbl hfu3 hK hKl hKb gv gm g6
      repeat' (first
       | refine WK.seq ?_
       | refine WK.block ?_
       | refine WK.inBlock ?_
       | refine WK.skip ?_
       | refine WK.label ?_
       | refine WK.scope ?_
       | refine WK.inScope ?_
       | refine WK.exit rfl ?_
       | refine WK.condT rfl ?_
       | refine WK.condF rfl ?_
       | (refine Hid.h hQ _ _ ?_; clear hQ hA)
       | refine WK.condAny rfl ?_ ?_
       | ((first | refine WK.cond2 rfl (fun h => ?_) (fun h => ?_) | refine Fork.mk (fun h => ?_) (fun h => ?_)) <;> (first | (simp [*] at h; done) | (have h2 := h; simp at h2; exfalso; omega) | (have h2 := h; simp at h2; try simp only [Bool.not_eq_true', Bool.not_eq_false'] at h) | skip))
       | ((first | refine WK.regH Tryz.ntmps24 (by kernel_rfl) ?_ | refine WK.regX (by kernel_rfl) Tryz.ntmps24 (by kernel_rfl) ?_); intro A hA Q hQ; simp [*])
       | (refine Hid.h hQ _ _ _ (by decide +kernel) ?_; clear hQ hA)
       | ((first | refine RunQ.gd rfl (by rw [hA.h]; rfl) ?_ | refine RunX.gd rfl (by rw [hA.h]; rfl) ?_); simp [*])
       | (refine RunQ.callO 901 rfl rfl rfl rfl rfl ?_ (c0) ?_ ?_ ?_ ?_; (focus (simp (maxDischargeDepth := 120) [*]; done)); (focus (simp [*]; done)); (focus (simp [*]; done)); (focus (simp [*]; done)); refine RunQ.evalH ?_; simp [*])
       | (refine RunQW.by (fun hw => ?_); refine RunQ.callO 901 rfl rfl rfl hw rfl ?_ (c0) ?_ ?_ ?_ ?_; (focus (simp (maxDischargeDepth := 120) [*]; done)); (focus (simp [*]; done)); (focus (simp [*]; done)); (focus (simp [*]; done)); clear hw; refine RunQ.evalH ?_; simp [*])
       | (refine RunX.callO 901 rfl rfl rfl rfl ?_ (c0) ?_ ?_ ?_ ?_; (focus (simp (maxDischargeDepth := 120) [*]; done)); (focus (simp [*]; done)); (focus (simp [*]; done)); (focus (simp [*]; done)); refine RunX.evalY ?_; simp [*])
       | (refine RunX.by (fun hw => ?_); refine RunX.callO 901 rfl rfl hw rfl ?_ (c0) ?_ ?_ ?_ ?_; (focus (simp (maxDischargeDepth := 120) [*]; done)); (focus (simp [*]; done)); (focus (simp [*]; done)); (focus (simp [*]; done)); clear hw; refine RunX.evalY ?_; simp [*])
       | (refine RunQ.append 902 appByte rfl rfl rfl rfl rfl rfl rfl rfl rfl ?_ ?_ ?_ ?_ ?_; (focus (first | omega | (simp [*]; done); done)); (focus (first | omega | (simp [*]; done); done)); (focus (first | omega | (simp [*]; done); done)); (focus (first | omega | (simp [*]; done); done)); refine RunQ.evalH ?_; simp [*])
       | (refine RunQW.by (fun hw => ?_); refine RunQ.append 902 appByte rfl rfl rfl rfl rfl rfl rfl hw rfl ?_ ?_ ?_ ?_ ?_; (focus (first | omega | (simp [*]; done); done)); (focus (first | omega | (simp [*]; done); done)); (focus (first | omega | (simp [*]; done); done)); (focus (first | omega | (simp [*]; done); done)); clear hw; refine RunQ.evalH ?_; simp [*])
       | (refine RunX.append 902 appByte rfl rfl rfl rfl rfl rfl rfl rfl ?_ ?_ ?_ ?_ ?_; (focus (first | omega | (simp [*]; done); done)); (focus (first | omega | (simp [*]; done); done)); (focus (first | omega | (simp [*]; done); done)); (focus (first | omega | (simp [*]; done); done)); refine RunX.evalY ?_; simp [*])
       | (refine RunX.by (fun hw => ?_); refine RunX.append 902 appByte rfl rfl rfl rfl rfl rfl rfl hw ?_ ?_ ?_ ?_ ?_; (focus (first | omega | (simp [*]; done); done)); (focus (first | omega | (simp [*]; done); done)); (focus (first | omega | (simp [*]; done); done)); (focus (first | omega | (simp [*]; done); done)); clear hw; refine RunX.evalY ?_; simp [*])
       | (refine RunQ.callOz 903 85 1 rfl rfl rfl rfl rfl rfl rfl ?_ (c1) ?_ ?_ (by simp) (by decide) ?_; (focus (simp (maxDischargeDepth := 120) [*]; done)); (focus (simp [*]; done)); (focus (simp [*]; done)); refine RunQ.evalH ?_; simp [*])
       | (refine RunQW.by (fun hw => ?_); refine RunQ.callOz 903 85 1 rfl rfl hw rfl rfl rfl rfl ?_ (c1) ?_ ?_ (by simp) (by decide) ?_; (focus (simp (maxDischargeDepth := 120) [*]; done)); (focus (simp [*]; done)); (focus (simp [*]; done)); clear hw; refine RunQ.evalH ?_; simp [*])
       | (refine RunX.callOz 903 85 1 rfl rfl rfl rfl rfl rfl ?_ (c1) ?_ ?_ (by simp) (by decide) ?_; (focus (simp (maxDischargeDepth := 120) [*]; done)); (focus (simp [*]; done)); (focus (simp [*]; done)); refine RunX.evalY ?_; simp [*])
       | (refine RunX.by (fun hw => ?_); refine RunX.callOz 903 85 1 rfl rfl hw rfl rfl rfl ?_ (c1) ?_ ?_ (by simp) (by decide) ?_; (focus (simp (maxDischargeDepth := 120) [*]; done)); (focus (simp [*]; done)); (focus (simp [*]; done)); clear hw; refine RunX.evalY ?_; simp [*])
       | (refine RunQ.callOz 904 91 1 rfl rfl rfl rfl rfl rfl rfl ?_ (c2) ?_ ?_ (by simp) (by decide) ?_; (focus (simp (maxDischargeDepth := 120) [*]; done)); (focus (simp [*]; done)); (focus (simp [*]; done)); refine RunQ.evalH ?_; simp [*])
       | (refine RunQW.by (fun hw => ?_); refine RunQ.callOz 904 91 1 rfl rfl hw rfl rfl rfl rfl ?_ (c2) ?_ ?_ (by simp) (by decide) ?_; (focus (simp (maxDischargeDepth := 120) [*]; done)); (focus (simp [*]; done)); (focus (simp [*]; done)); clear hw; refine RunQ.evalH ?_; simp [*])
       | (refine RunX.callOz 904 91 1 rfl rfl rfl rfl rfl rfl ?_ (c2) ?_ ?_ (by simp) (by decide) ?_; (focus (simp (maxDischargeDepth := 120) [*]; done)); (focus (simp [*]; done)); (focus (simp [*]; done)); refine RunX.evalY ?_; simp [*])
       | (refine RunX.by (fun hw => ?_); refine RunX.callOz 904 91 1 rfl rfl hw rfl rfl rfl ?_ (c2) ?_ ?_ (by simp) (by decide) ?_; (focus (simp (maxDischargeDepth := 120) [*]; done)); (focus (simp [*]; done)); (focus (simp [*]; done)); clear hw; refine RunX.evalY ?_; simp [*])
       | (refine RunQ.appendFz 906 appByte rfl rfl rfl rfl rfl rfl rfl rfl rfl rfl ?_ ?_ ?_ ?_ ?_ ?_; (focus (first | omega | (simp [*]; done); done)); (focus (first | omega | (simp [*]; done); done)); (focus (first | omega | (simp [*]; done); done)); (focus (simp [*]; done)); (focus (simp [*]; done)); refine RunQ.evalH ?_; simp [*])
       | (refine RunQW.by (fun hw => ?_); refine RunQ.appendFz 906 appByte rfl rfl rfl rfl rfl rfl rfl rfl hw rfl ?_ ?_ ?_ ?_ ?_ ?_; (focus (first | omega | (simp [*]; done); done)); (focus (first | omega | (simp [*]; done); done)); (focus (first | omega | (simp [*]; done); done)); (focus (simp [*]; done)); (focus (simp [*]; done)); clear hw; refine RunQ.evalH ?_; simp [*])
       | (refine RunX.appendFz 906 appByte rfl rfl rfl rfl rfl rfl rfl rfl rfl ?_ ?_ ?_ ?_ ?_ ?_; (focus (first | omega | (simp [*]; done); done)); (focus (first | omega | (simp [*]; done); done)); (focus (first | omega | (simp [*]; done); done)); (focus (simp [*]; done)); (focus (simp [*]; done)); refine RunX.evalY ?_; simp [*])
       | (refine RunX.by (fun hw => ?_); refine RunX.appendFz 906 appByte rfl rfl rfl rfl rfl rfl rfl rfl hw ?_ ?_ ?_ ?_ ?_ ?_; (focus (first | omega | (simp [*]; done); done)); (focus (first | omega | (simp [*]; done); done)); (focus (first | omega | (simp [*]; done); done)); (focus (simp [*]; done)); (focus (simp [*]; done)); clear hw; refine RunX.evalY ?_; simp [*])
       | ((first | ((first | refine RunQ.call rfl rfl rfl rfl rfl ?_ (hof) ?_ ?_ | refine RunQW.call rfl rfl rfl rfl ?_ (hof) ?_ ?_ | refine RunX.call rfl rfl rfl rfl ?_ (hof) ?_ ?_ | refine RunXW.call rfl rfl rfl ?_ (hof) ?_ ?_); (focus (simp (maxDischargeDepth := 120) [*]; done))) | ((first | refine RunQ.call rfl rfl rfl rfl rfl ?_ (hrc) ?_ ?_ | refine RunQW.call rfl rfl rfl rfl ?_ (hrc) ?_ ?_ | refine RunX.call rfl rfl rfl rfl ?_ (hrc) ?_ ?_ | refine RunXW.call rfl rfl rfl ?_ (hrc) ?_ ?_); (focus (simp (maxDischargeDepth := 120) [*]; done)))); (focus (simp [*]; done)); (first | refine RunQ.evalH ?_ | refine RunX.evalY ?_); simp [*])
       | fail)
      repeat (first | refine WK.seq ?_ | refine WK.block ?_ | refine WK.inBlock ?_ | refine WK.skip ?_ | refine WK.label ?_ | refine WK.scope ?_ | refine WK.inScope ?_ | refine WK.exit rfl ?_)
      refine WK.next (fun n => if n = 1 then 906 else n) (IH (i + 1) (⟨by omega, hj2, hK2⟩) (by first | omega | (dsimp only; omega))) (by repeat (first | exact TmW.nil | refine TmW.upd ?_ (by simp (maxDischargeDepth := 120) [hs3, hs4]))) (by repeat (first | exact BxW.nil | refine BxW.upd ?_ (by simp (maxDischargeDepth := 120) [hs3, hs4]))) (by first | exact InjW.id | exact InjW.nil | exact InjW.one | exact InjW.two (by simp) | exact InjW.three (by simp) (by simp) (by simp))
    · have e : inBody ⟨2, t, v, m, ac⟩ = List.replicate 4 0#8 ++ (beN (wN v) 8 ++ beN (wN m) 8) := by unfold inBody; simp only; rw [if_neg (by decide), if_pos (by decide)]
      have d1 := rwput_c (List.replicate 4 0#8) v 8 (by omega) (by simp)
      rw [wPut_beN _ _ _ (by omega)] at d1
      have d2 := rwput_c (List.replicate 4 0#8 ++ beN (wN v) 8) m 8 (by omega) (by simp [beN_len])
      rw [wPut_beN _ _ _ (by omega), List.append_assoc, ← e, hK] at d2
      have hz : (List.replicate 4 0#8).length = 4 := rfl
      have hll : (List.replicate 4 0#8 ++ beN (wN v) 8).length = 12 := by simp [beN_len]
      obtain ⟨Z1, hZ1⟩ : ∃ F, List.replicate 4 0#8 ++ beN (wN v) 8 = F := ⟨_, rfl⟩
      rw [hZ1] at d1 d2 hll
      have hfu : (byL Z1).take 12 = byL Z1 := by_full _ _ hll.symm
      unfold byS at d1 d2
      rw [hll] at d1 d2
      rw [hz, z4L] at d1
      unfold Wide.enc at d1 d2 gv gm
      clear p hEl e hbl hZ1 hK g1 g6
      repeat' (first
       | refine WK.seq ?_
       | refine WK.block ?_
       | refine WK.inBlock ?_
       | refine WK.skip ?_
       | refine WK.label ?_
       | refine WK.scope ?_
       | refine WK.inScope ?_
       | refine WK.exit rfl ?_
       | refine WK.condT rfl ?_
       | refine WK.condF rfl ?_
       | (refine Hid.h hQ _ _ ?_; clear hQ hA)
       | refine WK.condAny rfl ?_ ?_
       | ((first | refine WK.cond2 rfl (fun h => ?_) (fun h => ?_) | refine Fork.mk (fun h => ?_) (fun h => ?_)) <;> (first | (simp [*] at h; done) | (have h2 := h; simp at h2; exfalso; omega) | (have h2 := h; simp at h2; try simp only [Bool.not_eq_true', Bool.not_eq_false'] at h) | skip))
       | ((first | refine WK.regH Tryz.ntmps24 (by kernel_rfl) ?_ | refine WK.regX (by kernel_rfl) Tryz.ntmps24 (by kernel_rfl) ?_); intro A hA Q hQ; simp [*])
       | (refine Hid.h hQ _ _ _ (by decide +kernel) ?_; clear hQ hA)
       | ((first | refine RunQ.gd rfl (by rw [hA.h]; rfl) ?_ | refine RunX.gd rfl (by rw [hA.h]; rfl) ?_); simp [*])
       | (refine RunQ.callO 901 rfl rfl rfl rfl rfl ?_ (d1) ?_ ?_ ?_ ?_; (focus (simp (maxDischargeDepth := 120) [*]; done)); (focus (simp [*]; done)); (focus (simp [*]; done)); (focus (simp [*]; done)); refine RunQ.evalH ?_; simp [*])
       | (refine RunQW.by (fun hw => ?_); refine RunQ.callO 901 rfl rfl rfl hw rfl ?_ (d1) ?_ ?_ ?_ ?_; (focus (simp (maxDischargeDepth := 120) [*]; done)); (focus (simp [*]; done)); (focus (simp [*]; done)); (focus (simp [*]; done)); clear hw; refine RunQ.evalH ?_; simp [*])
       | (refine RunX.callO 901 rfl rfl rfl rfl ?_ (d1) ?_ ?_ ?_ ?_; (focus (simp (maxDischargeDepth := 120) [*]; done)); (focus (simp [*]; done)); (focus (simp [*]; done)); (focus (simp [*]; done)); refine RunX.evalY ?_; simp [*])
       | (refine RunX.by (fun hw => ?_); refine RunX.callO 901 rfl rfl hw rfl ?_ (d1) ?_ ?_ ?_ ?_; (focus (simp (maxDischargeDepth := 120) [*]; done)); (focus (simp [*]; done)); (focus (simp [*]; done)); (focus (simp [*]; done)); clear hw; refine RunX.evalY ?_; simp [*])
       | (refine RunQ.callOz 902 63 1 rfl rfl rfl rfl rfl rfl rfl ?_ (d2) ?_ ?_ (by simp) (by decide) ?_; (focus (simp (maxDischargeDepth := 120) [*]; done)); (focus (simp [*]; done)); (focus (simp [*]; done)); refine RunQ.evalH ?_; simp [*])
       | (refine RunQW.by (fun hw => ?_); refine RunQ.callOz 902 63 1 rfl rfl hw rfl rfl rfl rfl ?_ (d2) ?_ ?_ (by simp) (by decide) ?_; (focus (simp (maxDischargeDepth := 120) [*]; done)); (focus (simp [*]; done)); (focus (simp [*]; done)); clear hw; refine RunQ.evalH ?_; simp [*])
       | (refine RunX.callOz 902 63 1 rfl rfl rfl rfl rfl rfl ?_ (d2) ?_ ?_ (by simp) (by decide) ?_; (focus (simp (maxDischargeDepth := 120) [*]; done)); (focus (simp [*]; done)); (focus (simp [*]; done)); refine RunX.evalY ?_; simp [*])
       | (refine RunX.by (fun hw => ?_); refine RunX.callOz 902 63 1 rfl rfl hw rfl rfl rfl ?_ (d2) ?_ ?_ (by simp) (by decide) ?_; (focus (simp (maxDischargeDepth := 120) [*]; done)); (focus (simp [*]; done)); (focus (simp [*]; done)); clear hw; refine RunX.evalY ?_; simp [*])
       | (refine RunQ.callOz 903 85 1 rfl rfl rfl rfl rfl rfl rfl ?_ (c1) ?_ ?_ (by simp) (by decide) ?_; (focus (simp (maxDischargeDepth := 120) [*]; done)); (focus (simp [*]; done)); (focus (simp [*]; done)); refine RunQ.evalH ?_; simp [*])
       | (refine RunQW.by (fun hw => ?_); refine RunQ.callOz 903 85 1 rfl rfl hw rfl rfl rfl rfl ?_ (c1) ?_ ?_ (by simp) (by decide) ?_; (focus (simp (maxDischargeDepth := 120) [*]; done)); (focus (simp [*]; done)); (focus (simp [*]; done)); clear hw; refine RunQ.evalH ?_; simp [*])
       | (refine RunX.callOz 903 85 1 rfl rfl rfl rfl rfl rfl ?_ (c1) ?_ ?_ (by simp) (by decide) ?_; (focus (simp (maxDischargeDepth := 120) [*]; done)); (focus (simp [*]; done)); (focus (simp [*]; done)); refine RunX.evalY ?_; simp [*])
       | (refine RunX.by (fun hw => ?_); refine RunX.callOz 903 85 1 rfl rfl hw rfl rfl rfl ?_ (c1) ?_ ?_ (by simp) (by decide) ?_; (focus (simp (maxDischargeDepth := 120) [*]; done)); (focus (simp [*]; done)); (focus (simp [*]; done)); clear hw; refine RunX.evalY ?_; simp [*])
       | (refine RunQ.callOz 904 91 1 rfl rfl rfl rfl rfl rfl rfl ?_ (c2) ?_ ?_ (by simp) (by decide) ?_; (focus (simp (maxDischargeDepth := 120) [*]; done)); (focus (simp [*]; done)); (focus (simp [*]; done)); refine RunQ.evalH ?_; simp [*])
       | (refine RunQW.by (fun hw => ?_); refine RunQ.callOz 904 91 1 rfl rfl hw rfl rfl rfl rfl ?_ (c2) ?_ ?_ (by simp) (by decide) ?_; (focus (simp (maxDischargeDepth := 120) [*]; done)); (focus (simp [*]; done)); (focus (simp [*]; done)); clear hw; refine RunQ.evalH ?_; simp [*])
       | (refine RunX.callOz 904 91 1 rfl rfl rfl rfl rfl rfl ?_ (c2) ?_ ?_ (by simp) (by decide) ?_; (focus (simp (maxDischargeDepth := 120) [*]; done)); (focus (simp [*]; done)); (focus (simp [*]; done)); refine RunX.evalY ?_; simp [*])
       | (refine RunX.by (fun hw => ?_); refine RunX.callOz 904 91 1 rfl rfl hw rfl rfl rfl ?_ (c2) ?_ ?_ (by simp) (by decide) ?_; (focus (simp (maxDischargeDepth := 120) [*]; done)); (focus (simp [*]; done)); (focus (simp [*]; done)); clear hw; refine RunX.evalY ?_; simp [*])
       | (refine RunQ.appendFz 906 appByte rfl rfl rfl rfl rfl rfl rfl rfl rfl rfl ?_ ?_ ?_ ?_ ?_ ?_; (focus (first | omega | (simp [*]; done); done)); (focus (first | omega | (simp [*]; done); done)); (focus (first | omega | (simp [*]; done); done)); (focus (simp [*]; done)); (focus (simp [*]; done)); refine RunQ.evalH ?_; simp [*])
       | (refine RunQW.by (fun hw => ?_); refine RunQ.appendFz 906 appByte rfl rfl rfl rfl rfl rfl rfl rfl hw rfl ?_ ?_ ?_ ?_ ?_ ?_; (focus (first | omega | (simp [*]; done); done)); (focus (first | omega | (simp [*]; done); done)); (focus (first | omega | (simp [*]; done); done)); (focus (simp [*]; done)); (focus (simp [*]; done)); clear hw; refine RunQ.evalH ?_; simp [*])
       | (refine RunX.appendFz 906 appByte rfl rfl rfl rfl rfl rfl rfl rfl rfl ?_ ?_ ?_ ?_ ?_ ?_; (focus (first | omega | (simp [*]; done); done)); (focus (first | omega | (simp [*]; done); done)); (focus (first | omega | (simp [*]; done); done)); (focus (simp [*]; done)); (focus (simp [*]; done)); refine RunX.evalY ?_; simp [*])
       | (refine RunX.by (fun hw => ?_); refine RunX.appendFz 906 appByte rfl rfl rfl rfl rfl rfl rfl rfl hw ?_ ?_ ?_ ?_ ?_ ?_; (focus (first | omega | (simp [*]; done); done)); (focus (first | omega | (simp [*]; done); done)); (focus (first | omega | (simp [*]; done); done)); (focus (simp [*]; done)); (focus (simp [*]; done)); clear hw; refine RunX.evalY ?_; simp [*])
       | ((first | ((first | refine RunQ.call rfl rfl rfl rfl rfl ?_ (hof) ?_ ?_ | refine RunQW.call rfl rfl rfl rfl ?_ (hof) ?_ ?_ | refine RunX.call rfl rfl rfl rfl ?_ (hof) ?_ ?_ | refine RunXW.call rfl rfl rfl ?_ (hof) ?_ ?_); (focus (simp (maxDischargeDepth := 120) [*]; done))) | ((first | refine RunQ.call rfl rfl rfl rfl rfl ?_ (hrc) ?_ ?_ | refine RunQW.call rfl rfl rfl rfl ?_ (hrc) ?_ ?_ | refine RunX.call rfl rfl rfl rfl ?_ (hrc) ?_ ?_ | refine RunXW.call rfl rfl rfl ?_ (hrc) ?_ ?_); (focus (simp (maxDischargeDepth := 120) [*]; done)))); (focus (simp [*]; done)); (first | refine RunQ.evalH ?_ | refine RunX.evalY ?_); simp [*])
       | fail)
      repeat (first | refine WK.seq ?_ | refine WK.block ?_ | refine WK.inBlock ?_ | refine WK.skip ?_ | refine WK.label ?_ | refine WK.scope ?_ | refine WK.inScope ?_ | refine WK.exit rfl ?_)
      refine WK.next (fun n => if n = 1 then 906 else n) (IH (i + 1) (⟨by omega, hj2, hK2⟩) (by first | omega | (dsimp only; omega))) (by repeat (first | exact TmW.nil | refine TmW.upd ?_ (by simp (maxDischargeDepth := 120) [hs3, hs4]))) (by repeat (first | exact BxW.nil | refine BxW.upd ?_ (by simp (maxDischargeDepth := 120) [hs3, hs4]))) (by first | exact InjW.id | exact InjW.nil | exact InjW.one | exact InjW.two (by simp) | exact InjW.three (by simp) (by simp) (by simp))
    · have e : inBody ⟨3, t, v, m, ac⟩ = List.replicate 4 0#8 ++ (acEnc ac).1 := by unfold inBody; simp only; rw [if_neg (by decide), if_neg (by decide), if_pos (by decide)]
      obtain ⟨R, hR⟩ : ∃ R, acEnc ac = R := ⟨_, rfl⟩
      rw [hR] at e p hEl
      obtain ⟨E, ec⟩ := R
      simp only at e p hEl
      simp only [byS, actS] at p
      by_cases hE0 : E = []
      · subst hE0
        have hKl : K.length = 4 := by rw [← hK, e]; rfl
        have hKb : byL K = [.int .u8 0, .int .u8 0, .int .u8 0, .int .u8 0] := by rw [← hK, e]; rfl
        rw [hKl] at c2 hs4 hbd
        rw [hKb] at hs3
        have w8 : IntKind.i64.wrap 8 = 8 := rfl
        simp only [List.length_nil, byL_nil] at p
        clear e hbl hfu3 hK hKl hKb hR gv gm w4 g1
        repeat' (first
         | refine WK.seq ?_
         | refine WK.block ?_
         | refine WK.inBlock ?_
         | refine WK.skip ?_
         | refine WK.label ?_
         | refine WK.scope ?_
         | refine WK.inScope ?_
         | refine WK.exit rfl ?_
         | refine WK.condT rfl ?_
         | refine WK.condF rfl ?_
         | (refine Hid.h hQ _ _ ?_; clear hQ hA)
         | refine WK.condAny rfl ?_ ?_
         | ((first | refine WK.cond2 rfl (fun h => ?_) (fun h => ?_) | refine Fork.mk (fun h => ?_) (fun h => ?_)) <;> (first | (simp [*] at h; done) | (have h2 := h; simp at h2; exfalso; omega) | (have h2 := h; simp at h2; try simp only [Bool.not_eq_true', Bool.not_eq_false'] at h) | skip))
         | ((first | refine WK.regH Tryz.ntmps24 (by kernel_rfl) ?_ | refine WK.regX (by kernel_rfl) Tryz.ntmps24 (by kernel_rfl) ?_); intro A hA Q hQ; simp [*])
         | (refine Hid.h hQ _ _ _ (by decide +kernel) ?_; clear hQ hA)
         | ((first | refine RunQ.gd rfl (by rw [hA.h]; rfl) ?_ | refine RunX.gd rfl (by rw [hA.h]; rfl) ?_); simp [*])
         | (refine RunQ.appendN appByte rfl rfl rfl rfl rfl rfl rfl rfl ?_; refine RunQ.evalH ?_; simp [*])
         | (refine RunQW.by (fun hw => ?_); refine RunQ.appendN appByte rfl rfl rfl rfl rfl rfl hw rfl ?_; clear hw; refine RunQ.evalH ?_; simp [*])
         | (refine RunX.appendN appByte rfl rfl rfl rfl rfl rfl rfl ?_; refine RunX.evalY ?_; simp [*])
         | (refine RunX.by (fun hw => ?_); refine RunX.appendN appByte rfl rfl rfl rfl rfl rfl hw ?_; clear hw; refine RunX.evalY ?_; simp [*])
         | (refine RunQ.callOz 903 85 1 rfl rfl rfl rfl rfl rfl rfl ?_ (c1) ?_ ?_ (by simp) (by decide) ?_; (focus (simp (maxDischargeDepth := 120) [*]; done)); (focus (simp [*]; done)); (focus (simp [*]; done)); refine RunQ.evalH ?_; simp [*])
         | (refine RunQW.by (fun hw => ?_); refine RunQ.callOz 903 85 1 rfl rfl hw rfl rfl rfl rfl ?_ (c1) ?_ ?_ (by simp) (by decide) ?_; (focus (simp (maxDischargeDepth := 120) [*]; done)); (focus (simp [*]; done)); (focus (simp [*]; done)); clear hw; refine RunQ.evalH ?_; simp [*])
         | (refine RunX.callOz 903 85 1 rfl rfl rfl rfl rfl rfl ?_ (c1) ?_ ?_ (by simp) (by decide) ?_; (focus (simp (maxDischargeDepth := 120) [*]; done)); (focus (simp [*]; done)); (focus (simp [*]; done)); refine RunX.evalY ?_; simp [*])
         | (refine RunX.by (fun hw => ?_); refine RunX.callOz 903 85 1 rfl rfl hw rfl rfl rfl ?_ (c1) ?_ ?_ (by simp) (by decide) ?_; (focus (simp (maxDischargeDepth := 120) [*]; done)); (focus (simp [*]; done)); (focus (simp [*]; done)); clear hw; refine RunX.evalY ?_; simp [*])
         | (refine RunQ.callOz 904 91 1 rfl rfl rfl rfl rfl rfl rfl ?_ (c2) ?_ ?_ (by simp) (by decide) ?_; (focus (simp (maxDischargeDepth := 120) [*]; done)); (focus (simp [*]; done)); (focus (simp [*]; done)); refine RunQ.evalH ?_; simp [*])
         | (refine RunQW.by (fun hw => ?_); refine RunQ.callOz 904 91 1 rfl rfl hw rfl rfl rfl rfl ?_ (c2) ?_ ?_ (by simp) (by decide) ?_; (focus (simp (maxDischargeDepth := 120) [*]; done)); (focus (simp [*]; done)); (focus (simp [*]; done)); clear hw; refine RunQ.evalH ?_; simp [*])
         | (refine RunX.callOz 904 91 1 rfl rfl rfl rfl rfl rfl ?_ (c2) ?_ ?_ (by simp) (by decide) ?_; (focus (simp (maxDischargeDepth := 120) [*]; done)); (focus (simp [*]; done)); (focus (simp [*]; done)); refine RunX.evalY ?_; simp [*])
         | (refine RunX.by (fun hw => ?_); refine RunX.callOz 904 91 1 rfl rfl hw rfl rfl rfl ?_ (c2) ?_ ?_ (by simp) (by decide) ?_; (focus (simp (maxDischargeDepth := 120) [*]; done)); (focus (simp [*]; done)); (focus (simp [*]; done)); clear hw; refine RunX.evalY ?_; simp [*])
         | (refine RunQ.append 906 appByte rfl rfl rfl rfl rfl rfl rfl rfl rfl ?_ ?_ ?_ ?_ ?_; (focus (first | omega | (simp [*]; done); done)); (focus (first | omega | (simp [*]; done); done)); (focus (first | omega | (simp [*]; done); done)); (focus (first | omega | (simp [*]; done); done)); refine RunQ.evalH ?_; simp [*])
         | (refine RunQW.by (fun hw => ?_); refine RunQ.append 906 appByte rfl rfl rfl rfl rfl rfl rfl hw rfl ?_ ?_ ?_ ?_ ?_; (focus (first | omega | (simp [*]; done); done)); (focus (first | omega | (simp [*]; done); done)); (focus (first | omega | (simp [*]; done); done)); (focus (first | omega | (simp [*]; done); done)); clear hw; refine RunQ.evalH ?_; simp [*])
         | (refine RunX.append 906 appByte rfl rfl rfl rfl rfl rfl rfl rfl ?_ ?_ ?_ ?_ ?_; (focus (first | omega | (simp [*]; done); done)); (focus (first | omega | (simp [*]; done); done)); (focus (first | omega | (simp [*]; done); done)); (focus (first | omega | (simp [*]; done); done)); refine RunX.evalY ?_; simp [*])
         | (refine RunX.by (fun hw => ?_); refine RunX.append 906 appByte rfl rfl rfl rfl rfl rfl rfl hw ?_ ?_ ?_ ?_ ?_; (focus (first | omega | (simp [*]; done); done)); (focus (first | omega | (simp [*]; done); done)); (focus (first | omega | (simp [*]; done); done)); (focus (first | omega | (simp [*]; done); done)); clear hw; refine RunX.evalY ?_; simp [*])
         | ((first | ((first | refine RunQ.call rfl rfl rfl rfl rfl ?_ (hof) ?_ ?_ | refine RunQW.call rfl rfl rfl rfl ?_ (hof) ?_ ?_ | refine RunX.call rfl rfl rfl rfl ?_ (hof) ?_ ?_ | refine RunXW.call rfl rfl rfl ?_ (hof) ?_ ?_); (focus (simp (maxDischargeDepth := 120) [*]; done))) | ((first | refine RunQ.call rfl rfl rfl rfl rfl ?_ (hrc) ?_ ?_ | refine RunQW.call rfl rfl rfl rfl ?_ (hrc) ?_ ?_ | refine RunX.call rfl rfl rfl rfl ?_ (hrc) ?_ ?_ | refine RunXW.call rfl rfl rfl ?_ (hrc) ?_ ?_); (focus (simp (maxDischargeDepth := 120) [*]; done))) | ((first | refine RunQ.call rfl rfl rfl rfl rfl ?_ (p) ?_ ?_ | refine RunQW.call rfl rfl rfl rfl ?_ (p) ?_ ?_ | refine RunX.call rfl rfl rfl rfl ?_ (p) ?_ ?_ | refine RunXW.call rfl rfl rfl ?_ (p) ?_ ?_); (focus (simp (maxDischargeDepth := 120) [*]; done)))); (focus (simp [*]; done)); (first | refine RunQ.evalH ?_ | refine RunX.evalY ?_); simp [*])
         | fail)
        repeat (first | refine WK.seq ?_ | refine WK.block ?_ | refine WK.inBlock ?_ | refine WK.skip ?_ | refine WK.label ?_ | refine WK.scope ?_ | refine WK.inScope ?_ | refine WK.exit rfl ?_)
        refine WK.next (fun n => if n = 1 then 906 else n) (IH (i + 1) (⟨by omega, hj2, hK2⟩) (by first | omega | (dsimp only; omega))) (by repeat (first | exact TmW.nil | refine TmW.upd ?_ (by simp (maxDischargeDepth := 120) [hs3, hs4]))) (by repeat (first | exact BxW.nil | refine BxW.upd ?_ (by simp (maxDischargeDepth := 120) [hs3, hs4]))) (by first | exact InjW.id | exact InjW.nil | exact InjW.one | exact InjW.two (by simp) | exact InjW.three (by simp) (by simp) (by simp))
      · have hE0 : 0 < E.length := List.length_pos_iff.2 hE0
        have hKl : K.length = 4 + E.length := by rw [← hK, e, List.length_append]; rfl
        have hKb : byL K = .int .u8 0 :: .int .u8 0 :: .int .u8 0 :: .int .u8 0 :: byL E := by rw [← hK, e, byL_app, z4L]; rfl
        have hfe := by_full E E.length rfl
        rw [hKl] at c2 hs4 hbd
        have w8 : IntKind.i64.wrap (4 + (4 + (E.length : Int))) = 4 + (4 + (E.length : Int)) := wrap_i64 (by omega) (by omega)
        clear w4
        rw [hKb] at hs3
        have hbe : 4 + E.length ≤ 140737488355328 := by omega
        have hcomm : E.length + 4 = 4 + E.length := Nat.add_comm _ _
        clear e hbl hfu3 hK hKl hKb hR gv gm g1
        repeat' (first
         | refine WK.seq ?_
         | refine WK.block ?_
         | refine WK.inBlock ?_
         | refine WK.skip ?_
         | refine WK.label ?_
         | refine WK.scope ?_
         | refine WK.inScope ?_
         | refine WK.exit rfl ?_
         | refine WK.condT rfl ?_
         | refine WK.condF rfl ?_
         | (refine Hid.h hQ _ _ ?_; clear hQ hA)
         | refine WK.condAny rfl ?_ ?_
         | ((first | refine WK.cond2 rfl (fun h => ?_) (fun h => ?_) | refine Fork.mk (fun h => ?_) (fun h => ?_)) <;> (first | (simp [*] at h; done) | (have h2 := h; simp at h2; exfalso; omega) | (have h2 := h; simp at h2; try simp only [Bool.not_eq_true', Bool.not_eq_false'] at h) | skip))
         | ((first | refine WK.regH Tryz.ntmps24 (by kernel_rfl) ?_ | refine WK.regX (by kernel_rfl) Tryz.ntmps24 (by kernel_rfl) ?_); intro A hA Q hQ; simp [*])
         | (refine Hid.h hQ _ _ _ (by decide +kernel) ?_; clear hQ hA)
         | ((first | refine RunQ.gd rfl (by rw [hA.h]; rfl) ?_ | refine RunX.gd rfl (by rw [hA.h]; rfl) ?_); simp [*])
         | (refine RunQ.appendF 901 appByte rfl rfl rfl rfl rfl rfl rfl rfl ?_ ?_ ?_ ?_ ?_ ?_ ?_; (focus (first | omega | (simp [*]; done); done)); (focus (first | omega | (simp [*]; done); done)); (focus (first | omega | (simp [*]; done); done)); (focus (first | omega | (simp [*]; done); done)); (focus (first | omega | (simp [*]; done); done)); (focus (simp [*]; done)); refine RunQ.evalH ?_; simp [*])
         | (refine RunQW.by (fun hw => ?_); refine RunQ.appendF 901 appByte rfl rfl rfl rfl rfl rfl hw rfl ?_ ?_ ?_ ?_ ?_ ?_ ?_; (focus (first | omega | (simp [*]; done); done)); (focus (first | omega | (simp [*]; done); done)); (focus (first | omega | (simp [*]; done); done)); (focus (first | omega | (simp [*]; done); done)); (focus (first | omega | (simp [*]; done); done)); (focus (simp [*]; done)); clear hw; refine RunQ.evalH ?_; simp [*])
         | (refine RunX.appendF 901 appByte rfl rfl rfl rfl rfl rfl rfl ?_ ?_ ?_ ?_ ?_ ?_ ?_; (focus (first | omega | (simp [*]; done); done)); (focus (first | omega | (simp [*]; done); done)); (focus (first | omega | (simp [*]; done); done)); (focus (first | omega | (simp [*]; done); done)); (focus (first | omega | (simp [*]; done); done)); (focus (simp [*]; done)); refine RunX.evalY ?_; simp [*])
         | (refine RunX.by (fun hw => ?_); refine RunX.appendF 901 appByte rfl rfl rfl rfl rfl rfl hw ?_ ?_ ?_ ?_ ?_ ?_ ?_; (focus (first | omega | (simp [*]; done); done)); (focus (first | omega | (simp [*]; done); done)); (focus (first | omega | (simp [*]; done); done)); (focus (first | omega | (simp [*]; done); done)); (focus (first | omega | (simp [*]; done); done)); (focus (simp [*]; done)); clear hw; refine RunX.evalY ?_; simp [*])
         | (refine RunQ.callOz 903 85 1 rfl rfl rfl rfl rfl rfl rfl ?_ (c1) ?_ ?_ (by simp) (by decide) ?_; (focus (simp (maxDischargeDepth := 120) [*]; done)); (focus (simp [*]; done)); (focus (simp [*]; done)); refine RunQ.evalH ?_; simp [*])
         | (refine RunQW.by (fun hw => ?_); refine RunQ.callOz 903 85 1 rfl rfl hw rfl rfl rfl rfl ?_ (c1) ?_ ?_ (by simp) (by decide) ?_; (focus (simp (maxDischargeDepth := 120) [*]; done)); (focus (simp [*]; done)); (focus (simp [*]; done)); clear hw; refine RunQ.evalH ?_; simp [*])
         | (refine RunX.callOz 903 85 1 rfl rfl rfl rfl rfl rfl ?_ (c1) ?_ ?_ (by simp) (by decide) ?_; (focus (simp (maxDischargeDepth := 120) [*]; done)); (focus (simp [*]; done)); (focus (simp [*]; done)); refine RunX.evalY ?_; simp [*])
         | (refine RunX.by (fun hw => ?_); refine RunX.callOz 903 85 1 rfl rfl hw rfl rfl rfl ?_ (c1) ?_ ?_ (by simp) (by decide) ?_; (focus (simp (maxDischargeDepth := 120) [*]; done)); (focus (simp [*]; done)); (focus (simp [*]; done)); clear hw; refine RunX.evalY ?_; simp [*])
         | (refine RunQ.callOz 904 91 1 rfl rfl rfl rfl rfl rfl rfl ?_ (c2) ?_ ?_ (by simp) (by decide) ?_; (focus (simp (maxDischargeDepth := 120) [*]; done)); (focus (simp [*]; done)); (focus (simp [*]; done)); refine RunQ.evalH ?_; simp [*])
         | (refine RunQW.by (fun hw => ?_); refine RunQ.callOz 904 91 1 rfl rfl hw rfl rfl rfl rfl ?_ (c2) ?_ ?_ (by simp) (by decide) ?_; (focus (simp (maxDischargeDepth := 120) [*]; done)); (focus (simp [*]; done)); (focus (simp [*]; done)); clear hw; refine RunQ.evalH ?_; simp [*])
         | (refine RunX.callOz 904 91 1 rfl rfl rfl rfl rfl rfl ?_ (c2) ?_ ?_ (by simp) (by decide) ?_; (focus (simp (maxDischargeDepth := 120) [*]; done)); (focus (simp [*]; done)); (focus (simp [*]; done)); refine RunX.evalY ?_; simp [*])
         | (refine RunX.by (fun hw => ?_); refine RunX.callOz 904 91 1 rfl rfl hw rfl rfl rfl ?_ (c2) ?_ ?_ (by simp) (by decide) ?_; (focus (simp (maxDischargeDepth := 120) [*]; done)); (focus (simp [*]; done)); (focus (simp [*]; done)); clear hw; refine RunX.evalY ?_; simp [*])
         | (refine RunQ.appendFz 906 appByte rfl rfl rfl rfl rfl rfl rfl rfl rfl rfl ?_ ?_ ?_ ?_ ?_ ?_; (focus (first | omega | (simp [*]; done); done)); (focus (first | omega | (simp [*]; done); done)); (focus (first | omega | (simp [*]; done); done)); (focus (simp [*]; done)); (focus (simp [*]; done)); refine RunQ.evalH ?_; simp [*])
         | (refine RunQW.by (fun hw => ?_); refine RunQ.appendFz 906 appByte rfl rfl rfl rfl rfl rfl rfl rfl hw rfl ?_ ?_ ?_ ?_ ?_ ?_; (focus (first | omega | (simp [*]; done); done)); (focus (first | omega | (simp [*]; done); done)); (focus (first | omega | (simp [*]; done); done)); (focus (simp [*]; done)); (focus (simp [*]; done)); clear hw; refine RunQ.evalH ?_; simp [*])
         | (refine RunX.appendFz 906 appByte rfl rfl rfl rfl rfl rfl rfl rfl rfl ?_ ?_ ?_ ?_ ?_ ?_; (focus (first | omega | (simp [*]; done); done)); (focus (first | omega | (simp [*]; done); done)); (focus (first | omega | (simp [*]; done); done)); (focus (simp [*]; done)); (focus (simp [*]; done)); refine RunX.evalY ?_; simp [*])
         | (refine RunX.by (fun hw => ?_); refine RunX.appendFz 906 appByte rfl rfl rfl rfl rfl rfl rfl rfl hw ?_ ?_ ?_ ?_ ?_ ?_; (focus (first | omega | (simp [*]; done); done)); (focus (first | omega | (simp [*]; done); done)); (focus (first | omega | (simp [*]; done); done)); (focus (simp [*]; done)); (focus (simp [*]; done)); clear hw; refine RunX.evalY ?_; simp [*])
         | ((first | ((first | refine RunQ.call rfl rfl rfl rfl rfl ?_ (hof) ?_ ?_ | refine RunQW.call rfl rfl rfl rfl ?_ (hof) ?_ ?_ | refine RunX.call rfl rfl rfl rfl ?_ (hof) ?_ ?_ | refine RunXW.call rfl rfl rfl ?_ (hof) ?_ ?_); (focus (simp (maxDischargeDepth := 120) [*]; done))) | ((first | refine RunQ.call rfl rfl rfl rfl rfl ?_ (hrc) ?_ ?_ | refine RunQW.call rfl rfl rfl rfl ?_ (hrc) ?_ ?_ | refine RunX.call rfl rfl rfl rfl ?_ (hrc) ?_ ?_ | refine RunXW.call rfl rfl rfl ?_ (hrc) ?_ ?_); (focus (simp (maxDischargeDepth := 120) [*]; done))) | ((first | refine RunQ.call rfl rfl rfl rfl rfl ?_ (p) ?_ ?_ | refine RunQW.call rfl rfl rfl rfl ?_ (p) ?_ ?_ | refine RunX.call rfl rfl rfl rfl ?_ (p) ?_ ?_ | refine RunXW.call rfl rfl rfl ?_ (p) ?_ ?_); (focus (simp (maxDischargeDepth := 120) [*]; done)))); (focus (simp [*]; done)); (first | refine RunQ.evalH ?_ | refine RunX.evalY ?_); simp [*])
         | fail)
        repeat (first | refine WK.seq ?_ | refine WK.block ?_ | refine WK.inBlock ?_ | refine WK.skip ?_ | refine WK.label ?_ | refine WK.scope ?_ | refine WK.inScope ?_ | refine WK.exit rfl ?_)
        refine WK.next (fun n => if n = 1 then 906 else n) (IH (i + 1) (⟨by omega, hj2, hK2⟩) (by first | omega | (dsimp only; omega))) (by repeat (first | exact TmW.nil | refine TmW.upd ?_ (by simp (maxDischargeDepth := 120) [hs3, hs4]))) (by repeat (first | exact BxW.nil | refine BxW.upd ?_ (by simp (maxDischargeDepth := 120) [hs3, hs4]))) (by first | exact InjW.id | exact InjW.nil | exact InjW.one | exact InjW.two (by simp) | exact InjW.three (by simp) (by simp) (by simp))
    · have e : inBody ⟨4, t, v, m, ac⟩ = List.replicate 4 0#8 ++ (acEnc ac).1 := by unfold inBody; simp only; rw [if_neg (by decide), if_neg (by decide), if_pos (by decide)]
      obtain ⟨R, hR⟩ : ∃ R, acEnc ac = R := ⟨_, rfl⟩
      rw [hR] at e p hEl
      obtain ⟨E, ec⟩ := R
      simp only at e p hEl
      simp only [byS, actS] at p
      by_cases hE0 : E = []
      · subst hE0
        have hKl : K.length = 4 := by rw [← hK, e]; rfl
        have hKb : byL K = [.int .u8 0, .int .u8 0, .int .u8 0, .int .u8 0] := by rw [← hK, e]; rfl
        rw [hKl] at c2 hs4 hbd
        rw [hKb] at hs3
        have w8 : IntKind.i64.wrap 8 = 8 := rfl
        simp only [List.length_nil, byL_nil] at p
        clear e hbl hfu3 hK hKl hKb hR gv gm w4 g1
        repeat' (first
         | refine WK.seq ?_
         | refine WK.block ?_
         | refine WK.inBlock ?_
         | refine WK.skip ?_
         | refine WK.label ?_
         | refine WK.scope ?_
         | refine WK.inScope ?_
         | refine WK.exit rfl ?_
         | refine WK.condT rfl ?_
         | refine WK.condF rfl ?_
         | (refine Hid.h hQ _ _ ?_; clear hQ hA)
         | refine WK.condAny rfl ?_ ?_
         | ((first | refine WK.cond2 rfl (fun h => ?_) (fun h => ?_) | refine Fork.mk (fun h => ?_) (fun h => ?_)) <;> (first | (simp [*] at h; done) | (have h2 := h; simp at h2; exfalso; omega) | (have h2 := h; simp at h2; try simp only [Bool.not_eq_true', Bool.not_eq_false'] at h) | skip))
         | ((first | refine WK.regH Tryz.ntmps24 (by kernel_rfl) ?_ | refine WK.regX (by kernel_rfl) Tryz.ntmps24 (by kernel_rfl) ?_); intro A hA Q hQ; simp [*])
         | (refine Hid.h hQ _ _ _ (by decide +kernel) ?_; clear hQ hA)
         | ((first | refine RunQ.gd rfl (by rw [hA.h]; rfl) ?_ | refine RunX.gd rfl (by rw [hA.h]; rfl) ?_); simp [*])
         | (refine RunQ.appendN appByte rfl rfl rfl rfl rfl rfl rfl rfl ?_; refine RunQ.evalH ?_; simp [*])
         | (refine RunQW.by (fun hw => ?_); refine RunQ.appendN appByte rfl rfl rfl rfl rfl rfl hw rfl ?_; clear hw; refine RunQ.evalH ?_; simp [*])
         | (refine RunX.appendN appByte rfl rfl rfl rfl rfl rfl rfl ?_; refine RunX.evalY ?_; simp [*])
         | (refine RunX.by (fun hw => ?_); refine RunX.appendN appByte rfl rfl rfl rfl rfl rfl hw ?_; clear hw; refine RunX.evalY ?_; simp [*])
         | (refine RunQ.callOz 903 85 1 rfl rfl rfl rfl rfl rfl rfl ?_ (c1) ?_ ?_ (by simp) (by decide) ?_; (focus (simp (maxDischargeDepth := 120) [*]; done)); (focus (simp [*]; done)); (focus (simp [*]; done)); refine RunQ.evalH ?_; simp [*])
         | (refine RunQW.by (fun hw => ?_); refine RunQ.callOz 903 85 1 rfl rfl hw rfl rfl rfl rfl ?_ (c1) ?_ ?_ (by simp) (by decide) ?_; (focus (simp (maxDischargeDepth := 120) [*]; done)); (focus (simp [*]; done)); (focus (simp [*]; done)); clear hw; refine RunQ.evalH ?_; simp [*])
         | (refine RunX.callOz 903 85 1 rfl rfl rfl rfl rfl rfl ?_ (c1) ?_ ?_ (by simp) (by decide) ?_; (focus (simp (maxDischargeDepth := 120) [*]; done)); (focus (simp [*]; done)); (focus (simp [*]; done)); refine RunX.evalY ?_; simp [*])
         | (refine RunX.by (fun hw => ?_); refine RunX.callOz 903 85 1 rfl rfl hw rfl rfl rfl ?_ (c1) ?_ ?_ (by simp) (by decide) ?_; (focus (simp (maxDischargeDepth := 120) [*]; done)); (focus (simp [*]; done)); (focus (simp [*]; done)); clear hw; refine RunX.evalY ?_; simp [*])
         | (refine RunQ.callOz 904 91 1 rfl rfl rfl rfl rfl rfl rfl ?_ (c2) ?_ ?_ (by simp) (by decide) ?_; (focus (simp (maxDischargeDepth := 120) [*]; done)); (focus (simp [*]; done)); (focus (simp [*]; done)); refine RunQ.evalH ?_; simp [*])
         | (refine RunQW.by (fun hw => ?_); refine RunQ.callOz 904 91 1 rfl rfl hw rfl rfl rfl rfl ?_ (c2) ?_ ?_ (by simp) (by decide) ?_; (focus (simp (maxDischargeDepth := 120) [*]; done)); (focus (simp [*]; done)); (focus (simp [*]; done)); clear hw; refine RunQ.evalH ?_; simp [*])
         | (refine RunX.callOz 904 91 1 rfl rfl rfl rfl rfl rfl ?_ (c2) ?_ ?_ (by simp) (by decide) ?_; (focus (simp (maxDischargeDepth := 120) [*]; done)); (focus (simp [*]; done)); (focus (simp [*]; done)); refine RunX.evalY ?_; simp [*])
         | (refine RunX.by (fun hw => ?_); refine RunX.callOz 904 91 1 rfl rfl hw rfl rfl rfl ?_ (c2) ?_ ?_ (by simp) (by decide) ?_; (focus (simp (maxDischargeDepth := 120) [*]; done)); (focus (simp [*]; done)); (focus (simp [*]; done)); clear hw; refine RunX.evalY ?_; simp [*])
         | (refine RunQ.append 906 appByte rfl rfl rfl rfl rfl rfl rfl rfl rfl ?_ ?_ ?_ ?_ ?_; (focus (first | omega | (simp [*]; done); done)); (focus (first | omega | (simp [*]; done); done)); (focus (first | omega | (simp [*]; done); done)); (focus (first | omega | (simp [*]; done); done)); refine RunQ.evalH ?_; simp [*])
         | (refine RunQW.by (fun hw => ?_); refine RunQ.append 906 appByte rfl rfl rfl rfl rfl rfl rfl hw rfl ?_ ?_ ?_ ?_ ?_; (focus (first | omega | (simp [*]; done); done)); (focus (first | omega | (simp [*]; done); done)); (focus (first | omega | (simp [*]; done); done)); (focus (first | omega | (simp [*]; done); done)); clear hw; refine RunQ.evalH ?_; simp [*])
         | (refine RunX.append 906 appByte rfl rfl rfl rfl rfl rfl rfl rfl ?_ ?_ ?_ ?_ ?_; (focus (first | omega | (simp [*]; done); done)); (focus (first | omega | (simp [*]; done); done)); (focus (first | omega | (simp [*]; done); done)); (focus (first | omega | (simp [*]; done); done)); refine RunX.evalY ?_; simp [*])
         | (refine RunX.by (fun hw => ?_); refine RunX.append 906 appByte rfl rfl rfl rfl rfl rfl rfl hw ?_ ?_ ?_ ?_ ?_; (focus (first | omega | (simp [*]; done); done)); (focus (first | omega | (simp [*]; done); done)); (focus (first | omega | (simp [*]; done); done)); (focus (first | omega | (simp [*]; done); done)); clear hw; refine RunX.evalY ?_; simp [*])
         | ((first | ((first | refine RunQ.call rfl rfl rfl rfl rfl ?_ (hof) ?_ ?_ | refine RunQW.call rfl rfl rfl rfl ?_ (hof) ?_ ?_ | refine RunX.call rfl rfl rfl rfl ?_ (hof) ?_ ?_ | refine RunXW.call rfl rfl rfl ?_ (hof) ?_ ?_); (focus (simp (maxDischargeDepth := 120) [*]; done))) | ((first | refine RunQ.call rfl rfl rfl rfl rfl ?_ (hrc) ?_ ?_ | refine RunQW.call rfl rfl rfl rfl ?_ (hrc) ?_ ?_ | refine RunX.call rfl rfl rfl rfl ?_ (hrc) ?_ ?_ | refine RunXW.call rfl rfl rfl ?_ (hrc) ?_ ?_); (focus (simp (maxDischargeDepth := 120) [*]; done))) | ((first | refine RunQ.call rfl rfl rfl rfl rfl ?_ (p) ?_ ?_ | refine RunQW.call rfl rfl rfl rfl ?_ (p) ?_ ?_ | refine RunX.call rfl rfl rfl rfl ?_ (p) ?_ ?_ | refine RunXW.call rfl rfl rfl ?_ (p) ?_ ?_); (focus (simp (maxDischargeDepth := 120) [*]; done)))); (focus (simp [*]; done)); (first | refine RunQ.evalH ?_ | refine RunX.evalY ?_); simp [*])
         | fail)
        repeat (first | refine WK.seq ?_ | refine WK.block ?_ | refine WK.inBlock ?_ | refine WK.skip ?_ | refine WK.label ?_ | refine WK.scope ?_ | refine WK.inScope ?_ | refine WK.exit rfl ?_)
        refine WK.next (fun n => if n = 1 then 906 else n) (IH (i + 1) (⟨by omega, hj2, hK2⟩) (by first | omega | (dsimp only; omega))) (by repeat (first | exact TmW.nil | refine TmW.upd ?_ (by simp (maxDischargeDepth := 120) [hs3, hs4]))) (by repeat (first | exact BxW.nil | refine BxW.upd ?_ (by simp (maxDischargeDepth := 120) [hs3, hs4]))) (by first | exact InjW.id | exact InjW.nil | exact InjW.one | exact InjW.two (by simp) | exact InjW.three (by simp) (by simp) (by simp))
      · have hE0 : 0 < E.length := List.length_pos_iff.2 hE0
        have hKl : K.length = 4 + E.length := by rw [← hK, e, List.length_append]; rfl
        have hKb : byL K = .int .u8 0 :: .int .u8 0 :: .int .u8 0 :: .int .u8 0 :: byL E := by rw [← hK, e, byL_app, z4L]; rfl
        have hfe := by_full E E.length rfl
        rw [hKl] at c2 hs4 hbd
        have w8 : IntKind.i64.wrap (4 + (4 + (E.length : Int))) = 4 + (4 + (E.length : Int)) := wrap_i64 (by omega) (by omega)
        clear w4
        rw [hKb] at hs3
        have hbe : 4 + E.length ≤ 140737488355328 := by omega
        have hcomm : E.length + 4 = 4 + E.length := Nat.add_comm _ _
        clear e hbl hfu3 hK hKl hKb hR gv gm g1
        repeat' (first
         | refine WK.seq ?_
         | refine WK.block ?_
         | refine WK.inBlock ?_
         | refine WK.skip ?_
         | refine WK.label ?_
         | refine WK.scope ?_
         | refine WK.inScope ?_
         | refine WK.exit rfl ?_
         | refine WK.condT rfl ?_
         | refine WK.condF rfl ?_
         | (refine Hid.h hQ _ _ ?_; clear hQ hA)
         | refine WK.condAny rfl ?_ ?_
         | ((first | refine WK.cond2 rfl (fun h => ?_) (fun h => ?_) | refine Fork.mk (fun h => ?_) (fun h => ?_)) <;> (first | (simp [*] at h; done) | (have h2 := h; simp at h2; exfalso; omega) | (have h2 := h; simp at h2; try simp only [Bool.not_eq_true', Bool.not_eq_false'] at h) | skip))
         | ((first | refine WK.regH Tryz.ntmps24 (by kernel_rfl) ?_ | refine WK.regX (by kernel_rfl) Tryz.ntmps24 (by kernel_rfl) ?_); intro A hA Q hQ; simp [*])
         | (refine Hid.h hQ _ _ _ (by decide +kernel) ?_; clear hQ hA)
         | ((first | refine RunQ.gd rfl (by rw [hA.h]; rfl) ?_ | refine RunX.gd rfl (by rw [hA.h]; rfl) ?_); simp [*])
         | (refine RunQ.appendF 901 appByte rfl rfl rfl rfl rfl rfl rfl rfl ?_ ?_ ?_ ?_ ?_ ?_ ?_; (focus (first | omega | (simp [*]; done); done)); (focus (first | omega | (simp [*]; done); done)); (focus (first | omega | (simp [*]; done); done)); (focus (first | omega | (simp [*]; done); done)); (focus (first | omega | (simp [*]; done); done)); (focus (simp [*]; done)); refine RunQ.evalH ?_; simp [*])
         | (refine RunQW.by (fun hw => ?_); refine RunQ.appendF 901 appByte rfl rfl rfl rfl rfl rfl hw rfl ?_ ?_ ?_ ?_ ?_ ?_ ?_; (focus (first | omega | (simp [*]; done); done)); (focus (first | omega | (simp [*]; done); done)); (focus (first | omega | (simp [*]; done); done)); (focus (first | omega | (simp [*]; done); done)); (focus (first | omega | (simp [*]; done); done)); (focus (simp [*]; done)); clear hw; refine RunQ.evalH ?_; simp [*])
         | (refine RunX.appendF 901 appByte rfl rfl rfl rfl rfl rfl rfl ?_ ?_ ?_ ?_ ?_ ?_ ?_; (focus (first | omega | (simp [*]; done); done)); (focus (first | omega | (simp [*]; done); done)); (focus (first | omega | (simp [*]; done); done)); (focus (first | omega | (simp [*]; done); done)); (focus (first | omega | (simp [*]; done); done)); (focus (simp [*]; done)); refine RunX.evalY ?_; simp [*])
         | (refine RunX.by (fun hw => ?_); refine RunX.appendF 901 appByte rfl rfl rfl rfl rfl rfl hw ?_ ?_ ?_ ?_ ?_ ?_ ?_; (focus (first | omega | (simp [*]; done); done)); (focus (first | omega | (simp [*]; done); done)); (focus (first | omega | (simp [*]; done); done)); (focus (first | omega | (simp [*]; done); done)); (focus (first | omega | (simp [*]; done); done)); (focus (simp [*]; done)); clear hw; refine RunX.evalY ?_; simp [*])
         | (refine RunQ.callOz 903 85 1 rfl rfl rfl rfl rfl rfl rfl ?_ (c1) ?_ ?_ (by simp) (by decide) ?_; (focus (simp (maxDischargeDepth := 120) [*]; done)); (focus (simp [*]; done)); (focus (simp [*]; done)); refine RunQ.evalH ?_; simp [*])
         | (refine RunQW.by (fun hw => ?_); refine RunQ.callOz 903 85 1 rfl rfl hw rfl rfl rfl rfl ?_ (c1) ?_ ?_ (by simp) (by decide) ?_; (focus (simp (maxDischargeDepth := 120) [*]; done)); (focus (simp [*]; done)); (focus (simp [*]; done)); clear hw; refine RunQ.evalH ?_; simp [*])
         | (refine RunX.callOz 903 85 1 rfl rfl rfl rfl rfl rfl ?_ (c1) ?_ ?_ (by simp) (by decide) ?_; (focus (simp (maxDischargeDepth := 120) [*]; done)); (focus (simp [*]; done)); (focus (simp [*]; done)); refine RunX.evalY ?_; simp [*])
         | (refine RunX.by (fun hw => ?_); refine RunX.callOz 903 85 1 rfl rfl hw rfl rfl rfl ?_ (c1) ?_ ?_ (by simp) (by decide) ?_; (focus (simp (maxDischargeDepth := 120) [*]; done)); (focus (simp [*]; done)); (focus (simp [*]; done)); clear hw; refine RunX.evalY ?_; simp [*])
         | (refine RunQ.callOz 904 91 1 rfl rfl rfl rfl rfl rfl rfl ?_ (c2) ?_ ?_ (by simp) (by decide) ?_; (focus (simp (maxDischargeDepth := 120) [*]; done)); (focus (simp [*]; done)); (focus (simp [*]; done)); refine RunQ.evalH ?_; simp [*])
         | (refine RunQW.by (fun hw => ?_); refine RunQ.callOz 904 91 1 rfl rfl hw rfl rfl rfl rfl ?_ (c2) ?_ ?_ (by simp) (by decide) ?_; (focus (simp (maxDischargeDepth := 120) [*]; done)); (focus (simp [*]; done)); (focus (simp [*]; done)); clear hw; refine RunQ.evalH ?_; simp [*])
         | (refine RunX.callOz 904 91 1 rfl rfl rfl rfl rfl rfl ?_ (c2) ?_ ?_ (by simp) (by decide) ?_; (focus (simp (maxDischargeDepth := 120) [*]; done)); (focus (simp [*]; done)); (focus (simp [*]; done)); refine RunX.evalY ?_; simp [*])
         | (refine RunX.by (fun hw => ?_); refine RunX.callOz 904 91 1 rfl rfl hw rfl rfl rfl ?_ (c2) ?_ ?_ (by simp) (by decide) ?_; (focus (simp (maxDischargeDepth := 120) [*]; done)); (focus (simp [*]; done)); (focus (simp [*]; done)); clear hw; refine RunX.evalY ?_; simp [*])
         | (refine RunQ.appendFz 906 appByte rfl rfl rfl rfl rfl rfl rfl rfl rfl rfl ?_ ?_ ?_ ?_ ?_ ?_; (focus (first | omega | (simp [*]; done); done)); (focus (first | omega | (simp [*]; done); done)); (focus (first | omega | (simp [*]; done); done)); (focus (simp [*]; done)); (focus (simp [*]; done)); refine RunQ.evalH ?_; simp [*])
         | (refine RunQW.by (fun hw => ?_); refine RunQ.appendFz 906 appByte rfl rfl rfl rfl rfl rfl rfl rfl hw rfl ?_ ?_ ?_ ?_ ?_ ?_; (focus (first | omega | (simp [*]; done); done)); (focus (first | omega | (simp [*]; done); done)); (focus (first | omega | (simp [*]; done); done)); (focus (simp [*]; done)); (focus (simp [*]; done)); clear hw; refine RunQ.evalH ?_; simp [*])
         | (refine RunX.appendFz 906 appByte rfl rfl rfl rfl rfl rfl rfl rfl rfl ?_ ?_ ?_ ?_ ?_ ?_; (focus (first | omega | (simp [*]; done); done)); (focus (first | omega | (simp [*]; done); done)); (focus (first | omega | (simp [*]; done); done)); (focus (simp [*]; done)); (focus (simp [*]; done)); refine RunX.evalY ?_; simp [*])
         | (refine RunX.by (fun hw => ?_); refine RunX.appendFz 906 appByte rfl rfl rfl rfl rfl rfl rfl rfl hw ?_ ?_ ?_ ?_ ?_ ?_; (focus (first | omega | (simp [*]; done); done)); (focus (first | omega | (simp [*]; done); done)); (focus (first | omega | (simp [*]; done); done)); (focus (simp [*]; done)); (focus (simp [*]; done)); clear hw; refine RunX.evalY ?_; simp [*])
         | ((first | ((first | refine RunQ.call rfl rfl rfl rfl rfl ?_ (hof) ?_ ?_ | refine RunQW.call rfl rfl rfl rfl ?_ (hof) ?_ ?_ | refine RunX.call rfl rfl rfl rfl ?_ (hof) ?_ ?_ | refine RunXW.call rfl rfl rfl ?_ (hof) ?_ ?_); (focus (simp (maxDischargeDepth := 120) [*]; done))) | ((first | refine RunQ.call rfl rfl rfl rfl rfl ?_ (hrc) ?_ ?_ | refine RunQW.call rfl rfl rfl rfl ?_ (hrc) ?_ ?_ | refine RunX.call rfl rfl rfl rfl ?_ (hrc) ?_ ?_ | refine RunXW.call rfl rfl rfl ?_ (hrc) ?_ ?_); (focus (simp (maxDischargeDepth := 120) [*]; done))) | ((first | refine RunQ.call rfl rfl rfl rfl rfl ?_ (p) ?_ ?_ | refine RunQW.call rfl rfl rfl rfl ?_ (p) ?_ ?_ | refine RunX.call rfl rfl rfl rfl ?_ (p) ?_ ?_ | refine RunXW.call rfl rfl rfl ?_ (p) ?_ ?_); (focus (simp (maxDischargeDepth := 120) [*]; done)))); (focus (simp [*]; done)); (first | refine RunQ.evalH ?_ | refine RunX.evalY ?_); simp [*])
         | fail)
        repeat (first | refine WK.seq ?_ | refine WK.block ?_ | refine WK.inBlock ?_ | refine WK.skip ?_ | refine WK.label ?_ | refine WK.scope ?_ | refine WK.inScope ?_ | refine WK.exit rfl ?_)
        refine WK.next (fun n => if n = 1 then 906 else n) (IH (i + 1) (⟨by omega, hj2, hK2⟩) (by first | omega | (dsimp only; omega))) (by repeat (first | exact TmW.nil | refine TmW.upd ?_ (by simp (maxDischargeDepth := 120) [hs3, hs4]))) (by repeat (first | exact BxW.nil | refine BxW.upd ?_ (by simp (maxDischargeDepth := 120) [hs3, hs4]))) (by first | exact InjW.id | exact InjW.nil | exact InjW.one | exact InjW.two (by simp) | exact InjW.three (by simp) (by simp) (by simp))
    · have e : inBody ⟨5, t, v, m, ac⟩ = List.replicate 4 0#8 := by unfold inBody; simp only; rw [if_neg (by decide), if_neg (by decide), if_neg (by decide)]
      have hKl : K.length = 4 := by rw [← hK, e]; rfl
      have hKb : byL K = [.int .u8 0, .int .u8 0, .int .u8 0, .int .u8 0] := by rw [← hK, e]; rfl
      rw [hKl] at c2 hs4 hbd
      rw [hKb] at hs3
      have w8 : IntKind.i64.wrap 8 = 8 := rfl
      clear e hbl hfu3 hK hKl hKb gv gm w4 g1 g6 p hEl
      repeat' (first
       | refine WK.seq ?_
       | refine WK.block ?_
       | refine WK.inBlock ?_
       | refine WK.skip ?_
       | refine WK.label ?_
       | refine WK.scope ?_
       | refine WK.inScope ?_
       | refine WK.exit rfl ?_
       | refine WK.condT rfl ?_
       | refine WK.condF rfl ?_
       | (refine Hid.h hQ _ _ ?_; clear hQ hA)
       | refine WK.condAny rfl ?_ ?_
       | ((first | refine WK.cond2 rfl (fun h => ?_) (fun h => ?_) | refine Fork.mk (fun h => ?_) (fun h => ?_)) <;> (first | (simp [*] at h; done) | (have h2 := h; simp at h2; exfalso; omega) | (have h2 := h; simp at h2; try simp only [Bool.not_eq_true', Bool.not_eq_false'] at h) | skip))
       | ((first | refine WK.regH Tryz.ntmps24 (by kernel_rfl) ?_ | refine WK.regX (by kernel_rfl) Tryz.ntmps24 (by kernel_rfl) ?_); intro A hA Q hQ; simp [*])
       | (refine Hid.h hQ _ _ _ (by decide +kernel) ?_; clear hQ hA)
       | ((first | refine RunQ.gd rfl (by rw [hA.h]; rfl) ?_ | refine RunX.gd rfl (by rw [hA.h]; rfl) ?_); simp [*])
       | (refine RunQ.callOz 903 85 1 rfl rfl rfl rfl rfl rfl rfl ?_ (c1) ?_ ?_ (by simp) (by decide) ?_; (focus (simp (maxDischargeDepth := 120) [*]; done)); (focus (simp [*]; done)); (focus (simp [*]; done)); refine RunQ.evalH ?_; simp [*])
       | (refine RunQW.by (fun hw => ?_); refine RunQ.callOz 903 85 1 rfl rfl hw rfl rfl rfl rfl ?_ (c1) ?_ ?_ (by simp) (by decide) ?_; (focus (simp (maxDischargeDepth := 120) [*]; done)); (focus (simp [*]; done)); (focus (simp [*]; done)); clear hw; refine RunQ.evalH ?_; simp [*])
       | (refine RunX.callOz 903 85 1 rfl rfl rfl rfl rfl rfl ?_ (c1) ?_ ?_ (by simp) (by decide) ?_; (focus (simp (maxDischargeDepth := 120) [*]; done)); (focus (simp [*]; done)); (focus (simp [*]; done)); refine RunX.evalY ?_; simp [*])
       | (refine RunX.by (fun hw => ?_); refine RunX.callOz 903 85 1 rfl rfl hw rfl rfl rfl ?_ (c1) ?_ ?_ (by simp) (by decide) ?_; (focus (simp (maxDischargeDepth := 120) [*]; done)); (focus (simp [*]; done)); (focus (simp [*]; done)); clear hw; refine RunX.evalY ?_; simp [*])
       | (refine RunQ.callOz 904 91 1 rfl rfl rfl rfl rfl rfl rfl ?_ (c2) ?_ ?_ (by simp) (by decide) ?_; (focus (simp (maxDischargeDepth := 120) [*]; done)); (focus (simp [*]; done)); (focus (simp [*]; done)); refine RunQ.evalH ?_; simp [*])
       | (refine RunQW.by (fun hw => ?_); refine RunQ.callOz 904 91 1 rfl rfl hw rfl rfl rfl rfl ?_ (c2) ?_ ?_ (by simp) (by decide) ?_; (focus (simp (maxDischargeDepth := 120) [*]; done)); (focus (simp [*]; done)); (focus (simp [*]; done)); clear hw; refine RunQ.evalH ?_; simp [*])
       | (refine RunX.callOz 904 91 1 rfl rfl rfl rfl rfl rfl ?_ (c2) ?_ ?_ (by simp) (by decide) ?_; (focus (simp (maxDischargeDepth := 120) [*]; done)); (focus (simp [*]; done)); (focus (simp [*]; done)); refine RunX.evalY ?_; simp [*])
       | (refine RunX.by (fun hw => ?_); refine RunX.callOz 904 91 1 rfl rfl hw rfl rfl rfl ?_ (c2) ?_ ?_ (by simp) (by decide) ?_; (focus (simp (maxDischargeDepth := 120) [*]; done)); (focus (simp [*]; done)); (focus (simp [*]; done)); clear hw; refine RunX.evalY ?_; simp [*])
       | (refine RunQ.append 906 appByte rfl rfl rfl rfl rfl rfl rfl rfl rfl ?_ ?_ ?_ ?_ ?_; (focus (first | omega | (simp [*]; done); done)); (focus (first | omega | (simp [*]; done); done)); (focus (first | omega | (simp [*]; done); done)); (focus (first | omega | (simp [*]; done); done)); refine RunQ.evalH ?_; simp [*])
       | (refine RunQW.by (fun hw => ?_); refine RunQ.append 906 appByte rfl rfl rfl rfl rfl rfl rfl hw rfl ?_ ?_ ?_ ?_ ?_; (focus (first | omega | (simp [*]; done); done)); (focus (first | omega | (simp [*]; done); done)); (focus (first | omega | (simp [*]; done); done)); (focus (first | omega | (simp [*]; done); done)); clear hw; refine RunQ.evalH ?_; simp [*])
       | (refine RunX.append 906 appByte rfl rfl rfl rfl rfl rfl rfl rfl ?_ ?_ ?_ ?_ ?_; (focus (first | omega | (simp [*]; done); done)); (focus (first | omega | (simp [*]; done); done)); (focus (first | omega | (simp [*]; done); done)); (focus (first | omega | (simp [*]; done); done)); refine RunX.evalY ?_; simp [*])
       | (refine RunX.by (fun hw => ?_); refine RunX.append 906 appByte rfl rfl rfl rfl rfl rfl rfl hw ?_ ?_ ?_ ?_ ?_; (focus (first | omega | (simp [*]; done); done)); (focus (first | omega | (simp [*]; done); done)); (focus (first | omega | (simp [*]; done); done)); (focus (first | omega | (simp [*]; done); done)); clear hw; refine RunX.evalY ?_; simp [*])
       | ((first | ((first | refine RunQ.call rfl rfl rfl rfl rfl ?_ (hof) ?_ ?_ | refine RunQW.call rfl rfl rfl rfl ?_ (hof) ?_ ?_ | refine RunX.call rfl rfl rfl rfl ?_ (hof) ?_ ?_ | refine RunXW.call rfl rfl rfl ?_ (hof) ?_ ?_); (focus (simp (maxDischargeDepth := 120) [*]; done))) | ((first | refine RunQ.call rfl rfl rfl rfl rfl ?_ (hrc) ?_ ?_ | refine RunQW.call rfl rfl rfl rfl ?_ (hrc) ?_ ?_ | refine RunX.call rfl rfl rfl rfl ?_ (hrc) ?_ ?_ | refine RunXW.call rfl rfl rfl ?_ (hrc) ?_ ?_); (focus (simp (maxDischargeDepth := 120) [*]; done)))); (focus (simp [*]; done)); (first | refine RunQ.evalH ?_ | refine RunX.evalY ?_); simp [*])
       | fail)
      repeat (first | refine WK.seq ?_ | refine WK.block ?_ | refine WK.inBlock ?_ | refine WK.skip ?_ | refine WK.label ?_ | refine WK.scope ?_ | refine WK.inScope ?_ | refine WK.exit rfl ?_)
      refine WK.next (fun n => if n = 1 then 906 else n) (IH (i + 1) (⟨by omega, hj2, hK2⟩) (by first | omega | (dsimp only; omega))) (by repeat (first | exact TmW.nil | refine TmW.upd ?_ (by simp (maxDischargeDepth := 120) [hs3, hs4]))) (by repeat (first | exact BxW.nil | refine BxW.upd ?_ (by simp (maxDischargeDepth := 120) [hs3, hs4]))) (by first | exact InjW.id | exact InjW.nil | exact InjW.one | exact InjW.two (by simp) | exact InjW.three (by simp) (by simp) (by simp))
  · have hT : l.take i = l := List.take_of_length_le (by omega)
    have hfit : inFit l = true := inFit_of (fun j hj => hi.2.1 j (by omega)) (by have := hi.2.2; rwa [hT] at this)
    have hdef : inEnc l = if (rwFlat inOne l).length ≤ 60000 then (rwFlat inOne l, 0) else ([], 1) := by
      unfold inEnc
      by_cases hh : (rwFlat inOne l).length ≤ 60000
      · rw [if_pos hh, if_pos ⟨hfit, hh⟩]
      · rw [if_neg hh, if_neg fun h => hh h.2]
    rw [hT] at hfl ⊢
    obtain ⟨F, hF⟩ : ∃ F, rwFlat inOne l = F := ⟨_, rfl⟩
    rw [hF] at hdef hfl ⊢
    by_cases h6 : F.length ≤ 60000
    · have j6 : ¬ (60000 : Int) < F.length := by omega
      rw [if_pos h6] at hdef
      rw [hdef]
      clear hF hdef hi hfit
      repeat' (first
       | refine WK.seq ?_
       | refine WK.block ?_
       | refine WK.inBlock ?_
       | refine WK.skip ?_
       | refine WK.label ?_
       | refine WK.scope ?_
       | refine WK.inScope ?_
       | refine WK.exit rfl ?_
       | refine WK.condT rfl ?_
       | refine WK.condF rfl ?_
       | (refine Hid.h hQ _ _ ?_; clear hQ hA)
       | refine WK.condAny rfl ?_ ?_
       | ((first | refine WK.cond2 rfl (fun h => ?_) (fun h => ?_) | refine Fork.mk (fun h => ?_) (fun h => ?_)) <;> (first | (simp [*] at h; done) | (have h2 := h; simp at h2; exfalso; omega) | (have h2 := h; simp at h2; try simp only [Bool.not_eq_true', Bool.not_eq_false'] at h) | skip))
       | ((first | refine WK.regH Tryz.ntmps24 (by kernel_rfl) ?_ | refine WK.regX (by kernel_rfl) Tryz.ntmps24 (by kernel_rfl) ?_); intro A hA Q hQ; simp [*])
       | (refine Hid.h hQ _ _ _ (by decide +kernel) ?_; clear hQ hA)
       | ((first | refine RunQ.gd rfl (by rw [hA.h]; rfl) ?_ | refine RunX.gd rfl (by rw [hA.h]; rfl) ?_); simp [*])
       | (refine WK.retT2 Tryz.func24 ?_ ?_ ?_ <;> simp (maxDischargeDepth := 120) [Tryz.results24, *])
       | fail)
    · have j6 : (60000 : Int) < F.length := by omega
      rw [if_neg h6] at hdef
      rw [hdef]
      clear hF hdef hi hfit
      repeat' (first
       | refine WK.seq ?_
       | refine WK.block ?_
       | refine WK.inBlock ?_
       | refine WK.skip ?_
       | refine WK.label ?_
       | refine WK.scope ?_
       | refine WK.inScope ?_
       | refine WK.exit rfl ?_
       | refine WK.condT rfl ?_
       | refine WK.condF rfl ?_
       | (refine Hid.h hQ _ _ ?_; clear hQ hA)
       | refine WK.condAny rfl ?_ ?_
       | ((first | refine WK.cond2 rfl (fun h => ?_) (fun h => ?_) | refine Fork.mk (fun h => ?_) (fun h => ?_)) <;> (first | (simp [*] at h; done) | (have h2 := h; simp at h2; exfalso; omega) | (have h2 := h; simp at h2; try simp only [Bool.not_eq_true', Bool.not_eq_false'] at h) | skip))
       | ((first | refine WK.regH Tryz.ntmps24 (by kernel_rfl) ?_ | refine WK.regX (by kernel_rfl) Tryz.ntmps24 (by kernel_rfl) ?_); intro A hA Q hQ; simp [*])
       | (refine Hid.h hQ _ _ _ (by decide +kernel) ?_; clear hQ hA)
       | ((first | refine RunQ.gd rfl (by rw [hA.h]; rfl) ?_ | refine RunX.gd rfl (by rw [hA.h]; rfl) ?_); simp [*])
       | fail)
      repeat (first | refine WK.seq ?_ | refine WK.block ?_ | refine WK.inBlock ?_ | refine WK.skip ?_ | refine WK.label ?_ | refine WK.scope ?_ | refine WK.inScope ?_ | refine WK.exit rfl ?_)
      refine WK.ghost (Ghost.own 2 907 1 rfl rfl) ?_
      repeat (first | refine WK.seq ?_ | refine WK.block ?_ | refine WK.inBlock ?_ | refine WK.skip ?_ | refine WK.label ?_ | refine WK.scope ?_ | refine WK.inScope ?_ | refine WK.exit rfl ?_)
      refine WK.retT2 Tryz.func24 ?_ ?_ ?_ <;> simp (maxDischargeDepth := 120) [Tryz.results24, byL_nil]
end Go.Proofs.YteonfhnljphbpaaGreat
end

section
set_option linter.unusedVariables false
set_option linter.unusedSimpArgs false
namespace Go.Proofs.YteonfhnljphbpaaGreat
open Go Go.AI Go.Proofs
attribute [local irreducible] FnP FnO FnB FnT FnSeq WK RunQ RunQW RunX RunXW

theorem riencP_c (l : List Inst) (hl : l.length ≤ 100) (ha : ∀ x, x ∈ l → x.acts.length ≤ 1000000) : FnP Tryz.prog 24 [instS l] (.tup [byS (inEnc l).1, .int .i64 (inEnc l).2]) := by
  have h := (rienc_c l hl ha).toP (by simp [byL_take]) (by rfl)
  rwa [Nat.mul_one, by_full _ _ rfl] at h
theorem iwrong_c (i : Inst) (hi : i.acts.length ≤ 1000000) : FnP Tryz.prog 30 [.agg i.enc] (.bool false) := by
  have p := iright_c i hi
  have q := riright_c i hi
  obtain ⟨r, hr⟩ : ∃ r, inRight i = r := ⟨_, rfl⟩
  rw [hr] at p q
  refine FnP.intro Tryz.func30 rfl rfl fun G w => ?_
  cases r <;>
  · repeat' (first
     | refine WK.seq ?_
     | refine WK.block ?_
     | refine WK.inBlock ?_
     | refine WK.skip ?_
     | refine WK.label ?_
     | refine WK.scope ?_
     | refine WK.inScope ?_
     | refine WK.exit rfl ?_
     | refine WK.condT rfl ?_
     | refine WK.condF rfl ?_
     | (refine Hid.h hQ _ _ ?_; clear hQ hA)
     | refine WK.condAny rfl ?_ ?_
     | ((first | refine WK.cond2 rfl (fun h => ?_) (fun h => ?_)) <;> (first | (simp [*] at h; done) | (have h2 := h; simp at h2; exfalso; omega) | (have h2 := h; simp at h2; try simp only [Bool.not_eq_true', Bool.not_eq_false'] at h) | skip))
     | ((first | refine WK.regH Tryz.ntmps30 (by kernel_rfl) ?_ | refine WK.regX (by kernel_rfl) Tryz.ntmps30 (by kernel_rfl) ?_); intro A hA Q hQ; simp [bne, *])
     | (refine Hid.h hQ _ _ _ (by decide +kernel) ?_; clear hQ hA)
     | ((first | ((first | refine RunQ.call rfl rfl rfl rfl rfl ?_ (p) ?_ ?_ | refine RunX.call rfl rfl rfl rfl ?_ (p) ?_ ?_); (focus (simp (maxDischargeDepth := 120) [bne, *]; done))) | ((first | refine RunQ.call rfl rfl rfl rfl rfl ?_ (q) ?_ ?_ | refine RunX.call rfl rfl rfl rfl ?_ (q) ?_ ?_); (focus (simp (maxDischargeDepth := 120) [bne, *]; done)))); (focus (simp [bne, *]; done)); (first | refine RunQ.evalH ?_ | refine RunX.evalY ?_); simp [bne, *])
     | (refine WK.ret Tryz.func30 ?_ ?_ <;> simp (maxDischargeDepth := 120) [Tryz.results30, bne, *])
     | fail)
theorem ione1_c (i : Inst) : FnP Tryz.prog 27 [.agg i.enc] (instS [i]) := by
  unfold instS
  refine FnP.intro Tryz.func27 rfl rfl fun G w => ?_
  repeat' (first
   | refine WK.seq ?_
   | refine WK.block ?_
   | refine WK.inBlock ?_
   | refine WK.skip ?_
   | refine WK.label ?_
   | refine WK.scope ?_
   | refine WK.inScope ?_
   | refine WK.exit rfl ?_
   | refine WK.condT rfl ?_
   | refine WK.condF rfl ?_
   | (refine Hid.h hQ _ _ ?_; clear hQ hA)
   | refine WK.condAny rfl ?_ ?_
   | ((first | refine WK.cond2 rfl (fun h => ?_) (fun h => ?_)) <;> (first | (simp [*] at h; done) | (have h2 := h; simp at h2; exfalso; omega) | (have h2 := h; simp at h2; try simp only [Bool.not_eq_true', Bool.not_eq_false'] at h) | skip))
   | (refine WK.regH Tryz.ntmps27 (by kernel_rfl) ?_; intro A hA Q hQ; simp [*])
   | (refine WK.ret Tryz.func27 ?_ ?_ <;> simp (maxDischargeDepth := 120) [Tryz.results27, instL, Inst.enc, *])
   | fail)
theorem inFind_acts {l : List Inst} {k : Int} (ha : ∀ x, x ∈ l → x.acts.length ≤ 1000000) : (inFind l k).1.acts.length ≤ 1000000 := by
  unfold inFind
  cases h : l.find? (fun i => i.kind == k) with
  | none => simp [inst0]
  | some i => exact ha i (List.mem_of_find?_eq_some h)
theorem instEncodes_c (l k : List Inst) (n : Int) : FnP Tryz.prog 6 [instS l, instS k, .int .i64 n] (.bool true) := by
  have p1 := pinsts_c l
  have p2 := pinsts_c k
  cases h1 : instsPlain l
  · rw [h1] at p1
    unfold instS at *
    refine FnP.intro Tryz.func6 rfl rfl fun G w => ?_
    repeat' (first
     | refine WK.seq ?_
     | refine WK.block ?_
     | refine WK.inBlock ?_
     | refine WK.skip ?_
     | refine WK.label ?_
     | refine WK.scope ?_
     | refine WK.inScope ?_
     | refine WK.exit rfl ?_
     | refine WK.condT rfl ?_
     | refine WK.condF rfl ?_
     | (refine Hid.h hQ _ _ ?_; clear hQ hA)
     | refine WK.condAny rfl ?_ ?_
     | ((first | refine WK.cond2 rfl (fun h => ?_) (fun h => ?_) | refine Fork.mk (fun h => ?_) (fun h => ?_)) <;> (first | (simp [*] at h; done) | (have h2 := h; simp at h2; exfalso; omega) | (have h2 := h; simp at h2; try simp only [Bool.not_eq_true', Bool.not_eq_false'] at h) | skip))
     | ((first | refine WK.regH Tryz.ntmps6 (by kernel_rfl) ?_ | refine WK.regX (by kernel_rfl) Tryz.ntmps6 (by kernel_rfl) ?_); intro A hA Q hQ; simp [*])
     | (refine Hid.h hQ _ _ _ (by decide +kernel) ?_; clear hQ hA)
     | ((first | refine RunQ.gd rfl (by rw [hA.h]; rfl) ?_ | refine RunX.gd rfl (by rw [hA.h]; rfl) ?_); simp [*])
     | ((first | ((first | refine RunQ.call rfl rfl rfl rfl rfl ?_ (p1) ?_ ?_ | refine RunQW.call rfl rfl rfl rfl ?_ (p1) ?_ ?_ | refine RunX.call rfl rfl rfl rfl ?_ (p1) ?_ ?_ | refine RunXW.call rfl rfl rfl ?_ (p1) ?_ ?_); (focus (simp (maxDischargeDepth := 120) [*]; done))) | ((first | refine RunQ.call rfl rfl rfl rfl rfl ?_ (awake14_c) ?_ ?_ | refine RunQW.call rfl rfl rfl rfl ?_ (awake14_c) ?_ ?_ | refine RunX.call rfl rfl rfl rfl ?_ (awake14_c) ?_ ?_ | refine RunXW.call rfl rfl rfl ?_ (awake14_c) ?_ ?_); (focus (simp (maxDischargeDepth := 120) [*]; done)))); (focus (simp [*]; done)); (first | refine RunQ.evalH ?_ | refine RunX.evalY ?_); simp [*])
     | (refine WK.ret Tryz.func6 ?_ ?_ <;> simp (maxDischargeDepth := 120) [Tryz.results6, *])
     | fail)
  cases h2 : instsPlain k
  · rw [h1] at p1
    rw [h2] at p2
    unfold instS at *
    refine FnP.intro Tryz.func6 rfl rfl fun G w => ?_
    repeat' (first
     | refine WK.seq ?_
     | refine WK.block ?_
     | refine WK.inBlock ?_
     | refine WK.skip ?_
     | refine WK.label ?_
     | refine WK.scope ?_
     | refine WK.inScope ?_
     | refine WK.exit rfl ?_
     | refine WK.condT rfl ?_
     | refine WK.condF rfl ?_
     | (refine Hid.h hQ _ _ ?_; clear hQ hA)
     | refine WK.condAny rfl ?_ ?_
     | ((first | refine WK.cond2 rfl (fun h => ?_) (fun h => ?_) | refine Fork.mk (fun h => ?_) (fun h => ?_)) <;> (first | (simp [*] at h; done) | (have h2 := h; simp at h2; exfalso; omega) | (have h2 := h; simp at h2; try simp only [Bool.not_eq_true', Bool.not_eq_false'] at h) | skip))
     | ((first | refine WK.regH Tryz.ntmps6 (by kernel_rfl) ?_ | refine WK.regX (by kernel_rfl) Tryz.ntmps6 (by kernel_rfl) ?_); intro A hA Q hQ; simp [*])
     | (refine Hid.h hQ _ _ _ (by decide +kernel) ?_; clear hQ hA)
     | ((first | refine RunQ.gd rfl (by rw [hA.h]; rfl) ?_ | refine RunX.gd rfl (by rw [hA.h]; rfl) ?_); simp [*])
     | ((first | ((first | refine RunQ.call rfl rfl rfl rfl rfl ?_ (p1) ?_ ?_ | refine RunQW.call rfl rfl rfl rfl ?_ (p1) ?_ ?_ | refine RunX.call rfl rfl rfl rfl ?_ (p1) ?_ ?_ | refine RunXW.call rfl rfl rfl ?_ (p1) ?_ ?_); (focus (simp (maxDischargeDepth := 120) [*]; done))) | ((first | refine RunQ.call rfl rfl rfl rfl rfl ?_ (p2) ?_ ?_ | refine RunQW.call rfl rfl rfl rfl ?_ (p2) ?_ ?_ | refine RunX.call rfl rfl rfl rfl ?_ (p2) ?_ ?_ | refine RunXW.call rfl rfl rfl ?_ (p2) ?_ ?_); (focus (simp (maxDischargeDepth := 120) [*]; done))) | ((first | refine RunQ.call rfl rfl rfl rfl rfl ?_ (awake14_c) ?_ ?_ | refine RunQW.call rfl rfl rfl rfl ?_ (awake14_c) ?_ ?_ | refine RunX.call rfl rfl rfl rfl ?_ (awake14_c) ?_ ?_ | refine RunXW.call rfl rfl rfl ?_ (awake14_c) ?_ ?_); (focus (simp (maxDischargeDepth := 120) [*]; done)))); (focus (simp [*]; done)); (first | refine RunQ.evalH ?_ | refine RunX.evalY ?_); simp [*])
     | (refine WK.ret Tryz.func6 ?_ ?_ <;> simp (maxDischargeDepth := 120) [Tryz.results6, *])
     | fail)
  obtain ⟨hl, ha0⟩ := instsPlain_facts h1
  have ha : ∀ x, x ∈ l → x.acts.length ≤ 1000000 := fun x hx => by have := ha0 x hx; omega
  have a := iencP_c l (by omega) ha
  have b := riencP_c l (by omega) ha
  have o1 := iof_c l n (by omega) ha
  have o2 := riof_c l n (by omega)
  have hfa := inFind_acts (k := n) ha
  obtain ⟨x, bo, hxb⟩ : ∃ x bo, inFind l n = (x, bo) := ⟨_, _, rfl⟩
  rw [hxb] at o1 o2 hfa
  have on := ione1_c x
  have s0 := rsame_inst [x] [x] (by simp) (by simp; exact hfa)
  rw [eqBy_refl instSelf] at s0
  have s1 := insame_c l k (by omega) ha
  have s2 := rsame_inst l k (by omega) ha
  have hE := inEnc_len l
  have q := bequal_c (inEnc l).1 (inEnc l).1 (by omega)
  rw [beq_self_eq_true] at q
  have nn := containsf_inst 30 [] (fun _ => false) l rfl (by omega) (fun x hx => iwrong_c x (ha x hx))
  rw [any_false] at nn
  rw [h1] at p1
  rw [h2] at p2
  simp only [instS, instL, List.flatMap_cons, List.flatMap_nil, List.append_nil, List.length_cons, List.length_nil, Nat.zero_add] at on s0
  simp only [instS, byS] at p1 p2 a b o1 o2 s1 s2 q nn ⊢
  clear h1 h2 hl ha0 hxb hfa
  refine FnP.intro Tryz.func6 rfl rfl fun G w => ?_
  repeat' (first
   | refine WK.seq ?_
   | refine WK.block ?_
   | refine WK.inBlock ?_
   | refine WK.skip ?_
   | refine WK.label ?_
   | refine WK.scope ?_
   | refine WK.inScope ?_
   | refine WK.exit rfl ?_
   | refine WK.condT rfl ?_
   | refine WK.condF rfl ?_
   | (refine Hid.h hQ _ _ ?_; clear hQ hA)
   | refine WK.condAny rfl ?_ ?_
   | ((first | refine WK.cond2 rfl (fun h => ?_) (fun h => ?_) | refine Fork.mk (fun h => ?_) (fun h => ?_)) <;> (first | (simp [*] at h; done) | (have h2 := h; simp at h2; exfalso; omega) | (have h2 := h; simp at h2; try simp only [Bool.not_eq_true', Bool.not_eq_false'] at h) | skip))
   | ((first | refine WK.regH Tryz.ntmps6 (by kernel_rfl) ?_ | refine WK.regX (by kernel_rfl) Tryz.ntmps6 (by kernel_rfl) ?_); intro A hA Q hQ; simp [Inst.enc, *])
   | (refine Hid.h hQ _ _ _ (by decide +kernel) ?_; clear hQ hA)
   | ((first | refine RunQ.gd rfl (by rw [hA.h]; rfl) ?_ | refine RunX.gd rfl (by rw [hA.h]; rfl) ?_); simp [Inst.enc, *])
   | ((first | ((first | refine RunQ.call rfl rfl rfl rfl rfl ?_ (p1) ?_ ?_ | refine RunQW.call rfl rfl rfl rfl ?_ (p1) ?_ ?_ | refine RunX.call rfl rfl rfl rfl ?_ (p1) ?_ ?_ | refine RunXW.call rfl rfl rfl ?_ (p1) ?_ ?_); (focus (simp (maxDischargeDepth := 120) [Inst.enc, *]; done))) | ((first | refine RunQ.call rfl rfl rfl rfl rfl ?_ (p2) ?_ ?_ | refine RunQW.call rfl rfl rfl rfl ?_ (p2) ?_ ?_ | refine RunX.call rfl rfl rfl rfl ?_ (p2) ?_ ?_ | refine RunXW.call rfl rfl rfl ?_ (p2) ?_ ?_); (focus (simp (maxDischargeDepth := 120) [Inst.enc, *]; done))) | ((first | refine RunQ.call rfl rfl rfl rfl rfl ?_ (a) ?_ ?_ | refine RunQW.call rfl rfl rfl rfl ?_ (a) ?_ ?_ | refine RunX.call rfl rfl rfl rfl ?_ (a) ?_ ?_ | refine RunXW.call rfl rfl rfl ?_ (a) ?_ ?_); (focus (simp (maxDischargeDepth := 120) [Inst.enc, *]; done))) | ((first | refine RunQ.call rfl rfl rfl rfl rfl ?_ (b) ?_ ?_ | refine RunQW.call rfl rfl rfl rfl ?_ (b) ?_ ?_ | refine RunX.call rfl rfl rfl rfl ?_ (b) ?_ ?_ | refine RunXW.call rfl rfl rfl ?_ (b) ?_ ?_); (focus (simp (maxDischargeDepth := 120) [Inst.enc, *]; done))) | ((first | refine RunQ.call rfl rfl rfl rfl rfl ?_ (o1) ?_ ?_ | refine RunQW.call rfl rfl rfl rfl ?_ (o1) ?_ ?_ | refine RunX.call rfl rfl rfl rfl ?_ (o1) ?_ ?_ | refine RunXW.call rfl rfl rfl ?_ (o1) ?_ ?_); (focus (simp (maxDischargeDepth := 120) [Inst.enc, *]; done))) | ((first | refine RunQ.call rfl rfl rfl rfl rfl ?_ (o2) ?_ ?_ | refine RunQW.call rfl rfl rfl rfl ?_ (o2) ?_ ?_ | refine RunX.call rfl rfl rfl rfl ?_ (o2) ?_ ?_ | refine RunXW.call rfl rfl rfl ?_ (o2) ?_ ?_); (focus (simp (maxDischargeDepth := 120) [Inst.enc, *]; done))) | ((first | refine RunQ.call rfl rfl rfl rfl rfl ?_ (on) ?_ ?_ | refine RunQW.call rfl rfl rfl rfl ?_ (on) ?_ ?_ | refine RunX.call rfl rfl rfl rfl ?_ (on) ?_ ?_ | refine RunXW.call rfl rfl rfl ?_ (on) ?_ ?_); (focus (simp (maxDischargeDepth := 120) [Inst.enc, *]; done))) | ((first | refine RunQ.call rfl rfl rfl rfl rfl ?_ (s0) ?_ ?_ | refine RunQW.call rfl rfl rfl rfl ?_ (s0) ?_ ?_ | refine RunX.call rfl rfl rfl rfl ?_ (s0) ?_ ?_ | refine RunXW.call rfl rfl rfl ?_ (s0) ?_ ?_); (focus (simp (maxDischargeDepth := 120) [Inst.enc, *]; done))) | ((first | refine RunQ.call rfl rfl rfl rfl rfl ?_ (q) ?_ ?_ | refine RunQW.call rfl rfl rfl rfl ?_ (q) ?_ ?_ | refine RunX.call rfl rfl rfl rfl ?_ (q) ?_ ?_ | refine RunXW.call rfl rfl rfl ?_ (q) ?_ ?_); (focus (simp (maxDischargeDepth := 120) [Inst.enc, *]; done))) | ((first | refine RunQ.call rfl rfl rfl rfl rfl ?_ (s1) ?_ ?_ | refine RunQW.call rfl rfl rfl rfl ?_ (s1) ?_ ?_ | refine RunX.call rfl rfl rfl rfl ?_ (s1) ?_ ?_ | refine RunXW.call rfl rfl rfl ?_ (s1) ?_ ?_); (focus (simp (maxDischargeDepth := 120) [Inst.enc, *]; done))) | ((first | refine RunQ.call rfl rfl rfl rfl rfl ?_ (s2) ?_ ?_ | refine RunQW.call rfl rfl rfl rfl ?_ (s2) ?_ ?_ | refine RunX.call rfl rfl rfl rfl ?_ (s2) ?_ ?_ | refine RunXW.call rfl rfl rfl ?_ (s2) ?_ ?_); (focus (simp (maxDischargeDepth := 120) [Inst.enc, *]; done))) | ((first | refine RunQ.call rfl rfl rfl rfl rfl ?_ (nn) ?_ ?_ | refine RunQW.call rfl rfl rfl rfl ?_ (nn) ?_ ?_ | refine RunX.call rfl rfl rfl rfl ?_ (nn) ?_ ?_ | refine RunXW.call rfl rfl rfl ?_ (nn) ?_ ?_); (focus (simp (maxDischargeDepth := 120) [Inst.enc, *]; done))) | ((first | refine RunQ.call rfl rfl rfl rfl rfl ?_ (awake14_c) ?_ ?_ | refine RunQW.call rfl rfl rfl rfl ?_ (awake14_c) ?_ ?_ | refine RunX.call rfl rfl rfl rfl ?_ (awake14_c) ?_ ?_ | refine RunXW.call rfl rfl rfl ?_ (awake14_c) ?_ ?_); (focus (simp (maxDischargeDepth := 120) [Inst.enc, *]; done)))); (focus (simp [Inst.enc, *]; done)); (first | refine RunQ.evalH ?_ | refine RunX.evalY ?_); simp [Inst.enc, *])
   | (refine WK.ret Tryz.func6 ?_ ?_ <;> simp (maxDischargeDepth := 120) [Tryz.results6, Inst.enc, *])
   | fail)
end Go.Proofs.YteonfhnljphbpaaGreat
end
