/- Instructions: written by the reference. -/
import Derived.Test.YtiifjagnhnchoaaGreatWk10
import Derived.Test.YtiifjagnhnchoaaGreatWk7
import Derived.Test.YtiifjagnhnchoaaGreatWk9
set_option linter.all false
set_option linter.unnecessarySimpa false
section
set_option linter.unusedVariables false
set_option linter.unusedSimpArgs false
namespace Go.Proofs.YtiifjagnhnchoaaGreat
open Go Go.AI Go.Proofs
attribute [local irreducible] FnP FnO FnB FnT FnSeq WK RunQ RunQW RunX RunXW

theorem inFind_snd (l : List Inst) (k : Int) : (inFind l k).2 = decide (k ∈ inKinds l) := by
  unfold inFind
  cases h : l.find? (fun i => i.kind == k) with
  | none =>
    rw [List.find?_eq_none] at h
    have : k ∉ inKinds l := by
      intro hk
      unfold inKinds at hk
      obtain ⟨x, hx, rfl⟩ := List.mem_map.1 hk
      exact h x hx (by simp)
    simp [this]
  | some i =>
    have hm := List.mem_of_find?_eq_some h
    have hp := List.find?_some h
    have : k ∈ inKinds l := List.mem_map.2 ⟨i, hm, by simpa using hp⟩
    simp [this]
theorem beN_one (t : Int) : beN t 1 = [BitVec.ofInt 8 t] := by simp [beN]
set_option maxHeartbeats 8000000 in
theorem rienc_c (l : List Inst) (hl : l.length ≤ 100) (ha : ∀ x, x ∈ l → x.acts.length ≤ 1000000) : FnT Tryz.prog 40 [instS l] (inEnc l).1.length 1 (byL (inEnc l).1) [.int .i64 (inEnc l).2] := by
  unfold instS
  refine FnT.intro Tryz.func40 rfl rfl fun G w => ?_
  repeat' (first
   | refine WK.seq ?_
   | refine WK.block ?_
   | (refine Hid.h hQ _ _ ?_; clear hQ hA)
   | (refine WK.regH Tryz.ntmps40 (by kernel_rfl) ?_; intro A hA Q hQ; simp [*])
   | fail)
  refine WK.ghost (Ghost.own 4 900 1 rfl rfl) ?_
  refine WK.loopI (fun n => if n = 1 then 900 else n) (fun i : Nat => (⟨(upd (upd (upd (upd (upd J 0 (.sl false l.length (instL l))) 2 (.sl true 0 [])) 3 (.int .i64 0)) 4 (.msl 1 0 (rwFlat inOne (l.take i)).length)) 5 (.int .i64 i)), (upd B0 1 (.buf 1 (byL (rwFlat inOne (l.take i))))), 0⟩ : St)) (fun i => i ≤ l.length ∧ (∀ j, j < i → inRight (nth l j) = true) ∧ (inKinds (l.take i)).Nodup) (fun i => l.length - i) (0) (by repeat (first | exact TmW.nil | refine TmW.upd ?_ (by simp (maxDischargeDepth := 120) [rwFlat, byL_nil]))) (by repeat (first | exact BxW.nil | refine BxW.upd ?_ (by simp (maxDischargeDepth := 120) [rwFlat, byL_nil]))) (by first | exact InjW.id | exact InjW.nil | exact InjW.one | exact InjW.two (by simp) | exact InjW.three (by simp) (by simp) (by simp)) (⟨by omega, by simp, by simp [inKinds]⟩) (fun i hi IH => ?_)
  have hfl := inFlat_len (l.take i)
  have htl : (l.take i).length ≤ 100 := by rw [List.length_take]; omega
  by_cases h1 : i < l.length
  · have h4 := inst_sub l i h1
    have h3 : 7 ≤ l.length * 7 - i * 7 := by omega
    have g0 := inst_get l i 0 h1 (by omega)
    have g1 := inst_get l i 1 h1 (by omega)
    have g6 := inst_get l i 6 h1 (by omega)
    have gv : ((instL l).drop (i * 7 + 2)).take 2 = (nth l i).value.enc := inst_value l i h1
    have gm : ((instL l).drop (i * 7 + 4)).take 2 = (nth l i).mask.enc := inst_mask l i h1
    have l0 : i * 7 < l.length * 7 := by omega
    have l1 : i * 7 + 1 < l.length * 7 := by omega
    have l6 : i * 7 + 6 < l.length * 7 := by omega
    have l2 : 2 ≤ l.length * 7 - (i * 7 + 2) := by omega
    have l4 : 2 ≤ l.length * 7 - (i * 7 + 4) := by omega
    have h6 : IntKind.i64.wrap ((i : Int) + 1) = i + 1 := wrap_i64 (by omega) (by omega)
    have hs := inFlat_succ h1
    have hx := ha _ (nth_mem h1)
    have hrc := riright_c (nth l i) hx
    have hks := inKinds_succ h1
    have hof := riof_c (l.take i) (nth l i).kind (by omega)
    have hfs := inFind_snd (l.take i) (nth l i).kind
    have htk : (instL l).take (i * 7) = instL (l.take i) := by unfold instL; exact fm_take Inst.len l i
    have hll : (l.take i).length = i := by rw [List.length_take]; omega
    have hil : (i : Int) ≤ l.length := by omega
    unfold instS at hof
    rw [hll] at hof
    have htwo : (nth l i).kind ∈ inKinds (l.take i) → inEnc l = ([], 1) := inEnc_two h1
    have hwr : inRight (nth l i) = false → inEnc l = ([], 1) := inEnc_wrong h1
    have hnd := hi.2.2
    have hall := hi.2.1
    have hjr : inRight (nth l i) = true → ∀ j, j < i + 1 → inRight (nth l j) = true := fun hr j hj => by
      by_cases h7 : j = i
      · subst h7; exact hr
      · exact hall j (by omega)
    have hjn : (nth l i).kind ∉ inKinds (l.take i) → (inKinds (l.take (i + 1))).Nodup := fun h0 => by
      rw [hks]; exact nodup_snoc hnd h0
    have hbl := inBody_len (nth l i)
    have hone : inOne (nth l i) = beN (nth l i).kind 2 ++ (beN (4 + (inBody (nth l i)).length : Nat) 2 ++ inBody (nth l i)) := rfl
    have hn2 : numOk ((4 + (inBody (nth l i)).length : Nat) : Int) 2 = true := numOk2 (by omega)
    have p := racencP_c (nth l i).acts hx
    have hEl := acEnc_len (nth l i).acts
    obtain ⟨x, hxx⟩ : ∃ x, nth l i = x := ⟨_, rfl⟩
    simp only [hxx, Inst.enc, List.getElem_cons_zero, List.getElem_cons_succ, Nat.add_zero] at g0 g1 g6
    rw [hxx] at h4 hs hx hrc hof hfs htwo hwr hjr hjn hbl hone hn2 p hEl gv gm
    obtain ⟨y, bo, hyb⟩ : ∃ y bo, inFind (l.take i) x.kind = (y, bo) := ⟨_, _, rfl⟩
    rw [hyb] at hof hfs
    simp only at hof hfs
    obtain ⟨F, hF⟩ : ∃ F, rwFlat inOne (l.take i) = F := ⟨_, rfl⟩
    rw [hF] at hs hfl ⊢
    have hFl : F.length ≤ 700000 := by omega
    obtain ⟨r, hr⟩ : ∃ r, inRight x = r := ⟨_, rfl⟩
    rw [hr] at hrc hwr hjr
    simp only [Inst.enc] at h4 hrc hof
    have hgot := hi
    clear hi hall hnd hks hF hxx hfl htl hyb hll
    cases bo
    case true =>
      have e := htwo (of_decide_eq_true hfs.symm)
      rw [e]
      clear htwo hwr hjr hjn hone hn2 hs p hEl hbl hr hfs
      repeat' (first
       | refine WK.seq ?_
       | refine WK.block ?_
       | refine WK.skip ?_
       | refine WK.condT rfl ?_
       | (refine Hid.h hQ _ _ ?_; clear hQ hA)
       | (refine WK.regH Tryz.ntmps40 (by kernel_rfl) ?_; intro A hA Q hQ; simp [*])
       | (refine WK.regX (by kernel_rfl) Tryz.ntmps40 (by kernel_rfl) ?_; intro A hA Q hQ; simp [*])
       | (refine Hid.h hQ _ _ _ (by decide +kernel) ?_; clear hQ hA)
       | (refine RunQ.gd rfl (by rw [hA.h]; rfl) ?_; simp [*])
       | (refine RunX.call rfl rfl rfl rfl ?_ (hof) ?_ ?_; (focus (simp (maxDischargeDepth := 120) [*]; done)); (focus (simp [*]; done)); refine RunX.evalY ?_; simp [*])
       | fail)
      refine WK.ghost (Ghost.own 2 905 1 rfl rfl) ?_
      refine WK.retT2 Tryz.func40 ?_ ?_ ?_ <;> simp (maxDischargeDepth := 120) [Tryz.results40, byL_nil]
    have hnot := of_decide_eq_false hfs.symm
    cases r
    · have e := hwr rfl
      rw [e]
      clear htwo hwr hjr hjn hone hn2 hs p hEl hbl hr hfs hnot
      repeat' (first
       | refine WK.seq ?_
       | refine WK.block ?_
       | refine WK.skip ?_
       | refine WK.condT rfl ?_
       | (refine Hid.h hQ _ _ ?_; clear hQ hA)
       | (refine WK.regH Tryz.ntmps40 (by kernel_rfl) ?_; intro A hA Q hQ; simp [*])
       | (refine WK.regX (by kernel_rfl) Tryz.ntmps40 (by kernel_rfl) ?_; intro A hA Q hQ; simp [*])
       | (refine Hid.h hQ _ _ _ (by decide +kernel) ?_; clear hQ hA)
       | (refine RunQ.gd rfl (by rw [hA.h]; rfl) ?_; simp [*])
       | (refine RunQW.call rfl rfl rfl rfl ?_ (hrc) ?_ ?_; (focus (simp (maxDischargeDepth := 120) [*]; done)); (focus (simp [*]; done)); refine RunQ.evalH ?_; simp [*])
       | (refine RunX.call rfl rfl rfl rfl ?_ (hof) ?_ ?_; (focus (simp (maxDischargeDepth := 120) [*]; done)); (focus (simp [*]; done)); refine RunX.evalY ?_; simp [*])
       | fail)
      refine WK.ghost (Ghost.own 2 905 1 rfl rfl) ?_
      refine WK.retT2 Tryz.func40 ?_ ?_ ?_ <;> simp (maxDischargeDepth := 120) [Tryz.results40, byL_nil]
    have hK2 := hjn hnot
    have hj2 := hjr rfl
    have hokx := (inRight_facts hr).1
    have hkd : numOk x.kind 2 = true := by
      have := inKind_of hokx
      rw [numOk_iff]; exact ⟨by omega, by show x.kind < 65536; omega⟩
    have c1 := rput_c F x.kind 2 Sz2 (by omega)
    rw [putN_beN hkd] at c1
    obtain ⟨K, hK⟩ : ∃ K, inBody x = K := ⟨_, rfl⟩
    rw [hK] at hbl hone hn2
    obtain ⟨F1, hF1⟩ : ∃ F1, F ++ beN x.kind 2 = F1 := ⟨_, rfl⟩
    rw [hF1] at c1
    have hF1l : F1.length = F.length + 2 := by rw [← hF1, List.length_append, beN_len]
    have c2 := rput_c F1 ((4 + K.length : Nat) : Int) 2 Sz2 (by omega)
    rw [putN_beN hn2] at c2
    obtain ⟨F2, hF2⟩ : ∃ F2, F1 ++ beN ((4 + K.length : Nat) : Int) 2 = F2 := ⟨_, rfl⟩
    rw [hF2] at c2
    have hF2l : F2.length = F.length + 4 := by rw [← hF2, List.length_append, beN_len]; omega
    have hs2 : rwFlat inOne (l.take (i + 1)) = F2 ++ K := by rw [hs, hone, ← hF2, ← hF1]; simp only [List.append_assoc]
    have hs3 : byL F2 ++ byL K = byL (rwFlat inOne (l.take (i + 1))) := by rw [hs2, byL_app]
    have hs4 : (rwFlat inOne (l.take (i + 1))).length = F2.length + K.length := by rw [hs2, List.length_append]
    have w4 : IntKind.i64.wrap (4 + (K.length : Int)) = 4 + (K.length : Int) := wrap_i64 (by omega) (by omega)
    have hbd : F2.length + K.length ≤ 140737488355328 := by omega
    have hfu1 := by_full F F.length rfl
    have hfu2 := by_full F1 F1.length rfl
    have hfu3 := by_full K K.length rfl
    unfold byS at c1 c2
    clear htwo hwr hjr hjn hone hn2 hs hF1 hF2 hF1l hF2l hs2 hkd hfs hnot hr
    obtain ⟨kk, t, v, m, ac⟩ := x
    simp only at *
    rcases inKind_of hokx with k | k | k | k | k <;> (simp only at k; subst k)
    · have ht : numOk t 1 = true := by
        unfold inOk at hokx; simp only at hokx
        rw [numOk_iff]
        have : 0 ≤ t ∧ t < 255 := by simpa using hokx
        exact ⟨this.1, by show t < 256; omega⟩
      have e : inBody ⟨1, t, v, m, ac⟩ = BitVec.ofInt 8 t :: List.replicate 3 0#8 := by unfold inBody; simp only; rw [if_pos (by decide)]
      have c0 := rput_c [] t 1 Sz1 (by simp)
      rw [putN_beN ht, List.nil_append, beN_one] at c0
      have hKl : K.length = 4 := by rw [← hK, e]; rfl
      have hKb : byL K = [.int .u8 (bI (BitVec.ofInt 8 t)), .int .u8 0, .int .u8 0, .int .u8 0] := by rw [← hK, e]; rfl
      have hq2 : byL [BitVec.ofInt 8 t] = [.int .u8 (bI (BitVec.ofInt 8 t))] := rfl
      rw [hq2] at c0
      simp only [byS, byL_nil, List.length_nil, List.length_cons, Nat.zero_add] at c0
      rw [hKl] at c2 hs4 hbd
      rw [hKb] at hs3
      have w8 : IntKind.i64.wrap 8 = 8 := rfl
      clear w4
      clear p hEl ht e hbl hfu3 hK hKl hKb gv gm g6
      repeat' (first
       | refine WK.seq ?_
       | refine WK.block ?_
       | refine WK.inBlock ?_
       | refine WK.skip ?_
       | refine WK.condT rfl ?_
       | refine WK.condF rfl ?_
       | (refine Hid.h hQ _ _ ?_; clear hQ hA)
       | (refine WK.regH Tryz.ntmps40 (by kernel_rfl) ?_; intro A hA Q hQ; simp [*])
       | (refine WK.regX (by kernel_rfl) Tryz.ntmps40 (by kernel_rfl) ?_; intro A hA Q hQ; simp [*])
       | (refine Hid.h hQ _ _ _ (by decide +kernel) ?_; clear hQ hA)
       | (refine RunQ.gd rfl (by rw [hA.h]; rfl) ?_; simp [*])
       | (refine RunQ.callO 901 rfl rfl rfl rfl rfl ?_ (c0) ?_ ?_ ?_ ?_; (focus (simp (maxDischargeDepth := 120) [*]; done)); (focus (simp [*]; done)); (focus (simp [*]; done)); (focus (simp [*]; done)); refine RunQ.evalH ?_; simp [*])
       | (refine RunQ.append 902 appByte rfl rfl rfl rfl rfl rfl rfl rfl rfl ?_ ?_ ?_ ?_ ?_; (focus (first | omega | (simp [*]; done); done)); (focus (first | omega | (simp [*]; done); done)); (focus (first | omega | (simp [*]; done); done)); (focus (first | omega | (simp [*]; done); done)); refine RunQ.evalH ?_; simp [*])
       | (refine RunQ.callOz 903 85 1 rfl rfl rfl rfl rfl rfl rfl ?_ (c1) ?_ ?_ (by simp) (by decide) ?_; (focus (simp (maxDischargeDepth := 120) [*]; done)); (focus (simp [*]; done)); (focus (simp [*]; done)); refine RunQ.evalH ?_; simp [*])
       | (refine RunQ.callOz 904 91 1 rfl rfl rfl rfl rfl rfl rfl ?_ (c2) ?_ ?_ (by simp) (by decide) ?_; (focus (simp (maxDischargeDepth := 120) [*]; done)); (focus (simp [*]; done)); (focus (simp [*]; done)); refine RunQ.evalH ?_; simp [*])
       | (refine RunQ.appendFz 906 appByte rfl rfl rfl rfl rfl rfl rfl rfl rfl rfl ?_ ?_ ?_ ?_ ?_ ?_; (focus (first | omega | (simp [*]; done); done)); (focus (first | omega | (simp [*]; done); done)); (focus (first | omega | (simp [*]; done); done)); (focus (simp [*]; done)); (focus (simp [*]; done)); refine RunQ.evalH ?_; simp [*])
       | (refine RunQW.call rfl rfl rfl rfl ?_ (hrc) ?_ ?_; (focus (simp (maxDischargeDepth := 120) [*]; done)); (focus (simp [*]; done)); refine RunQ.evalH ?_; simp [*])
       | (refine RunX.call rfl rfl rfl rfl ?_ (hof) ?_ ?_; (focus (simp (maxDischargeDepth := 120) [*]; done)); (focus (simp [*]; done)); refine RunX.evalY ?_; simp [*])
       | fail)
      refine WK.next (fun n => if n = 1 then 906 else n) (IH (i + 1) (⟨by omega, hj2, hK2⟩) (by first | omega | (dsimp only; omega))) (by repeat (first | exact TmW.nil | refine TmW.upd ?_ (by simp (maxDischargeDepth := 120) [hs3, hs4]))) (by repeat (first | exact BxW.nil | refine BxW.upd ?_ (by simp (maxDischargeDepth := 120) [hs3, hs4]))) (by first | exact InjW.id | exact InjW.nil | exact InjW.one | exact InjW.two (by simp) | exact InjW.three (by simp) (by simp) (by simp))
    · have e : inBody ⟨2, t, v, m, ac⟩ = List.replicate 4 0#8 ++ (beN (wN v) 8 ++ beN (wN m) 8) := by unfold inBody; simp only; rw [if_neg (by decide), if_pos (by decide)]
      have d1 := rwput_c (List.replicate 4 0#8) v 8 (by omega) (by simp)
      rw [wPut_beN _ _ _ (by omega)] at d1
      have d2 := rwput_c (List.replicate 4 0#8 ++ beN (wN v) 8) m 8 (by omega) (by simp [beN_len])
      rw [wPut_beN _ _ _ (by omega), List.append_assoc, ← e, hK] at d2
      have hz : (List.replicate 4 0#8).length = 4 := rfl
      have hll : (List.replicate 4 0#8 ++ beN (wN v) 8).length = 12 := by simp [beN_len]
      obtain ⟨Z1, hZ1⟩ : ∃ F, List.replicate 4 0#8 ++ beN (wN v) 8 = F := ⟨_, rfl⟩
      rw [hZ1] at d1 d2 hll
      have hfu : (byL Z1).take 12 = byL Z1 := by_full _ _ hll.symm
      unfold byS at d1 d2
      rw [hll] at d1 d2
      rw [hz, z4L] at d1
      unfold Wide.enc at d1 d2 gv gm
      clear p hEl e hbl hZ1 hK g1 g6
      repeat' (first
       | refine WK.seq ?_
       | refine WK.block ?_
       | refine WK.inBlock ?_
       | refine WK.skip ?_
       | refine WK.condT rfl ?_
       | refine WK.condF rfl ?_
       | (refine Hid.h hQ _ _ ?_; clear hQ hA)
       | (refine WK.regH Tryz.ntmps40 (by kernel_rfl) ?_; intro A hA Q hQ; simp [*])
       | (refine WK.regX (by kernel_rfl) Tryz.ntmps40 (by kernel_rfl) ?_; intro A hA Q hQ; simp [*])
       | (refine Hid.h hQ _ _ _ (by decide +kernel) ?_; clear hQ hA)
       | (refine RunQ.gd rfl (by rw [hA.h]; rfl) ?_; simp [*])
       | (refine RunX.callO 901 rfl rfl rfl rfl ?_ (d1) ?_ ?_ ?_ ?_; (focus (simp (maxDischargeDepth := 120) [*]; done)); (focus (simp [*]; done)); (focus (simp [*]; done)); (focus (simp [*]; done)); refine RunX.evalY ?_; simp [*])
       | (refine RunX.callOz 902 63 1 rfl rfl rfl rfl rfl rfl ?_ (d2) ?_ ?_ (by simp) (by decide) ?_; (focus (simp (maxDischargeDepth := 120) [*]; done)); (focus (simp [*]; done)); (focus (simp [*]; done)); refine RunX.evalY ?_; simp [*])
       | (refine RunQ.callOz 903 85 1 rfl rfl rfl rfl rfl rfl rfl ?_ (c1) ?_ ?_ (by simp) (by decide) ?_; (focus (simp (maxDischargeDepth := 120) [*]; done)); (focus (simp [*]; done)); (focus (simp [*]; done)); refine RunQ.evalH ?_; simp [*])
       | (refine RunQ.callOz 904 91 1 rfl rfl rfl rfl rfl rfl rfl ?_ (c2) ?_ ?_ (by simp) (by decide) ?_; (focus (simp (maxDischargeDepth := 120) [*]; done)); (focus (simp [*]; done)); (focus (simp [*]; done)); refine RunQ.evalH ?_; simp [*])
       | (refine RunQ.appendFz 906 appByte rfl rfl rfl rfl rfl rfl rfl rfl rfl rfl ?_ ?_ ?_ ?_ ?_ ?_; (focus (first | omega | (simp [*]; done); done)); (focus (first | omega | (simp [*]; done); done)); (focus (first | omega | (simp [*]; done); done)); (focus (simp [*]; done)); (focus (simp [*]; done)); refine RunQ.evalH ?_; simp [*])
       | (refine RunQW.call rfl rfl rfl rfl ?_ (hrc) ?_ ?_; (focus (simp (maxDischargeDepth := 120) [*]; done)); (focus (simp [*]; done)); refine RunQ.evalH ?_; simp [*])
       | (refine RunX.call rfl rfl rfl rfl ?_ (hof) ?_ ?_; (focus (simp (maxDischargeDepth := 120) [*]; done)); (focus (simp [*]; done)); refine RunX.evalY ?_; simp [*])
       | fail)
      refine WK.next (fun n => if n = 1 then 906 else n) (IH (i + 1) (⟨by omega, hj2, hK2⟩) (by first | omega | (dsimp only; omega))) (by repeat (first | exact TmW.nil | refine TmW.upd ?_ (by simp (maxDischargeDepth := 120) [hs3, hs4]))) (by repeat (first | exact BxW.nil | refine BxW.upd ?_ (by simp (maxDischargeDepth := 120) [hs3, hs4]))) (by first | exact InjW.id | exact InjW.nil | exact InjW.one | exact InjW.two (by simp) | exact InjW.three (by simp) (by simp) (by simp))
    · have e : inBody ⟨3, t, v, m, ac⟩ = List.replicate 4 0#8 ++ (acEnc ac).1 := by unfold inBody; simp only; rw [if_neg (by decide), if_neg (by decide), if_pos (by decide)]
      obtain ⟨R, hR⟩ : ∃ R, acEnc ac = R := ⟨_, rfl⟩
      rw [hR] at e p hEl
      obtain ⟨E, ec⟩ := R
      simp only at e p hEl
      simp only [byS, actS] at p
      by_cases hE0 : E = []
      · subst hE0
        have hKl : K.length = 4 := by rw [← hK, e]; rfl
        have hKb : byL K = [.int .u8 0, .int .u8 0, .int .u8 0, .int .u8 0] := by rw [← hK, e]; rfl
        rw [hKl] at c2 hs4 hbd
        rw [hKb] at hs3
        have w8 : IntKind.i64.wrap 8 = 8 := rfl
        simp only [List.length_nil, byL_nil] at p
        clear e hbl hfu3 hK hKl hKb hR gv gm w4 g1
        repeat' (first
         | refine WK.seq ?_
         | refine WK.block ?_
         | refine WK.inBlock ?_
         | refine WK.skip ?_
         | refine WK.condT rfl ?_
         | refine WK.condF rfl ?_
         | (refine Hid.h hQ _ _ ?_; clear hQ hA)
         | (refine WK.regH Tryz.ntmps40 (by kernel_rfl) ?_; intro A hA Q hQ; simp [*])
         | (refine WK.regX (by kernel_rfl) Tryz.ntmps40 (by kernel_rfl) ?_; intro A hA Q hQ; simp [*])
         | (refine Hid.h hQ _ _ _ (by decide +kernel) ?_; clear hQ hA)
         | (refine RunQ.gd rfl (by rw [hA.h]; rfl) ?_; simp [*])
         | (refine RunQ.appendN appByte rfl rfl rfl rfl rfl rfl rfl rfl ?_; refine RunQ.evalH ?_; simp [*])
         | (refine RunQ.callOz 903 85 1 rfl rfl rfl rfl rfl rfl rfl ?_ (c1) ?_ ?_ (by simp) (by decide) ?_; (focus (simp (maxDischargeDepth := 120) [*]; done)); (focus (simp [*]; done)); (focus (simp [*]; done)); refine RunQ.evalH ?_; simp [*])
         | (refine RunQ.callOz 904 91 1 rfl rfl rfl rfl rfl rfl rfl ?_ (c2) ?_ ?_ (by simp) (by decide) ?_; (focus (simp (maxDischargeDepth := 120) [*]; done)); (focus (simp [*]; done)); (focus (simp [*]; done)); refine RunQ.evalH ?_; simp [*])
         | (refine RunQ.append 906 appByte rfl rfl rfl rfl rfl rfl rfl rfl rfl ?_ ?_ ?_ ?_ ?_; (focus (first | omega | (simp [*]; done); done)); (focus (first | omega | (simp [*]; done); done)); (focus (first | omega | (simp [*]; done); done)); (focus (first | omega | (simp [*]; done); done)); refine RunQ.evalH ?_; simp [*])
         | (refine RunQ.call rfl rfl rfl rfl rfl ?_ (p) ?_ ?_; (focus (simp (maxDischargeDepth := 120) [*]; done)); (focus (simp [*]; done)); refine RunQ.evalH ?_; simp [*])
         | (refine RunQW.call rfl rfl rfl rfl ?_ (hrc) ?_ ?_; (focus (simp (maxDischargeDepth := 120) [*]; done)); (focus (simp [*]; done)); refine RunQ.evalH ?_; simp [*])
         | (refine RunX.call rfl rfl rfl rfl ?_ (hof) ?_ ?_; (focus (simp (maxDischargeDepth := 120) [*]; done)); (focus (simp [*]; done)); refine RunX.evalY ?_; simp [*])
         | fail)
        refine WK.next (fun n => if n = 1 then 906 else n) (IH (i + 1) (⟨by omega, hj2, hK2⟩) (by first | omega | (dsimp only; omega))) (by repeat (first | exact TmW.nil | refine TmW.upd ?_ (by simp (maxDischargeDepth := 120) [hs3, hs4]))) (by repeat (first | exact BxW.nil | refine BxW.upd ?_ (by simp (maxDischargeDepth := 120) [hs3, hs4]))) (by first | exact InjW.id | exact InjW.nil | exact InjW.one | exact InjW.two (by simp) | exact InjW.three (by simp) (by simp) (by simp))
      · have hE0 : 0 < E.length := List.length_pos_iff.2 hE0
        have hKl : K.length = 4 + E.length := by rw [← hK, e, List.length_append]; rfl
        have hKb : byL K = .int .u8 0 :: .int .u8 0 :: .int .u8 0 :: .int .u8 0 :: byL E := by rw [← hK, e, byL_app, z4L]; rfl
        have hfe := by_full E E.length rfl
        rw [hKl] at c2 hs4 hbd
        have w8 : IntKind.i64.wrap (4 + (4 + (E.length : Int))) = 4 + (4 + (E.length : Int)) := wrap_i64 (by omega) (by omega)
        clear w4
        rw [hKb] at hs3
        have hbe : 4 + E.length ≤ 140737488355328 := by omega
        have hcomm : E.length + 4 = 4 + E.length := Nat.add_comm _ _
        clear e hbl hfu3 hK hKl hKb hR gv gm g1
        repeat' (first
         | refine WK.seq ?_
         | refine WK.block ?_
         | refine WK.inBlock ?_
         | refine WK.skip ?_
         | refine WK.condT rfl ?_
         | refine WK.condF rfl ?_
         | (refine Hid.h hQ _ _ ?_; clear hQ hA)
         | (refine WK.regH Tryz.ntmps40 (by kernel_rfl) ?_; intro A hA Q hQ; simp [*])
         | (refine WK.regX (by kernel_rfl) Tryz.ntmps40 (by kernel_rfl) ?_; intro A hA Q hQ; simp [*])
         | (refine Hid.h hQ _ _ _ (by decide +kernel) ?_; clear hQ hA)
         | (refine RunQ.gd rfl (by rw [hA.h]; rfl) ?_; simp [*])
         | (refine RunQ.appendF 901 appByte rfl rfl rfl rfl rfl rfl rfl rfl ?_ ?_ ?_ ?_ ?_ ?_ ?_; (focus (first | omega | (simp [*]; done); done)); (focus (first | omega | (simp [*]; done); done)); (focus (first | omega | (simp [*]; done); done)); (focus (first | omega | (simp [*]; done); done)); (focus (first | omega | (simp [*]; done); done)); (focus (simp [*]; done)); refine RunQ.evalH ?_; simp [*])
         | (refine RunQ.callOz 903 85 1 rfl rfl rfl rfl rfl rfl rfl ?_ (c1) ?_ ?_ (by simp) (by decide) ?_; (focus (simp (maxDischargeDepth := 120) [*]; done)); (focus (simp [*]; done)); (focus (simp [*]; done)); refine RunQ.evalH ?_; simp [*])
         | (refine RunQ.callOz 904 91 1 rfl rfl rfl rfl rfl rfl rfl ?_ (c2) ?_ ?_ (by simp) (by decide) ?_; (focus (simp (maxDischargeDepth := 120) [*]; done)); (focus (simp [*]; done)); (focus (simp [*]; done)); refine RunQ.evalH ?_; simp [*])
         | (refine RunQ.appendFz 906 appByte rfl rfl rfl rfl rfl rfl rfl rfl rfl rfl ?_ ?_ ?_ ?_ ?_ ?_; (focus (first | omega | (simp [*]; done); done)); (focus (first | omega | (simp [*]; done); done)); (focus (first | omega | (simp [*]; done); done)); (focus (simp [*]; done)); (focus (simp [*]; done)); refine RunQ.evalH ?_; simp [*])
         | (refine RunQ.call rfl rfl rfl rfl rfl ?_ (p) ?_ ?_; (focus (simp (maxDischargeDepth := 120) [*]; done)); (focus (simp [*]; done)); refine RunQ.evalH ?_; simp [*])
         | (refine RunQW.call rfl rfl rfl rfl ?_ (hrc) ?_ ?_; (focus (simp (maxDischargeDepth := 120) [*]; done)); (focus (simp [*]; done)); refine RunQ.evalH ?_; simp [*])
         | (refine RunX.call rfl rfl rfl rfl ?_ (hof) ?_ ?_; (focus (simp (maxDischargeDepth := 120) [*]; done)); (focus (simp [*]; done)); refine RunX.evalY ?_; simp [*])
         | fail)
        refine WK.next (fun n => if n = 1 then 906 else n) (IH (i + 1) (⟨by omega, hj2, hK2⟩) (by first | omega | (dsimp only; omega))) (by repeat (first | exact TmW.nil | refine TmW.upd ?_ (by simp (maxDischargeDepth := 120) [hs3, hs4]))) (by repeat (first | exact BxW.nil | refine BxW.upd ?_ (by simp (maxDischargeDepth := 120) [hs3, hs4]))) (by first | exact InjW.id | exact InjW.nil | exact InjW.one | exact InjW.two (by simp) | exact InjW.three (by simp) (by simp) (by simp))
    · have e : inBody ⟨4, t, v, m, ac⟩ = List.replicate 4 0#8 ++ (acEnc ac).1 := by unfold inBody; simp only; rw [if_neg (by decide), if_neg (by decide), if_pos (by decide)]
      obtain ⟨R, hR⟩ : ∃ R, acEnc ac = R := ⟨_, rfl⟩
      rw [hR] at e p hEl
      obtain ⟨E, ec⟩ := R
      simp only at e p hEl
      simp only [byS, actS] at p
      by_cases hE0 : E = []
      · subst hE0
        have hKl : K.length = 4 := by rw [← hK, e]; rfl
        have hKb : byL K = [.int .u8 0, .int .u8 0, .int .u8 0, .int .u8 0] := by rw [← hK, e]; rfl
        rw [hKl] at c2 hs4 hbd
        rw [hKb] at hs3
        have w8 : IntKind.i64.wrap 8 = 8 := rfl
        simp only [List.length_nil, byL_nil] at p
        clear e hbl hfu3 hK hKl hKb hR gv gm w4 g1
        repeat' (first
         | refine WK.seq ?_
         | refine WK.block ?_
         | refine WK.inBlock ?_
         | refine WK.skip ?_
         | refine WK.condT rfl ?_
         | refine WK.condF rfl ?_
         | (refine Hid.h hQ _ _ ?_; clear hQ hA)
         | (refine WK.regH Tryz.ntmps40 (by kernel_rfl) ?_; intro A hA Q hQ; simp [*])
         | (refine WK.regX (by kernel_rfl) Tryz.ntmps40 (by kernel_rfl) ?_; intro A hA Q hQ; simp [*])
         | (refine Hid.h hQ _ _ _ (by decide +kernel) ?_; clear hQ hA)
         | (refine RunQ.gd rfl (by rw [hA.h]; rfl) ?_; simp [*])
         | (refine RunQ.appendN appByte rfl rfl rfl rfl rfl rfl rfl rfl ?_; refine RunQ.evalH ?_; simp [*])
         | (refine RunQ.callOz 903 85 1 rfl rfl rfl rfl rfl rfl rfl ?_ (c1) ?_ ?_ (by simp) (by decide) ?_; (focus (simp (maxDischargeDepth := 120) [*]; done)); (focus (simp [*]; done)); (focus (simp [*]; done)); refine RunQ.evalH ?_; simp [*])
         | (refine RunQ.callOz 904 91 1 rfl rfl rfl rfl rfl rfl rfl ?_ (c2) ?_ ?_ (by simp) (by decide) ?_; (focus (simp (maxDischargeDepth := 120) [*]; done)); (focus (simp [*]; done)); (focus (simp [*]; done)); refine RunQ.evalH ?_; simp [*])
         | (refine RunQ.append 906 appByte rfl rfl rfl rfl rfl rfl rfl rfl rfl ?_ ?_ ?_ ?_ ?_; (focus (first | omega | (simp [*]; done); done)); (focus (first | omega | (simp [*]; done); done)); (focus (first | omega | (simp [*]; done); done)); (focus (first | omega | (simp [*]; done); done)); refine RunQ.evalH ?_; simp [*])
         | (refine RunQ.call rfl rfl rfl rfl rfl ?_ (p) ?_ ?_; (focus (simp (maxDischargeDepth := 120) [*]; done)); (focus (simp [*]; done)); refine RunQ.evalH ?_; simp [*])
         | (refine RunQW.call rfl rfl rfl rfl ?_ (hrc) ?_ ?_; (focus (simp (maxDischargeDepth := 120) [*]; done)); (focus (simp [*]; done)); refine RunQ.evalH ?_; simp [*])
         | (refine RunX.call rfl rfl rfl rfl ?_ (hof) ?_ ?_; (focus (simp (maxDischargeDepth := 120) [*]; done)); (focus (simp [*]; done)); refine RunX.evalY ?_; simp [*])
         | fail)
        refine WK.next (fun n => if n = 1 then 906 else n) (IH (i + 1) (⟨by omega, hj2, hK2⟩) (by first | omega | (dsimp only; omega))) (by repeat (first | exact TmW.nil | refine TmW.upd ?_ (by simp (maxDischargeDepth := 120) [hs3, hs4]))) (by repeat (first | exact BxW.nil | refine BxW.upd ?_ (by simp (maxDischargeDepth := 120) [hs3, hs4]))) (by first | exact InjW.id | exact InjW.nil | exact InjW.one | exact InjW.two (by simp) | exact InjW.three (by simp) (by simp) (by simp))
      · have hE0 : 0 < E.length := List.length_pos_iff.2 hE0
        have hKl : K.length = 4 + E.length := by rw [← hK, e, List.length_append]; rfl
        have hKb : byL K = .int .u8 0 :: .int .u8 0 :: .int .u8 0 :: .int .u8 0 :: byL E := by rw [← hK, e, byL_app, z4L]; rfl
        have hfe := by_full E E.length rfl
        rw [hKl] at c2 hs4 hbd
        have w8 : IntKind.i64.wrap (4 + (4 + (E.length : Int))) = 4 + (4 + (E.length : Int)) := wrap_i64 (by omega) (by omega)
        clear w4
        rw [hKb] at hs3
        have hbe : 4 + E.length ≤ 140737488355328 := by omega
        have hcomm : E.length + 4 = 4 + E.length := Nat.add_comm _ _
        clear e hbl hfu3 hK hKl hKb hR gv gm g1
        repeat' (first
         | refine WK.seq ?_
         | refine WK.block ?_
         | refine WK.inBlock ?_
         | refine WK.skip ?_
         | refine WK.condT rfl ?_
         | refine WK.condF rfl ?_
         | (refine Hid.h hQ _ _ ?_; clear hQ hA)
         | (refine WK.regH Tryz.ntmps40 (by kernel_rfl) ?_; intro A hA Q hQ; simp [*])
         | (refine WK.regX (by kernel_rfl) Tryz.ntmps40 (by kernel_rfl) ?_; intro A hA Q hQ; simp [*])
         | (refine Hid.h hQ _ _ _ (by decide +kernel) ?_; clear hQ hA)
         | (refine RunQ.gd rfl (by rw [hA.h]; rfl) ?_; simp [*])
         | (refine RunQ.appendF 901 appByte rfl rfl rfl rfl rfl rfl rfl rfl ?_ ?_ ?_ ?_ ?_ ?_ ?_; (focus (first | omega | (simp [*]; done); done)); (focus (first | omega | (simp [*]; done); done)); (focus (first | omega | (simp [*]; done); done)); (focus (first | omega | (simp [*]; done); done)); (focus (first | omega | (simp [*]; done); done)); (focus (simp [*]; done)); refine RunQ.evalH ?_; simp [*])
         | (refine RunQ.callOz 903 85 1 rfl rfl rfl rfl rfl rfl rfl ?_ (c1) ?_ ?_ (by simp) (by decide) ?_; (focus (simp (maxDischargeDepth := 120) [*]; done)); (focus (simp [*]; done)); (focus (simp [*]; done)); refine RunQ.evalH ?_; simp [*])
         | (refine RunQ.callOz 904 91 1 rfl rfl rfl rfl rfl rfl rfl ?_ (c2) ?_ ?_ (by simp) (by decide) ?_; (focus (simp (maxDischargeDepth := 120) [*]; done)); (focus (simp [*]; done)); (focus (simp [*]; done)); refine RunQ.evalH ?_; simp [*])
         | (refine RunQ.appendFz 906 appByte rfl rfl rfl rfl rfl rfl rfl rfl rfl rfl ?_ ?_ ?_ ?_ ?_ ?_; (focus (first | omega | (simp [*]; done); done)); (focus (first | omega | (simp [*]; done); done)); (focus (first | omega | (simp [*]; done); done)); (focus (simp [*]; done)); (focus (simp [*]; done)); refine RunQ.evalH ?_; simp [*])
         | (refine RunQ.call rfl rfl rfl rfl rfl ?_ (p) ?_ ?_; (focus (simp (maxDischargeDepth := 120) [*]; done)); (focus (simp [*]; done)); refine RunQ.evalH ?_; simp [*])
         | (refine RunQW.call rfl rfl rfl rfl ?_ (hrc) ?_ ?_; (focus (simp (maxDischargeDepth := 120) [*]; done)); (focus (simp [*]; done)); refine RunQ.evalH ?_; simp [*])
         | (refine RunX.call rfl rfl rfl rfl ?_ (hof) ?_ ?_; (focus (simp (maxDischargeDepth := 120) [*]; done)); (focus (simp [*]; done)); refine RunX.evalY ?_; simp [*])
         | fail)
        refine WK.next (fun n => if n = 1 then 906 else n) (IH (i + 1) (⟨by omega, hj2, hK2⟩) (by first | omega | (dsimp only; omega))) (by repeat (first | exact TmW.nil | refine TmW.upd ?_ (by simp (maxDischargeDepth := 120) [hs3, hs4]))) (by repeat (first | exact BxW.nil | refine BxW.upd ?_ (by simp (maxDischargeDepth := 120) [hs3, hs4]))) (by first | exact InjW.id | exact InjW.nil | exact InjW.one | exact InjW.two (by simp) | exact InjW.three (by simp) (by simp) (by simp))
    · have e : inBody ⟨5, t, v, m, ac⟩ = List.replicate 4 0#8 := by unfold inBody; simp only; rw [if_neg (by decide), if_neg (by decide), if_neg (by decide)]
      have hKl : K.length = 4 := by rw [← hK, e]; rfl
      have hKb : byL K = [.int .u8 0, .int .u8 0, .int .u8 0, .int .u8 0] := by rw [← hK, e]; rfl
      rw [hKl] at c2 hs4 hbd
      rw [hKb] at hs3
      have w8 : IntKind.i64.wrap 8 = 8 := rfl
      clear e hbl hfu3 hK hKl hKb gv gm w4 g1 g6 p hEl
      repeat' (first
       | refine WK.seq ?_
       | refine WK.block ?_
       | refine WK.inBlock ?_
       | refine WK.skip ?_
       | refine WK.condT rfl ?_
       | refine WK.condF rfl ?_
       | (refine Hid.h hQ _ _ ?_; clear hQ hA)
       | (refine WK.regH Tryz.ntmps40 (by kernel_rfl) ?_; intro A hA Q hQ; simp [*])
       | (refine WK.regX (by kernel_rfl) Tryz.ntmps40 (by kernel_rfl) ?_; intro A hA Q hQ; simp [*])
       | (refine Hid.h hQ _ _ _ (by decide +kernel) ?_; clear hQ hA)
       | (refine RunQ.gd rfl (by rw [hA.h]; rfl) ?_; simp [*])
       | (refine RunQ.callOz 903 85 1 rfl rfl rfl rfl rfl rfl rfl ?_ (c1) ?_ ?_ (by simp) (by decide) ?_; (focus (simp (maxDischargeDepth := 120) [*]; done)); (focus (simp [*]; done)); (focus (simp [*]; done)); refine RunQ.evalH ?_; simp [*])
       | (refine RunQ.callOz 904 91 1 rfl rfl rfl rfl rfl rfl rfl ?_ (c2) ?_ ?_ (by simp) (by decide) ?_; (focus (simp (maxDischargeDepth := 120) [*]; done)); (focus (simp [*]; done)); (focus (simp [*]; done)); refine RunQ.evalH ?_; simp [*])
       | (refine RunQ.append 906 appByte rfl rfl rfl rfl rfl rfl rfl rfl rfl ?_ ?_ ?_ ?_ ?_; (focus (first | omega | (simp [*]; done); done)); (focus (first | omega | (simp [*]; done); done)); (focus (first | omega | (simp [*]; done); done)); (focus (first | omega | (simp [*]; done); done)); refine RunQ.evalH ?_; simp [*])
       | (refine RunQW.call rfl rfl rfl rfl ?_ (hrc) ?_ ?_; (focus (simp (maxDischargeDepth := 120) [*]; done)); (focus (simp [*]; done)); refine RunQ.evalH ?_; simp [*])
       | (refine RunX.call rfl rfl rfl rfl ?_ (hof) ?_ ?_; (focus (simp (maxDischargeDepth := 120) [*]; done)); (focus (simp [*]; done)); refine RunX.evalY ?_; simp [*])
       | fail)
      refine WK.next (fun n => if n = 1 then 906 else n) (IH (i + 1) (⟨by omega, hj2, hK2⟩) (by first | omega | (dsimp only; omega))) (by repeat (first | exact TmW.nil | refine TmW.upd ?_ (by simp (maxDischargeDepth := 120) [hs3, hs4]))) (by repeat (first | exact BxW.nil | refine BxW.upd ?_ (by simp (maxDischargeDepth := 120) [hs3, hs4]))) (by first | exact InjW.id | exact InjW.nil | exact InjW.one | exact InjW.two (by simp) | exact InjW.three (by simp) (by simp) (by simp))
  · have hT : l.take i = l := List.take_of_length_le (by omega)
    have hfit : inFit l = true := inFit_of (fun j hj => hi.2.1 j (by omega)) (by have := hi.2.2; rwa [hT] at this)
    have hdef : inEnc l = if (rwFlat inOne l).length ≤ 60000 then (rwFlat inOne l, 0) else ([], 1) := by
      unfold inEnc
      by_cases hh : (rwFlat inOne l).length ≤ 60000
      · rw [if_pos hh, if_pos ⟨hfit, hh⟩]
      · rw [if_neg hh, if_neg fun h => hh h.2]
    rw [hT] at hfl ⊢
    obtain ⟨F, hF⟩ : ∃ F, rwFlat inOne l = F := ⟨_, rfl⟩
    rw [hF] at hdef hfl ⊢
    by_cases h6 : F.length ≤ 60000
    · have j6 : ¬ (60000 : Int) < F.length := by omega
      rw [if_pos h6] at hdef
      rw [hdef]
      clear hF hdef hi hfit
      repeat' (first
       | refine WK.seq ?_
       | refine WK.skip ?_
       | refine WK.exit rfl ?_
       | refine WK.condF rfl ?_
       | (refine Hid.h hQ _ _ ?_; clear hQ hA)
       | (refine WK.regH Tryz.ntmps40 (by kernel_rfl) ?_; intro A hA Q hQ; simp [*])
       | (refine WK.retT2 Tryz.func40 ?_ ?_ ?_ <;> simp (maxDischargeDepth := 120) [Tryz.results40, *])
       | fail)
    · have j6 : (60000 : Int) < F.length := by omega
      rw [if_neg h6] at hdef
      rw [hdef]
      clear hF hdef hi hfit
      repeat' (first
       | refine WK.seq ?_
       | refine WK.exit rfl ?_
       | refine WK.condT rfl ?_
       | refine WK.condF rfl ?_
       | (refine Hid.h hQ _ _ ?_; clear hQ hA)
       | (refine WK.regH Tryz.ntmps40 (by kernel_rfl) ?_; intro A hA Q hQ; simp [*])
       | fail)
      refine WK.ghost (Ghost.own 2 907 1 rfl rfl) ?_
      refine WK.retT2 Tryz.func40 ?_ ?_ ?_ <;> simp (maxDischargeDepth := 120) [Tryz.results40, byL_nil]
end Go.Proofs.YtiifjagnhnchoaaGreat
end

section
set_option linter.unusedVariables false
set_option linter.unusedSimpArgs false
namespace Go.Proofs.YtiifjagnhnchoaaGreat
open Go Go.AI Go.Proofs
attribute [local irreducible] FnP FnO FnB FnT FnSeq WK RunQ RunQW RunX RunXW

theorem riencP_c (l : List Inst) (hl : l.length ≤ 100) (ha : ∀ x, x ∈ l → x.acts.length ≤ 1000000) : FnP Tryz.prog 40 [instS l] (.tup [byS (inEnc l).1, .int .i64 (inEnc l).2]) := by
  have h := (rienc_c l hl ha).toP (by simp [byL_take]) (by rfl)
  rwa [Nat.mul_one, by_full _ _ rfl] at h
theorem inDec_small {b : List (BitVec 8)} {l : List Inst} {c : Option (Int × Int)} (h : inDec b = (l, c)) : l.length * 8 ≤ b.length ∧ ∀ x, x ∈ l → x.acts.length * 8 ≤ b.length := by
  cases c with
  | some c => rw [inDec_bad h]; simp
  | none =>
    have d := inDec_done h
    exact ⟨d.small, fun x hx => (d.right x hx).2⟩
end Go.Proofs.YtiifjagnhnchoaaGreat
end

section
set_option linter.unusedVariables false
set_option linter.unusedSimpArgs false
namespace Go.Proofs.YtiifjagnhnchoaaGreat
open Go Go.AI Go.Proofs

theorem inDone_five {b : List (BitVec 8)} {l : List Inst} (d : InDone b l) : l.length ≤ 5 := by
  have h2 : ∀ x, x ∈ inKinds l → x ∈ [(1 : Int), 2, 3, 4, 5] := fun x hx => by
    unfold inKinds at hx
    obtain ⟨y, hy, rfl⟩ := List.mem_map.1 hx
    have := inKind_of (inRight_facts (d.right y hy).1).1
    simp; omega
  have h3 := nodup_len _ _ d.once h2
  unfold inKinds at h3
  rw [List.length_map] at h3
  simpa using h3
/-- a fault, as it stands in a message -/
structure Flt where
  is : Bool
  kind : Int
  code : Int
  deriving DecidableEq, Inhabited
def Flt.enc (f : Flt) : List AV := [.bool f.is, .int .i64 f.kind, .int .i64 f.code]
structure Msg where
  kind : Int
  xid : Int
  flow : FlowMod
  group : GroupMod
  fault : Flt
  data : List (BitVec 8)
  deriving DecidableEq, Inhabited
def Msg.enc (m : Msg) : List AV := .int .i64 m.kind :: .int .i64 m.xid :: (m.flow.enc ++ (m.group.enc ++ (m.fault.enc ++ [.sl false m.data.length (byL m.data)])))
def FlowMod.same (a b : FlowMod) : Bool := (fmNums a == fmNums b) && (a.cookie == b.cookie && (a.cookieMask == b.cookieMask && (eqBy (fun x y : Oxm => x == y) a.mat b.mat && eqBy Inst.same a.insts b.insts)))
def Msg.same (a b : Msg) : Bool := a.kind == b.kind && (a.xid == b.xid && (a.fault == b.fault && (a.data == b.data && (FlowMod.same a.flow b.flow && GroupMod.same a.group b.group))))
theorem eqBy_eq {α : Type} [Inhabited α] {p : α → α → Bool} (hp : ∀ x y, p x y = true ↔ x = y) {l m : List α} : eqBy p l m = true ↔ l = m := by
  constructor
  · intro h
    unfold eqBy at h
    rw [Bool.and_eq_true, beq_iff_eq, List.all_eq_true] at h
    refine List.ext_getElem h.1 fun i h1 h2 => ?_
    have := (hp _ _).1 (h.2 i (by simpa using h1))
    rwa [nth_eq h1, nth_eq h2] at this
  · intro h; subst h; exact eqBy_refl (fun x => (hp x x).2 rfl) l
theorem fmSame_iff (a b : FlowMod) : FlowMod.same a b = true ↔ a = b := by
  obtain ⟨c, k, a1, a2, a3, a4, a5, a6, a7, a8, a9, l, i⟩ := a
  obtain ⟨c', k', b1, b2, b3, b4, b5, b6, b7, b8, b9, l', i'⟩ := b
  unfold FlowMod.same fmNums
  simp only [Bool.and_eq_true, beq_iff_eq, FlowMod.mk.injEq, List.cons.injEq, and_true]
  rw [eqBy_eq (fun x y : Oxm => beq_iff_eq), eqBy_eq (fun x y => instSame_iff)]
  constructor
  · rintro ⟨⟨h1, h2, h3, h4, h5, h6, h7, h8, h9⟩, h10, h11, h12, h13⟩
    exact ⟨h10, h11, h1, h2, h3, h4, h5, h6, h7, h8, h9, h12, h13⟩
  · rintro ⟨h10, h11, h1, h2, h3, h4, h5, h6, h7, h8, h9, h12, h13⟩
    exact ⟨⟨h1, h2, h3, h4, h5, h6, h7, h8, h9⟩, h10, h11, h12, h13⟩
theorem fmSame_self (a : FlowMod) : FlowMod.same a a = true := (fmSame_iff a a).2 rfl
end Go.Proofs.YtiifjagnhnchoaaGreat
end

section
set_option linter.unusedVariables false
set_option linter.unusedSimpArgs false
namespace Go.Proofs.YtiifjagnhnchoaaGreat
open Go Go.AI Go.Proofs
attribute [local irreducible] FnP FnO FnB FnT FnSeq WK RunQ RunQW RunX RunXW

theorem mencP_c (l : List Oxm) (hl : l.length ≤ 10000) : FnP Tryz.prog 35 [oxmS l] (.tup [byS (mEnc l).1, .int .i64 (mEnc l).2]) := by
  have h := (menc_c l hl).toP (by simp [byL_take]) (by rfl)
  rwa [Nat.mul_one, by_full _ _ rfl] at h
theorem rmencP_c (l : List Oxm) (hl : l.length ≤ 10000) : FnP Tryz.prog 39 [oxmS l] (.tup [byS (mEnc l).1, .int .i64 (mEnc l).2]) := by
  have h := (rmenc_c l hl).toP (by simp [byL_take]) (by rfl)
  rwa [Nat.mul_one, by_full _ _ rfl] at h
structure FmB (m : FlowMod) : Prop where
  mat : m.mat.length ≤ 10000
  insts : m.insts.length ≤ 100
  acts : ∀ x, x ∈ m.insts → x.acts.length ≤ 1000000
def fmSizesI : List Int := [1, 1, 2, 2, 2, 4, 4, 4, 2]
theorem fsizes_c : FnP Tryz.prog 20 [] (.agg (intL fmSizesI)) := by
  refine FnP.intro Tryz.func20 rfl rfl fun G w => ?_
  repeat' (first
   | refine WK.seq ?_
   | (refine Hid.h hQ _ _ ?_; clear hQ hA)
   | (refine WK.regH Tryz.ntmps20 (by kernel_rfl) ?_; intro A hA Q hQ; simp [*])
   | (refine WK.ret Tryz.func20 ?_ ?_ <;> simp (maxDischargeDepth := 120) [Tryz.results20, fmSizesI, intL, *])
   | fail)
theorem fnumbers_c (m : FlowMod) : FnP Tryz.prog 33 [.iptr m.enc] (.agg (intL (fmNums m))) := by
  unfold FlowMod.enc
  refine FnP.intro Tryz.func33 rfl rfl fun G w => ?_
  repeat' (first
   | refine WK.seq ?_
   | (refine Hid.h hQ _ _ ?_; clear hQ hA)
   | (refine WK.regH Tryz.ntmps33 (by kernel_rfl) ?_; intro A hA Q hQ; simp [*])
   | (refine WK.regX (by kernel_rfl) Tryz.ntmps33 (by kernel_rfl) ?_; intro A hA Q hQ; simp [*])
   | (refine Hid.h hQ _ _ _ (by decide +kernel) ?_; clear hQ hA)
   | (refine WK.ret Tryz.func33 ?_ ?_ <;> simp (maxDischargeDepth := 120) [Tryz.results33, fmNums, intL, *])
   | fail)
theorem fmakes_c (m : FlowMod) : FnP Tryz.prog 41 [.iptr m.enc] (.bool (decide (0 ≤ m.command) && decide (m.command ≤ 2))) := by
  unfold FlowMod.enc
  by_cases h1 : 0 ≤ m.command
  · refine FnP.intro Tryz.func41 rfl rfl fun G w => ?_
    repeat' (first
     | refine WK.seq ?_
     | (refine Hid.h hQ _ _ ?_; clear hQ hA)
     | (refine WK.regH Tryz.ntmps41 (by kernel_rfl) ?_; intro A hA Q hQ; simp [*])
     | (refine RunQ.gd rfl (by rw [hA.h]; rfl) ?_; simp [*])
     | (refine WK.ret Tryz.func41 ?_ ?_ <;> simp (maxDischargeDepth := 120) [Tryz.results41, *])
     | fail)
  · refine FnP.intro Tryz.func41 rfl rfl fun G w => ?_
    repeat' (first
     | refine WK.seq ?_
     | (refine Hid.h hQ _ _ ?_; clear hQ hA)
     | (refine WK.regH Tryz.ntmps41 (by kernel_rfl) ?_; intro A hA Q hQ; simp [*])
     | (refine RunQ.gd rfl (by rw [hA.h]; rfl) ?_; simp [*])
     | (refine WK.ret Tryz.func41 ?_ ?_ <;> simp (maxDischargeDepth := 120) [Tryz.results41, *])
     | fail)
def actOff (mat : List Oxm) (a : Action) : Bool := a.kind == 25 && !mMet mat a.oxm.field
theorem fmeets_c (m : FlowMod) (l : List Action) (hl : l.length ≤ 1000000) (hm : m.mat.length ≤ 1000000) : FnP Tryz.prog 42 [.iptr m.enc, actS l] (.bool (!l.any (actOff m.mat))) := by
  have mc : ∀ f, FnP Tryz.prog 79 [oxmS m.mat, .int .i64 f] (.bool (mMet m.mat f)) := fun f => met_c m.mat f hm
  unfold actS FlowMod.enc
  refine FnP.intro Tryz.func42 rfl rfl fun G w => ?_
  repeat' (first
   | refine WK.seq ?_
   | refine WK.block ?_
   | (refine Hid.h hQ _ _ ?_; clear hQ hA)
   | (refine WK.regH Tryz.ntmps42 (by kernel_rfl) ?_; intro A hA Q hQ; simp [*])
   | fail)
  refine WK.loopI (fun n => n) (fun i : Nat => (⟨(upd (upd (upd (upd J 0 (.iptr m.enc)) 7 (.sl false l.length (actL l))) 8 (.int .i64 l.length)) 9 (.int .i64 i)), B0, 0⟩ : St)) (fun i => i ≤ l.length ∧ ∀ j, j < i → actOff m.mat (nth l j) = false) (fun i => l.length - i) (0) (by repeat (first | exact TmW.nil | refine TmW.upd ?_ (by simp (maxDischargeDepth := 120) [FlowMod.enc]))) (by repeat (first | exact BxW.nil | refine BxW.upd ?_ (by simp (maxDischargeDepth := 120) [FlowMod.enc]))) (by first | exact InjW.id | exact InjW.nil | exact InjW.one | exact InjW.two (by simp) | exact InjW.three (by simp) (by simp) (by simp)) (⟨by omega, by simp⟩) (fun i hi IH => ?_)
  by_cases h1 : i < l.length
  · obtain ⟨h4, h3⟩ := act_load l i h1
    have h6 : IntKind.i64.wrap ((i : Int) + 1) = i + 1 := wrap_i64 (by omega) (by omega)
    have c := mc (nth l i).oxm.field
    have hF : actOff m.mat (nth l i) = true → l.any (actOff m.mat) = true := fun h => any_true' h1 h
    have hN : actOff m.mat (nth l i) = false → ∀ j, j < i + 1 → actOff m.mat (nth l j) = false := fun h j hj => by
      by_cases h7 : j = i
      · subst h7; exact h
      · exact hi.2 j (by omega)
    obtain ⟨a, ha⟩ : ∃ a, nth l i = a := ⟨_, rfl⟩
    rw [ha] at h4 c hF hN
    have e : actOff m.mat a = (a.kind == 25 && !mMet m.mat a.oxm.field) := rfl
    unfold Action.enc at h4
    unfold FlowMod.enc oxmS at *
    clear ha hi mc
    cases k1 : a.kind == 25
    · rw [k1] at e
      have hn := hN e
      clear hF hN e c
      repeat' (first
       | refine WK.seq ?_
       | refine WK.block ?_
       | refine WK.inBlock ?_
       | refine WK.skip ?_
       | refine WK.condT rfl ?_
       | refine WK.condF rfl ?_
       | (refine Hid.h hQ _ _ ?_; clear hQ hA)
       | (refine WK.regH Tryz.ntmps42 (by kernel_rfl) ?_; intro A hA Q hQ; simp [*])
       | (refine WK.regX (by kernel_rfl) Tryz.ntmps42 (by kernel_rfl) ?_; intro A hA Q hQ; simp [*])
       | (refine Hid.h hQ _ _ _ (by decide +kernel) ?_; clear hQ hA)
       | (refine RunX.gd rfl (by rw [hA.h]; rfl) ?_; simp [*])
       | fail)
      refine WK.next (fun n => n) (IH (i + 1) (⟨by omega, hn⟩) (by first | omega | (dsimp only; omega))) (by repeat (first | exact TmW.nil | refine TmW.upd ?_ (by simp (maxDischargeDepth := 120)))) (by repeat (first | exact BxW.nil | refine BxW.upd ?_ (by simp (maxDischargeDepth := 120)))) (by first | exact InjW.id | exact InjW.nil | exact InjW.one | exact InjW.two (by simp) | exact InjW.three (by simp) (by simp) (by simp))
    cases k2 : mMet m.mat a.oxm.field
    · rw [k1, k2] at e
      rw [k2] at c
      have hf := hF e
      clear hF hN e
      repeat' (first
       | refine WK.seq ?_
       | refine WK.block ?_
       | refine WK.skip ?_
       | refine WK.condT rfl ?_
       | (refine Hid.h hQ _ _ ?_; clear hQ hA)
       | (refine WK.regH Tryz.ntmps42 (by kernel_rfl) ?_; intro A hA Q hQ; simp [*])
       | (refine WK.regX (by kernel_rfl) Tryz.ntmps42 (by kernel_rfl) ?_; intro A hA Q hQ; simp [*])
       | (refine Hid.h hQ _ _ _ (by decide +kernel) ?_; clear hQ hA)
       | (refine RunX.gd rfl (by rw [hA.h]; rfl) ?_; simp [*])
       | (refine RunXW.call rfl rfl rfl ?_ (c) ?_ ?_; (focus (simp (maxDischargeDepth := 120) [*]; done)); (focus (simp [*]; done)); refine RunX.evalY ?_; simp [*])
       | (refine WK.ret Tryz.func42 ?_ ?_ <;> simp (maxDischargeDepth := 120) [Tryz.results42, *])
       | fail)
    · rw [k1, k2] at e
      rw [k2] at c
      have hn := hN e
      clear hF hN e
      repeat' (first
       | refine WK.seq ?_
       | refine WK.block ?_
       | refine WK.inBlock ?_
       | refine WK.skip ?_
       | refine WK.condT rfl ?_
       | refine WK.condF rfl ?_
       | (refine Hid.h hQ _ _ ?_; clear hQ hA)
       | (refine WK.regH Tryz.ntmps42 (by kernel_rfl) ?_; intro A hA Q hQ; simp [*])
       | (refine WK.regX (by kernel_rfl) Tryz.ntmps42 (by kernel_rfl) ?_; intro A hA Q hQ; simp [*])
       | (refine Hid.h hQ _ _ _ (by decide +kernel) ?_; clear hQ hA)
       | (refine RunX.gd rfl (by rw [hA.h]; rfl) ?_; simp [*])
       | (refine RunXW.call rfl rfl rfl ?_ (c) ?_ ?_; (focus (simp (maxDischargeDepth := 120) [*]; done)); (focus (simp [*]; done)); refine RunX.evalY ?_; simp [*])
       | fail)
      refine WK.next (fun n => n) (IH (i + 1) (⟨by omega, hn⟩) (by first | omega | (dsimp only; omega))) (by repeat (first | exact TmW.nil | refine TmW.upd ?_ (by simp (maxDischargeDepth := 120)))) (by repeat (first | exact BxW.nil | refine BxW.upd ?_ (by simp (maxDischargeDepth := 120)))) (by first | exact InjW.id | exact InjW.nil | exact InjW.one | exact InjW.two (by simp) | exact InjW.three (by simp) (by simp) (by simp))
  · have e := any_false' (p := actOff m.mat) (l := l) fun j hj => hi.2 j (by omega)
    unfold FlowMod.enc
    repeat' (first
     | refine WK.seq ?_
     | refine WK.exit rfl ?_
     | refine WK.condF rfl ?_
     | (refine Hid.h hQ _ _ ?_; clear hQ hA)
     | (refine WK.regH Tryz.ntmps42 (by kernel_rfl) ?_; intro A hA Q hQ; simp [*])
     | (refine WK.ret Tryz.func42 ?_ ?_ <;> simp (maxDischargeDepth := 120) [Tryz.results42, *])
     | fail)
theorem fmbad_c (k n : Int) : FnP Tryz.prog 18 [.int .i64 k, .int .i64 n] (.agg (gFault (some (k, n)))) := by
  refine FnP.intro Tryz.func18 rfl rfl fun G w => ?_
  repeat' (first
   | refine WK.seq ?_
   | (refine Hid.h hQ _ _ ?_; clear hQ hA)
   | (refine WK.regH Tryz.ntmps18 (by kernel_rfl) ?_; intro A hA Q hQ; simp [*])
   | (refine WK.ret Tryz.func18 ?_ ?_ <;> simp (maxDischargeDepth := 120) [Tryz.results18, gFault, *])
   | fail)
theorem fmWrong_eq (m : FlowMod) : fmWrong m = m.insts.any fun i => i.acts.any (actOff m.mat) := rfl
set_option maxHeartbeats 4000000 in
theorem fmcheck_c (m : FlowMod) (hm : FmB m) : FnP Tryz.prog 13 [.agg m.enc] (.agg (gFault (fmCheck m))) := by
  have b6 := fmbad_c 5 6
  have b7 := fmbad_c 5 7
  have b10 := fmbad_c 2 10
  have mk := fmakes_c m
  have me : ∀ l : List Action, l.length ≤ 1000000 → FnP Tryz.prog 42 [.iptr m.enc, actS l] (.bool (!l.any (actOff m.mat))) := fun l hl => fmeets_c m l hl (by have := hm.mat; omega)
  have e : fmCheck m = if m.command < 0 ∨ 4 < m.command then some (5, 6) else if 31 < m.flags then some (5, 7) else if 2 < m.command then none else if fmWrong m = true then some (2, 10) else none := rfl
  have hl := hm.insts
  unfold FlowMod.enc at *
  refine FnP.intro Tryz.func13 rfl rfl fun G w => ?_
  repeat' (first
   | refine WK.seq ?_
   | refine WK.block ?_
   | (refine Hid.h hQ _ _ ?_; clear hQ hA)
   | (refine WK.regH (id := 0) Tryz.ntmps13 (by kernel_rfl) ?_; intro A hA Q hQ; simp [*])
   | (refine WK.regH (id := 1) Tryz.ntmps13 (by kernel_rfl) ?_; intro A hA Q hQ; simp [*])
   | fail)
  refine WK.ghost (Ghost.frzVar 3 rfl rfl) ?_
  by_cases c1 : m.command < 0
  · rw [if_pos (.inl c1)] at e
    rw [e]
    clear e b7 b10 mk me
    repeat' (first
     | refine WK.seq ?_
     | refine WK.condT rfl ?_
     | (refine Hid.h hQ _ _ ?_; clear hQ hA)
     | (refine WK.regH Tryz.ntmps13 (by kernel_rfl) ?_; intro A hA Q hQ; simp [gFault, *])
     | (refine RunQ.gd rfl (by rw [hA.h]; rfl) ?_; simp [gFault, *])
     | (refine RunQ.call rfl rfl rfl rfl rfl ?_ (b6) ?_ ?_; (focus (simp (maxDischargeDepth := 120) [gFault, *]; done)); (focus (simp [gFault, *]; done)); refine RunQ.evalH ?_; simp [gFault, *])
     | (refine WK.ret Tryz.func13 ?_ ?_ <;> simp (maxDischargeDepth := 120) [Tryz.results13, gFault, *])
     | fail)
  by_cases c2 : 4 < m.command
  · rw [if_pos (.inr c2)] at e
    rw [e]
    clear e b7 b10 mk me
    repeat' (first
     | refine WK.seq ?_
     | refine WK.condT rfl ?_
     | (refine Hid.h hQ _ _ ?_; clear hQ hA)
     | (refine WK.regH Tryz.ntmps13 (by kernel_rfl) ?_; intro A hA Q hQ; simp [gFault, *])
     | (refine RunQ.gd rfl (by rw [hA.h]; rfl) ?_; simp [gFault, *])
     | (refine RunQ.call rfl rfl rfl rfl rfl ?_ (b6) ?_ ?_; (focus (simp (maxDischargeDepth := 120) [gFault, *]; done)); (focus (simp [gFault, *]; done)); refine RunQ.evalH ?_; simp [gFault, *])
     | (refine WK.ret Tryz.func13 ?_ ?_ <;> simp (maxDischargeDepth := 120) [Tryz.results13, gFault, *])
     | fail)
  rw [if_neg (by omega)] at e
  by_cases c3 : 31 < m.flags
  · rw [if_pos c3] at e
    rw [e]
    clear e b6 b10 mk me
    repeat' (first
     | refine WK.seq ?_
     | refine WK.condT rfl ?_
     | refine WK.condF rfl ?_
     | (refine Hid.h hQ _ _ ?_; clear hQ hA)
     | (refine WK.regH Tryz.ntmps13 (by kernel_rfl) ?_; intro A hA Q hQ; simp [gFault, *])
     | (refine RunQ.gd rfl (by rw [hA.h]; rfl) ?_; simp [gFault, *])
     | (refine RunQ.call rfl rfl rfl rfl rfl ?_ (b7) ?_ ?_; (focus (simp (maxDischargeDepth := 120) [gFault, *]; done)); (focus (simp [gFault, *]; done)); refine RunQ.evalH ?_; simp [gFault, *])
     | (refine WK.ret Tryz.func13 ?_ ?_ <;> simp (maxDischargeDepth := 120) [Tryz.results13, gFault, *])
     | fail)
  rw [if_neg c3] at e
  by_cases c4 : 2 < m.command
  · rw [if_pos c4] at e
    rw [e]
    have d : (decide (0 ≤ m.command) && decide (m.command ≤ 2)) = false := by rw [Bool.and_eq_false_iff, decide_eq_false_iff_not, decide_eq_false_iff_not]; omega
    rw [d] at mk
    clear e b6 b7 b10 me d
    repeat' (first
     | refine WK.seq ?_
     | refine WK.condT rfl ?_
     | refine WK.condF rfl ?_
     | (refine Hid.h hQ _ _ ?_; clear hQ hA)
     | (refine WK.regH Tryz.ntmps13 (by kernel_rfl) ?_; intro A hA Q hQ; simp [gFault, *])
     | (refine RunQ.gd rfl (by rw [hA.h]; rfl) ?_; simp [gFault, *])
     | (refine RunQ.call rfl rfl rfl rfl rfl ?_ (mk) ?_ ?_; (focus (simp (maxDischargeDepth := 120) [gFault, *]; done)); (focus (simp [gFault, *]; done)); refine RunQ.evalH ?_; simp [gFault, *])
     | (refine WK.ret Tryz.func13 ?_ ?_ <;> simp (maxDischargeDepth := 120) [Tryz.results13, gFault, *])
     | fail)
  rw [if_neg c4] at e
  have d : (decide (0 ≤ m.command) && decide (m.command ≤ 2)) = true := by rw [Bool.and_eq_true, decide_eq_true_eq, decide_eq_true_eq]; omega
  rw [d] at mk
  rw [fmWrong_eq] at e
  clear b6 b7 d
  repeat' (first
   | refine WK.seq ?_
   | refine WK.block ?_
   | refine WK.inBlock ?_
   | refine WK.skip ?_
   | refine WK.condF rfl ?_
   | (refine Hid.h hQ _ _ ?_; clear hQ hA)
   | (refine WK.regH Tryz.ntmps13 (by kernel_rfl) ?_; intro A hA Q hQ; simp [*])
   | (refine RunQ.gd rfl (by rw [hA.h]; rfl) ?_; simp [*])
   | (refine RunQ.call rfl rfl rfl rfl rfl ?_ (mk) ?_ ?_; (focus (simp (maxDischargeDepth := 120) [*]; done)); (focus (simp [*]; done)); refine RunQ.evalH ?_; simp [*])
   | fail)
  refine WK.loopI (fun n => if n = 0 then 1 else n) (fun i : Nat => (⟨(upd (upd (upd (upd (upd J 2 (.ptr 0 0)) 3 (.iptr m.enc)) 42 (.sl false m.insts.length (instL m.insts))) 43 (.int .i64 m.insts.length)) 44 (.int .i64 i)), (upd B0 0 (.var [.junk, .junk, .junk])), 0⟩ : St)) (fun i => i ≤ m.insts.length ∧ ∀ j, j < i → (nth m.insts j).acts.any (actOff m.mat) = false) (fun i => m.insts.length - i) (0) (by repeat (first | exact TmW.nil | refine TmW.upd ?_ (by simp (maxDischargeDepth := 120) [FlowMod.enc]))) (by repeat (first | exact BxW.nil | refine BxW.upd ?_ (by simp (maxDischargeDepth := 120) [FlowMod.enc]))) (by first | exact InjW.id | exact InjW.nil | exact InjW.one | exact InjW.two (by simp) | exact InjW.three (by simp) (by simp) (by simp)) (⟨by omega, by simp⟩) (fun i hi IH => ?_)
  clear mk c1 c2 c3 c4
  by_cases h1 : i < m.insts.length
  · have h4 := inst_sub m.insts i h1
    have h3 : 7 ≤ m.insts.length * 7 - i * 7 := by omega
    have h6 : IntKind.i64.wrap ((i : Int) + 1) = i + 1 := wrap_i64 (by omega) (by omega)
    have c := me (nth m.insts i).acts (hm.acts _ (nth_mem h1))
    have hF : (nth m.insts i).acts.any (actOff m.mat) = true → (m.insts.any fun i => i.acts.any (actOff m.mat)) = true := fun h => any_true' (p := fun i : Inst => i.acts.any (actOff m.mat)) h1 h
    have hN : (nth m.insts i).acts.any (actOff m.mat) = false → ∀ j, j < i + 1 → (nth m.insts j).acts.any (actOff m.mat) = false := fun h j hj => by
      by_cases h7 : j = i
      · subst h7; exact h
      · exact hi.2 j (by omega)
    obtain ⟨a, ha⟩ : ∃ a, nth m.insts i = a := ⟨_, rfl⟩
    rw [ha] at h4 c hF hN
    obtain ⟨z, hz⟩ : ∃ z, a.acts.any (actOff m.mat) = z := ⟨_, rfl⟩
    rw [hz] at c hF hN
    unfold Inst.enc at h4
    unfold actS at c
    unfold FlowMod.enc at *
    clear ha hi me hz hm
    cases z
    · have hn := hN rfl
      clear hF hN e b10
      repeat' (first
       | refine WK.seq ?_
       | refine WK.block ?_
       | refine WK.inBlock ?_
       | refine WK.skip ?_
       | refine WK.condT rfl ?_
       | refine WK.condF rfl ?_
       | (refine Hid.h hQ _ _ ?_; clear hQ hA)
       | (refine WK.regH Tryz.ntmps13 (by kernel_rfl) ?_; intro A hA Q hQ; simp [*])
       | (refine RunQ.call rfl rfl rfl rfl rfl ?_ (c) ?_ ?_; (focus (simp (maxDischargeDepth := 120) [*]; done)); (focus (simp [*]; done)); refine RunQ.evalH ?_; simp [*])
       | fail)
      refine WK.next (fun n => n) (IH (i + 1) (⟨by omega, hn⟩) (by first | omega | (dsimp only; omega))) (by repeat (first | exact TmW.nil | refine TmW.upd ?_ (by simp (maxDischargeDepth := 120)))) (by repeat (first | exact BxW.nil | refine BxW.upd ?_ (by simp (maxDischargeDepth := 120)))) (by first | exact InjW.id | exact InjW.nil | exact InjW.one | exact InjW.two (by simp) | exact InjW.three (by simp) (by simp) (by simp))
    · rw [if_pos (hF rfl)] at e
      rw [e]
      clear hF hN e
      repeat' (first
       | refine WK.seq ?_
       | refine WK.block ?_
       | refine WK.skip ?_
       | refine WK.condT rfl ?_
       | (refine Hid.h hQ _ _ ?_; clear hQ hA)
       | (refine WK.regH Tryz.ntmps13 (by kernel_rfl) ?_; intro A hA Q hQ; simp [gFault, *])
       | (refine RunQ.call rfl rfl rfl rfl rfl ?_ (c) ?_ ?_; (focus (simp (maxDischargeDepth := 120) [gFault, *]; done)); (focus (simp [gFault, *]; done)); refine RunQ.evalH ?_; simp [gFault, *])
       | (refine RunQ.call rfl rfl rfl rfl rfl ?_ (b10) ?_ ?_; (focus (simp (maxDischargeDepth := 120) [gFault, *]; done)); (focus (simp [gFault, *]; done)); refine RunQ.evalH ?_; simp [gFault, *])
       | (refine WK.ret Tryz.func13 ?_ ?_ <;> simp (maxDischargeDepth := 120) [Tryz.results13, gFault, *])
       | fail)
  · have ef := any_false' (p := fun i : Inst => i.acts.any (actOff m.mat)) (l := m.insts) fun j hj => hi.2 j (by omega)
    rw [if_neg (by rw [ef]; simp)] at e
    rw [e]
    clear e me b10 ef
    unfold FlowMod.enc at *
    repeat' (first
     | refine WK.seq ?_
     | refine WK.exit rfl ?_
     | refine WK.condF rfl ?_
     | (refine Hid.h hQ _ _ ?_; clear hQ hA)
     | (refine WK.regH Tryz.ntmps13 (by kernel_rfl) ?_; intro A hA Q hQ; simp [gFault, *])
     | (refine WK.ret Tryz.func13 ?_ ?_ <;> simp (maxDischargeDepth := 120) [Tryz.results13, gFault, *])
     | fail)
theorem fmNums_len (m : FlowMod) : (fmNums m).length = 9 := rfl
theorem fmSize_at : ∀ i : Nat, i < 9 → nth fmSizesI i = ((nth fmSizes i : Nat) : Int) ∧ Sz (nth fmSizes i) ∧ nth fmSizes i ≤ 4 := by
  intro i hi
  have : i = 0 ∨ i = 1 ∨ i = 2 ∨ i = 3 ∨ i = 4 ∨ i = 5 ∨ i = 6 ∨ i = 7 ∨ i = 8 := by omega
  rcases this with rfl | rfl | rfl | rfl | rfl | rfl | rfl | rfl | rfl <;> refine ⟨by rfl, ?_, by decide⟩ <;> unfold Sz <;> decide
theorem nth_zip {α β : Type} [Inhabited α] [Inhabited β] {l : List α} {k : List β} {i : Nat} (h1 : i < l.length) (h2 : i < k.length) : nth (l.zip k) i = (nth l i, nth k i) := by
  rw [nth_eq (l := l.zip k) (i := i) (by rw [List.length_zip]; omega), List.getElem_zip, nth_eq h1, nth_eq h2]
theorem fmZip_at (m : FlowMod) {i : Nat} (h : i < 9) : nth (fmZip m) i = (nth (fmNums m) i, nth fmSizes i) := nth_zip (by rw [fmNums_len]; exact h) h
theorem fmAll_false {m : FlowMod} {i : Nat} (h : i < 9) (hp : numOk (nth (fmNums m) i) (nth fmSizes i) = false) : fmRight m = false := by
  have : (fmZip m).all (fun x => numOk x.1 x.2) = false := all_false (i := i) h (by rw [fmZip_at m h]; exact hp)
  unfold fmRight
  rw [this]; rfl
theorem fmAll_true {m : FlowMod} (h : ∀ j, j < 9 → numOk (nth (fmNums m) j) (nth fmSizes j) = true) : fmRight m = ((mEnc m.mat).2 == 0 && ((inEnc m.insts).2 == 0 && (fmCheck m).isNone)) := by
  have : (fmZip m).all (fun x => numOk x.1 x.2) = true := all_true fun j hj => by rw [fmZip_at m hj]; exact h j hj
  unfold fmRight
  rw [this]; rfl
set_option maxHeartbeats 4000000 in
theorem fmright_c (m : FlowMod) (hm : FmB m) : FnP Tryz.prog 15 [.agg m.enc] (.bool (fmRight m)) := by
  have sz := fsizes_c
  have nm := fnumbers_c m
  have me := mencP_c m.mat hm.mat
  have ie := iencP_c m.insts hm.insts hm.acts
  have ck := fmcheck_c m hm
  have hF : ∀ i, i < 9 → numOk (nth (fmNums m) i) (nth fmSizes i) = false → fmRight m = false := fun i h hp => fmAll_false h hp
  have hT : (∀ j, j < 9 → numOk (nth (fmNums m) j) (nth fmSizes j) = true) → fmRight m = ((mEnc m.mat).2 == 0 && ((inEnc m.insts).2 == 0 && (fmCheck m).isNone)) := fmAll_true
  obtain ⟨N, hN⟩ : ∃ N, fmNums m = N := ⟨_, rfl⟩
  have hNl : N.length = 9 := by rw [← hN]; rfl
  rw [hN] at nm hF hT
  obtain ⟨M, hM⟩ : ∃ M, mEnc m.mat = M := ⟨_, rfl⟩
  obtain ⟨I, hI⟩ : ∃ I, inEnc m.insts = I := ⟨_, rfl⟩
  obtain ⟨C, hC⟩ : ∃ C, fmCheck m = C := ⟨_, rfl⟩
  rw [hM] at me hT
  rw [hI] at ie hT
  rw [hC] at ck hT
  simp only [byS, oxmS, instS] at me ie
  have hnl : (intL N).length = 9 := by rw [intL_len, hNl]
  have hsl : (intL fmSizesI).length = 9 := rfl
  clear hN hM hI hC hm
  unfold FlowMod.enc at *
  refine FnP.intro Tryz.func15 rfl rfl fun G w => ?_
  repeat' (first
   | refine WK.seq ?_
   | (refine Hid.h hQ _ _ ?_; clear hQ hA)
   | (refine WK.regH (id := 0) Tryz.ntmps15 (by kernel_rfl) ?_; intro A hA Q hQ; simp [*])
   | (refine WK.regH (id := 1) Tryz.ntmps15 (by kernel_rfl) ?_; intro A hA Q hQ; simp [*])
   | fail)
  refine WK.ghost (Ghost.frzVar 3 rfl rfl) ?_
  repeat' (first
   | refine WK.seq ?_
   | refine WK.block ?_
   | (refine Hid.h hQ _ _ ?_; clear hQ hA)
   | (refine WK.regH Tryz.ntmps15 (by kernel_rfl) ?_; intro A hA Q hQ; simp [*])
   | (refine RunQ.call rfl rfl rfl rfl rfl ?_ (sz) ?_ ?_; (focus (simp (maxDischargeDepth := 120) [*]; done)); (focus (simp [*]; done)); refine RunQ.evalH ?_; simp [*])
   | (refine RunQ.call rfl rfl rfl rfl rfl ?_ (nm) ?_ ?_; (focus (simp (maxDischargeDepth := 120) [*]; done)); (focus (simp [*]; done)); refine RunQ.evalH ?_; simp [*])
   | fail)
  refine WK.loopI (fun n => if n = 1 then 201 else n) (fun i : Nat => (⟨(upd (upd (upd (upd (upd J 1 (.ptr 0 0)) 3 (.iptr m.enc)) 4 (.ptr 1 0)) 16 (.agg (intL N))) 17 (.int .i64 i)), (upd (upd B0 0 (.var m.enc)) 1 (.var (intL fmSizesI))), 0⟩ : St)) (fun i => i ≤ 9 ∧ ∀ j, j < i → numOk (nth N j) (nth fmSizes j) = true) (fun i => 9 - i) (0) (by repeat (first | exact TmW.nil | refine TmW.upd ?_ (by simp (maxDischargeDepth := 120) [FlowMod.enc]))) (by repeat (first | exact BxW.nil | refine BxW.upd ?_ (by simp (maxDischargeDepth := 120) [FlowMod.enc]))) (by first | exact InjW.id | exact InjW.nil | exact InjW.one | exact InjW.two (by simp) | exact InjW.three (by simp) (by simp) (by simp)) (⟨by omega, by simp⟩) (fun i hi IH => ?_)
  clear sz nm
  unfold FlowMod.enc
  by_cases h1 : i < 9
  · obtain ⟨s1, s2, s3⟩ := fmSize_at i h1
    have h1' : (i : Int) < 9 := by omega
    have h6 : IntKind.i64.wrap ((i : Int) + 1) = i + 1 := wrap_i64 (by omega) (by omega)
    have c := nright_c (nth N i) (nth fmSizes i) s2
    have g1 := intL_get' N i (by omega)
    have g2 := intL_get' fmSizesI i h1
    rw [s1] at g2
    have hFi := hF i h1
    have hNi : numOk (nth N i) (nth fmSizes i) = true → ∀ j, j < i + 1 → numOk (nth N j) (nth fmSizes j) = true := fun h j hj => by
      by_cases h7 : j = i
      · subst h7; exact h
      · exact hi.2 j (by omega)
    obtain ⟨x, hx⟩ : ∃ x, nth N i = x := ⟨_, rfl⟩
    obtain ⟨s, hs⟩ : ∃ x, nth fmSizes i = x := ⟨_, rfl⟩
    rw [hx, hs] at c hFi hNi
    rw [hx] at g1
    rw [hs] at g2
    obtain ⟨z, hz⟩ : ∃ z, numOk x s = z := ⟨_, rfl⟩
    rw [hz] at c hFi hNi
    clear hx hs hz hi hF hT me ie ck s1 s2 s3
    cases z
    · have e := hFi rfl
      clear hNi hFi
      repeat' (first
       | refine WK.seq ?_
       | refine WK.block ?_
       | refine WK.skip ?_
       | refine WK.condT rfl ?_
       | (refine Hid.h hQ _ _ ?_; clear hQ hA)
       | (refine WK.regH Tryz.ntmps15 (by kernel_rfl) ?_; intro A hA Q hQ; simp [*])
       | (refine RunQ.call rfl rfl rfl rfl rfl ?_ (c) ?_ ?_; (focus (simp (maxDischargeDepth := 120) [*]; done)); (focus (simp [*]; done)); refine RunQ.evalH ?_; simp [*])
       | (refine WK.ret Tryz.func15 ?_ ?_ <;> simp (maxDischargeDepth := 120) [Tryz.results15, *])
       | fail)
    · have hn := hNi rfl
      clear hNi hFi
      repeat' (first
       | refine WK.seq ?_
       | refine WK.block ?_
       | refine WK.inBlock ?_
       | refine WK.skip ?_
       | refine WK.condT rfl ?_
       | refine WK.condF rfl ?_
       | (refine Hid.h hQ _ _ ?_; clear hQ hA)
       | (refine WK.regH Tryz.ntmps15 (by kernel_rfl) ?_; intro A hA Q hQ; simp [*])
       | (refine RunQ.call rfl rfl rfl rfl rfl ?_ (c) ?_ ?_; (focus (simp (maxDischargeDepth := 120) [*]; done)); (focus (simp [*]; done)); refine RunQ.evalH ?_; simp [*])
       | fail)
      refine WK.next (fun n => n) (IH (i + 1) (⟨by omega, hn⟩) (by first | omega | (dsimp only; omega))) (by repeat (first | exact TmW.nil | refine TmW.upd ?_ (by simp (maxDischargeDepth := 120) [FlowMod.enc]))) (by repeat (first | exact BxW.nil | refine BxW.upd ?_ (by simp (maxDischargeDepth := 120) [FlowMod.enc]))) (by first | exact InjW.id | exact InjW.nil | exact InjW.one | exact InjW.two (by simp) | exact InjW.three (by simp) (by simp) (by simp))
  · have e := hT fun j hj => hi.2 j (by omega)
    have h1' : ¬ (i : Int) < 9 := by omega
    clear hF hT hi
    obtain ⟨M1, M2⟩ := M
    obtain ⟨I1, I2⟩ := I
    simp only at me ie e
    cases k1 : M2 == 0
    · rw [k1] at e
      repeat' (first
       | refine WK.seq ?_
       | refine WK.exit rfl ?_
       | refine WK.condF rfl ?_
       | (refine Hid.h hQ _ _ ?_; clear hQ hA)
       | (refine WK.regH Tryz.ntmps15 (by kernel_rfl) ?_; intro A hA Q hQ; simp [*])
       | (refine RunQ.gd rfl (by rw [hA.h]; rfl) ?_; simp [*])
       | (refine RunQ.call rfl rfl rfl rfl rfl ?_ (me) ?_ ?_; (focus (simp (maxDischargeDepth := 120) [*]; done)); (focus (simp [*]; done)); refine RunQ.evalH ?_; simp [*])
       | (refine RunQ.call rfl rfl rfl rfl rfl ?_ (ie) ?_ ?_; (focus (simp (maxDischargeDepth := 120) [*]; done)); (focus (simp [*]; done)); refine RunQ.evalH ?_; simp [*])
       | (refine WK.ret Tryz.func15 ?_ ?_ <;> simp (maxDischargeDepth := 120) [Tryz.results15, *])
       | fail)
    cases k2 : I2 == 0
    · rw [k1, k2] at e
      repeat' (first
       | refine WK.seq ?_
       | refine WK.exit rfl ?_
       | refine WK.condF rfl ?_
       | (refine Hid.h hQ _ _ ?_; clear hQ hA)
       | (refine WK.regH Tryz.ntmps15 (by kernel_rfl) ?_; intro A hA Q hQ; simp [*])
       | (refine RunQ.gd rfl (by rw [hA.h]; rfl) ?_; simp [*])
       | (refine RunQ.call rfl rfl rfl rfl rfl ?_ (me) ?_ ?_; (focus (simp (maxDischargeDepth := 120) [*]; done)); (focus (simp [*]; done)); refine RunQ.evalH ?_; simp [*])
       | (refine RunQ.call rfl rfl rfl rfl rfl ?_ (ie) ?_ ?_; (focus (simp (maxDischargeDepth := 120) [*]; done)); (focus (simp [*]; done)); refine RunQ.evalH ?_; simp [*])
       | (refine WK.ret Tryz.func15 ?_ ?_ <;> simp (maxDischargeDepth := 120) [Tryz.results15, *])
       | fail)
    rw [k1, k2] at e
    cases C <;>
    · repeat' (first
       | refine WK.seq ?_
       | refine WK.exit rfl ?_
       | refine WK.condF rfl ?_
       | (refine Hid.h hQ _ _ ?_; clear hQ hA)
       | (refine WK.regH Tryz.ntmps15 (by kernel_rfl) ?_; intro A hA Q hQ; simp [gFault, *])
       | (refine RunQ.gd rfl (by rw [hA.h]; rfl) ?_; simp [gFault, *])
       | (refine RunQ.call rfl rfl rfl rfl rfl ?_ (me) ?_ ?_; (focus (simp (maxDischargeDepth := 120) [gFault, *]; done)); (focus (simp [gFault, *]; done)); refine RunQ.evalH ?_; simp [gFault, *])
       | (refine RunQ.call rfl rfl rfl rfl rfl ?_ (ie) ?_ ?_; (focus (simp (maxDischargeDepth := 120) [gFault, *]; done)); (focus (simp [gFault, *]; done)); refine RunQ.evalH ?_; simp [gFault, *])
       | (refine RunQW.call rfl rfl rfl rfl ?_ (ck) ?_ ?_; (focus (simp (maxDischargeDepth := 120) [gFault, *]; done)); (focus (simp [gFault, *]; done)); refine RunQ.evalH ?_; simp [gFault, *])
       | (refine WK.ret Tryz.func15 ?_ ?_ <;> simp (maxDischargeDepth := 120) [Tryz.results15, gFault, *])
       | fail)
theorem fmNums_eq (a b : FlowMod) : (fmNums a == fmNums b) = (a.table == b.table && (a.command == b.command && (a.idle == b.idle && (a.hard == b.hard && (a.prio == b.prio && (a.buffer == b.buffer && (a.outPort == b.outPort && (a.outGroup == b.outGroup && a.flags == b.flags)))))))) := by
  unfold fmNums
  rw [Bool.eq_iff_iff]
  simp only [beq_iff_eq, Bool.and_eq_true, List.cons.injEq, and_true]
theorem fmsame_c (a b : FlowMod) (ha : FmB a) : FnP Tryz.prog 17 [.agg a.enc, .agg b.enc] (.bool (FlowMod.same a b)) := by
  have na := fnumbers_c a
  have nb := fnumbers_c b
  have ms := msame_c a.mat b.mat (by have := ha.mat; omega)
  have is := insame_c a.insts b.insts (by have := ha.insts; omega) ha.acts
  have e : FlowMod.same a b = ((fmNums a == fmNums b) && (a.cookie == b.cookie && (a.cookieMask == b.cookieMask && (eqBy (fun x y : Oxm => x == y) a.mat b.mat && eqBy Inst.same a.insts b.insts)))) := rfl
  obtain ⟨z1, hz1⟩ : ∃ z, eqBy (fun x y : Oxm => x == y) a.mat b.mat = z := ⟨_, rfl⟩
  obtain ⟨z2, hz2⟩ : ∃ z, eqBy Inst.same a.insts b.insts = z := ⟨_, rfl⟩
  rw [hz1] at ms e
  rw [hz2] at is e
  rw [fmNums_eq] at e
  simp only [fmNums, intL, List.map_cons, List.map_nil] at na nb
  unfold oxmS instS at *
  unfold FlowMod.enc at *
  clear hz1 hz2
  refine FnP.intro Tryz.func17 rfl rfl fun G w => ?_
  repeat' (first
   | refine WK.seq ?_
   | (refine Hid.h hQ _ _ ?_; clear hQ hA)
   | (refine WK.regH (id := 0) Tryz.ntmps17 (by kernel_rfl) ?_; intro A hA Q hQ; simp [*])
   | (refine WK.regH (id := 1) Tryz.ntmps17 (by kernel_rfl) ?_; intro A hA Q hQ; simp [*])
   | (refine WK.regX (id := 0) (by kernel_rfl) Tryz.ntmps17 (by kernel_rfl) ?_; intro A hA Q hQ; simp [*])
   | (refine WK.regX (id := 1) (by kernel_rfl) Tryz.ntmps17 (by kernel_rfl) ?_; intro A hA Q hQ; simp [*])
   | (refine Hid.h hQ _ _ _ (by decide +kernel) ?_; clear hQ hA)
   | fail)
  refine WK.ghost (Ghost.frzVar 5 rfl rfl) ?_
  refine WK.ghost (Ghost.frzVar 6 rfl rfl) ?_
  repeat' (first
   | (refine Hid.h hQ _ _ ?_; clear hQ hA)
   | (refine Fork.mk (fun h => ?_) (fun h => ?_) <;> (first | (simp [*] at h; done) | (have h2 := h; simp at h2; exfalso; omega) | (have h2 := h; simp at h2; try simp only [Bool.not_eq_true', Bool.not_eq_false'] at h) | skip))
   | (refine WK.regH Tryz.ntmps17 (by kernel_rfl) ?_; intro A hA Q hQ; simp [*])
   | (refine RunQ.gd rfl (by rw [hA.h]; rfl) ?_; simp [*])
   | (refine RunQ.call rfl rfl rfl rfl rfl ?_ (na) ?_ ?_; (focus (simp (maxDischargeDepth := 120) [*]; done)); (focus (simp [*]; done)); refine RunQ.evalH ?_; simp [*])
   | (refine RunQ.call rfl rfl rfl rfl rfl ?_ (nb) ?_ ?_; (focus (simp (maxDischargeDepth := 120) [*]; done)); (focus (simp [*]; done)); refine RunQ.evalH ?_; simp [*])
   | (refine RunQW.call rfl rfl rfl rfl ?_ (ms) ?_ ?_; (focus (simp (maxDischargeDepth := 120) [*]; done)); (focus (simp [*]; done)); refine RunQ.evalH ?_; simp [*])
   | (refine RunQW.call rfl rfl rfl rfl ?_ (is) ?_ ?_; (focus (simp (maxDischargeDepth := 120) [*]; done)); (focus (simp [*]; done)); refine RunQ.evalH ?_; simp [*])
   | (refine WK.ret Tryz.func17 ?_ ?_ <;> simp (maxDischargeDepth := 120) [Tryz.results17, *])
   | fail)
end Go.Proofs.YtiifjagnhnchoaaGreat
end

section
set_option linter.unusedVariables false
set_option linter.unusedSimpArgs false
namespace Go.Proofs.YtiifjagnhnchoaaGreat
open Go Go.AI Go.Proofs
attribute [local irreducible] FnP FnO FnB FnT FnSeq WK RunQ RunQW RunX RunXW

theorem wN_lo (x : BitVec 64) : (wN ⟨0#64, x⟩ : Nat) = x.toNat := by unfold wN; simp
theorem nsEnc_succ {l : List (Int × Nat)} {i : Nat} (h : i < l.length) : nsEnc (l.take (i + 1)) = nsEnc (l.take i) ++ beN (nth l i).1 (nth l i).2 := by
  unfold nsEnc; rw [take_nth h, List.flatMap_append]; simp
def fmFront (m : FlowMod) : List (BitVec 8) := beN m.cookie.toNat 8 ++ beN m.cookieMask.toNat 8
def fmAcc (m : FlowMod) (i : Nat) : List (BitVec 8) := fmFront m ++ nsEnc ((fmZip m).take i)
theorem fmAcc_succ (m : FlowMod) {i : Nat} (h : i < 9) : fmAcc m (i + 1) = fmAcc m i ++ beN (nth (fmNums m) i) (nth fmSizes i) := by
  unfold fmAcc; rw [nsEnc_succ h, List.append_assoc, fmZip_at m h]
theorem fmAcc_len (m : FlowMod) (i : Nat) : (fmAcc m i).length ≤ 16 + i * 4 := by
  induction i with
  | zero => unfold fmAcc fmFront nsEnc; simp [beN_len]
  | succ i ih =>
    by_cases h : i < 9
    · rw [fmAcc_succ m h, List.length_append, beN_len]
      have := (fmSize_at i h).2.2
      omega
    · have e : fmAcc m (i + 1) = fmAcc m i := by
        unfold fmAcc
        rw [List.take_of_length_le (by show 9 ≤ i + 1; omega), List.take_of_length_le (by show 9 ≤ i; omega)]
      rw [e]; omega
theorem fmAcc_all (m : FlowMod) : fmAcc m 9 ++ [0#8, 0#8] = fmHead m ∧ (fmAcc m 9).length = 38 := by
  have e : fmAcc m 9 ++ [0#8, 0#8] = fmHead m := by
    unfold fmAcc fmFront fmHead
    rw [List.take_of_length_le (by show 9 ≤ 9; omega)]
    simp only [List.append_assoc]; rfl
  refine ⟨e, ?_⟩
  have h := fmHead_len m
  rw [← e, List.length_append] at h
  simp only [List.length_cons, List.length_nil] at h
  omega
theorem z2L : byL [0#8, 0#8] = [.int .u8 0, .int .u8 0] := rfl
set_option maxHeartbeats 4000000 in
theorem fmenc_c (m : FlowMod) (hm : FmB m) : FnT Tryz.prog 10 [.agg m.enc] (fmEnc m).1.length 1 (byL (fmEnc m).1) [.int .i64 (fmEnc m).2] := by
  have r := fmright_c m hm
  cases hr : fmRight m
  · have e := fmEnc_bad hr
    rw [hr] at r
    rw [e]
    unfold FlowMod.enc at *
    clear e hr
    refine FnT.intro Tryz.func10 rfl rfl fun G w => ?_
    repeat' (first
     | refine WK.seq ?_
     | refine WK.condT rfl ?_
     | (refine Hid.h hQ _ _ ?_; clear hQ hA)
     | (refine WK.regH Tryz.ntmps10 (by kernel_rfl) ?_; intro A hA Q hQ; simp [*])
     | (refine RunQ.call rfl rfl rfl rfl rfl ?_ (r) ?_ ?_; (focus (simp (maxDischargeDepth := 120) [*]; done)); (focus (simp [*]; done)); refine RunQ.evalH ?_; simp [*])
     | fail)
    refine WK.ghost (Ghost.own 2 900 1 rfl rfl) ?_
    refine WK.retT2 Tryz.func10 ?_ ?_ ?_ <;> simp (maxDischargeDepth := 120) [Tryz.results10, byL_nil]
  obtain ⟨hn, hM, hI, _⟩ := fmRight_facts hr
  have e : (fmEnc m) = (fmHead m ++ ((mEnc m.mat).1 ++ (inEnc m.insts).1), 0) := by unfold fmEnc; rw [if_pos hr]
  rw [hr] at r
  have sz := fsizes_c
  have nm := fnumbers_c m
  have me := mencP_c m.mat hm.mat
  have ie := iencP_c m.insts hm.insts hm.acts
  have hMl := mEnc_len m.mat
  have hIl := inEnc_len m.insts
  rw [hM] at me
  rw [hI] at ie
  have w1 := wput_c [] ⟨0#64, m.cookie⟩ 8 (by omega) (by simp)
  rw [wPut_beN _ _ _ (by omega), wN_lo, List.nil_append] at w1
  have w2 := wput_c (beN m.cookie.toNat 8) ⟨0#64, m.cookieMask⟩ 8 (by omega) (by simp [beN_len])
  rw [wPut_beN _ _ _ (by omega), wN_lo] at w2
  have hA0 : fmAcc m 0 = beN m.cookie.toNat 8 ++ beN m.cookieMask.toNat 8 := by unfold fmAcc fmFront nsEnc; simp
  rw [← hA0] at w2
  have h0l : (fmAcc m 0).length = 16 := by rw [hA0, List.length_append, beN_len, beN_len]
  have hcl : (beN m.cookie.toNat 8).length = 8 := beN_len _ _
  have hok : ∀ i, i < 9 → numOk (nth (fmNums m) i) (nth fmSizes i) = true := fun i hi => by
    have := hn _ (nth_mem (l := fmZip m) (i := i) hi)
    rw [fmZip_at m hi] at this; exact this
  have hsuc : ∀ i, i < 9 → fmAcc m (i + 1) = fmAcc m i ++ beN (nth (fmNums m) i) (nth fmSizes i) := fun i hi => fmAcc_succ m hi
  have hlen : ∀ i, (fmAcc m i).length ≤ 16 + i * 4 := fmAcc_len m
  obtain ⟨hAll, hAl⟩ := fmAcc_all m
  obtain ⟨N, hN⟩ : ∃ N, fmNums m = N := ⟨_, rfl⟩
  have hNl : N.length = 9 := by rw [← hN]; rfl
  rw [hN] at nm hok hsuc
  obtain ⟨C8, hC8⟩ : ∃ C, beN m.cookie.toNat 8 = C := ⟨_, rfl⟩
  rw [hC8] at w1 w2 hcl
  have hcf : (byL C8).take 8 = byL C8 := by_full _ _ hcl.symm
  simp only [byS, oxmS, instS, Wide.enc, uI_zero, hcl, h0l, byL_nil, List.length_nil] at w1 w2 me ie
  obtain ⟨M, hMM⟩ : ∃ M, (mEnc m.mat).1 = M := ⟨_, rfl⟩
  obtain ⟨I, hII⟩ : ∃ I, (inEnc m.insts).1 = I := ⟨_, rfl⟩
  rw [hMM] at me e hMl
  rw [hII] at ie e hIl
  rw [← hAll] at e
  have hsl : (intL fmSizesI).length = 9 := rfl
  clear hN hm hr hn hM hI hA0 hC8 hAll hMM hII
  unfold FlowMod.enc at *
  refine FnT.intro Tryz.func10 rfl rfl fun G w => ?_
  repeat' (first
   | refine WK.seq ?_
   | refine WK.skip ?_
   | refine WK.condF rfl ?_
   | (refine Hid.h hQ _ _ ?_; clear hQ hA)
   | (refine WK.regH (id := 0) Tryz.ntmps10 (by kernel_rfl) ?_; intro A hA Q hQ; simp [*])
   | (refine WK.regH (id := 1) Tryz.ntmps10 (by kernel_rfl) ?_; intro A hA Q hQ; simp [*])
   | (refine WK.regH (id := 2) Tryz.ntmps10 (by kernel_rfl) ?_; intro A hA Q hQ; simp [*])
   | (refine WK.regH (id := 3) Tryz.ntmps10 (by kernel_rfl) ?_; intro A hA Q hQ; simp [*])
   | (refine RunQ.call rfl rfl rfl rfl rfl ?_ (r) ?_ ?_; (focus (simp (maxDischargeDepth := 120) [*]; done)); (focus (simp [*]; done)); refine RunQ.evalH ?_; simp [*])
   | fail)
  refine WK.ghost (Ghost.frzVar 4 rfl rfl) ?_
  repeat' (first
   | refine WK.seq ?_
   | refine WK.block ?_
   | (refine Hid.h hQ _ _ ?_; clear hQ hA)
   | (refine WK.regH Tryz.ntmps10 (by kernel_rfl) ?_; intro A hA Q hQ; simp [*])
   | (refine WK.regX (by kernel_rfl) Tryz.ntmps10 (by kernel_rfl) ?_; intro A hA Q hQ; simp [*])
   | (refine Hid.h hQ _ _ _ (by decide +kernel) ?_; clear hQ hA)
   | (refine RunX.callO 900 rfl rfl rfl rfl ?_ (w1) ?_ ?_ ?_ ?_; (focus (simp (maxDischargeDepth := 120) [*]; done)); (focus (simp [*]; done)); (focus (simp [*]; done)); (focus (simp [*]; done)); refine RunX.evalY ?_; simp [*])
   | (refine RunX.callOz 901 25 1 rfl rfl rfl rfl rfl rfl ?_ (w2) ?_ ?_ (by simp) (by decide) ?_; (focus (simp (maxDischargeDepth := 120) [*]; done)); (focus (simp [*]; done)); (focus (simp [*]; done)); refine RunX.evalY ?_; simp [*])
   | (refine RunQ.call rfl rfl rfl rfl rfl ?_ (sz) ?_ ?_; (focus (simp (maxDischargeDepth := 120) [*]; done)); (focus (simp [*]; done)); refine RunQ.evalH ?_; simp [*])
   | (refine RunQ.call rfl rfl rfl rfl rfl ?_ (nm) ?_ ?_; (focus (simp (maxDischargeDepth := 120) [*]; done)); (focus (simp [*]; done)); refine RunQ.evalH ?_; simp [*])
   | fail)
  refine WK.loopI (fun n => if n = 1 then 901 else if n = 2 then 401 else n) (fun i : Nat => (⟨(upd (upd (upd (upd (upd J 4 (.iptr m.enc)) 5 (.msl 1 0 (fmAcc m i).length)) 6 (.ptr 2 0)) 35 (.agg (intL N))) 36 (.int .i64 i)), (upd (upd B0 1 (.buf 1 (byL (fmAcc m i)))) 2 (.var (intL fmSizesI))), 0⟩ : St)) (fun i => i ≤ 9) (fun i => 9 - i) (0) (by repeat (first | exact TmW.nil | refine TmW.upd ?_ (by simp (maxDischargeDepth := 120) [FlowMod.enc, h0l]))) (by repeat (first | exact BxW.nil | refine BxW.upd ?_ (by simp (maxDischargeDepth := 120) [FlowMod.enc, h0l]))) (by first | exact InjW.id | exact InjW.nil | exact InjW.one | exact InjW.two (by simp) | exact InjW.three (by simp) (by simp) (by simp)) (Nat.zero_le _) (fun i hi IH => ?_)
  clear r sz nm w1 w2
  unfold FlowMod.enc
  by_cases h1 : i < 9
  · obtain ⟨s1, s2, s3⟩ := fmSize_at i h1
    have h1' : (i : Int) < 9 := by omega
    have h6 : IntKind.i64.wrap ((i : Int) + 1) = i + 1 := wrap_i64 (by omega) (by omega)
    have hl := hlen i
    have c := nput_c (fmAcc m i) (nth N i) (nth fmSizes i) s2 (by omega)
    rw [putN_beN (hok i h1), ← hsuc i h1] at c
    have g1 := intL_get' N i (by omega)
    have g2 := intL_get' fmSizesI i h1
    rw [s1] at g2
    obtain ⟨x, hx⟩ : ∃ x, nth N i = x := ⟨_, rfl⟩
    obtain ⟨s, hs⟩ : ∃ x, nth fmSizes i = x := ⟨_, rfl⟩
    rw [hx, hs] at c
    rw [hx] at g1
    rw [hs] at g2
    obtain ⟨F, hF⟩ : ∃ F, fmAcc m i = F := ⟨_, rfl⟩
    rw [hF] at c ⊢
    have hfu := by_full F F.length rfl
    have hnl : (intL N).length = 9 := by rw [intL_len, hNl]
    unfold byS at c
    clear hx hs hF hok hsuc hlen s1 s2 s3 me ie e hAl
    repeat' (first
     | refine WK.seq ?_
     | refine WK.block ?_
     | refine WK.inBlock ?_
     | refine WK.skip ?_
     | refine WK.condT rfl ?_
     | (refine Hid.h hQ _ _ ?_; clear hQ hA)
     | (refine WK.regH Tryz.ntmps10 (by kernel_rfl) ?_; intro A hA Q hQ; simp [*])
     | (refine RunQ.callOz 902 40 1 rfl rfl rfl rfl rfl rfl rfl ?_ (c) ?_ ?_ (by simp) (by decide) ?_; (focus (simp (maxDischargeDepth := 120) [*]; done)); (focus (simp [*]; done)); (focus (simp [*]; done)); refine RunQ.evalH ?_; simp [*])
     | fail)
    refine WK.next (fun n => if n = 1 then 902 else n) (IH (i + 1) (by omega) (by first | omega | (dsimp only; omega))) (by repeat (first | exact TmW.nil | refine TmW.upd ?_ (by simp (maxDischargeDepth := 120) [FlowMod.enc]))) (by repeat (first | exact BxW.nil | refine BxW.upd ?_ (by simp (maxDischargeDepth := 120) [FlowMod.enc]))) (by first | exact InjW.id | exact InjW.nil | exact InjW.one | exact InjW.two (by simp) | exact InjW.three (by simp) (by simp) (by simp))
  · have hi9 : i = 9 := by omega
    subst hi9
    rw [e]
    obtain ⟨F, hF⟩ : ∃ F, fmAcc m 9 = F := ⟨_, rfl⟩
    rw [hF] at hAl ⊢
    have hA2 : byL F ++ [AV.int .u8 0, AV.int .u8 0] = byL (F ++ [0#8, 0#8]) := by rw [byL_app, z2L]
    have hA2l : (F ++ [0#8, 0#8]).length = 40 := by rw [List.length_append, hAl]; rfl
    obtain ⟨H, hH⟩ : ∃ H, F ++ [0#8, 0#8] = H := ⟨_, rfl⟩
    rw [hH] at hA2 hA2l ⊢
    have hA3 : byL H ++ byL M = byL (H ++ M) := (byL_app _ _).symm
    have hA3l : (H ++ M).length = 40 + M.length := by rw [List.length_append, hA2l]
    have hE : H ++ (M ++ I) = (H ++ M) ++ I := (List.append_assoc _ _ _).symm
    rw [hE]
    obtain ⟨K, hK⟩ : ∃ K, H ++ M = K := ⟨_, rfl⟩
    rw [hK] at hA3 hA3l ⊢
    have hA4 : byL K ++ byL I = byL (K ++ I) := (byL_app _ _).symm
    have hA4l : (K ++ I).length = 40 + M.length + I.length := by rw [List.length_append, hA3l]
    obtain ⟨E, hEE⟩ : ∃ E, K ++ I = E := ⟨_, rfl⟩
    rw [hEE] at hA4 hA4l ⊢
    have hfM := by_full M M.length rfl
    have hfI := by_full I I.length rfl
    have hb1 : 40 + M.length ≤ 140737488355328 := by omega
    have hb2 : 40 + M.length + I.length ≤ 140737488355328 := by omega
    rw [hAl]
    simp only
    rw [hA4l]
    clear hok hsuc hlen e hF hH hE hK hEE hMl hIl hA4l h1 h0l hcl hcf hNl hsl
    repeat' (first
     | refine WK.seq ?_
     | refine WK.exit rfl ?_
     | refine WK.condF rfl ?_
     | (refine Hid.h hQ _ _ ?_; clear hQ hA)
     | (refine WK.regH Tryz.ntmps10 (by kernel_rfl) ?_; intro A hA Q hQ; simp [*])
     | (refine RunQ.append 903 appByte rfl rfl rfl rfl rfl rfl rfl rfl rfl ?_ ?_ ?_ ?_ ?_; (focus (first | omega | (simp [*]; done); done)); (focus (first | omega | (simp [*]; done); done)); (focus (first | omega | (simp [*]; done); done)); (focus (first | omega | (simp [*]; done); done)); refine RunQ.evalH ?_; simp [*])
     | (refine RunQ.append 904 appByte rfl rfl rfl rfl rfl rfl rfl rfl rfl ?_ ?_ ?_ ?_ ?_; (focus (first | omega | (simp [*]; done); done)); (focus (first | omega | (simp [*]; done); done)); (focus (first | omega | (simp [*]; done); done)); (focus (first | omega | (simp [*]; done); done)); refine RunQ.evalH ?_; simp [*])
     | (refine RunQ.append 905 appByte rfl rfl rfl rfl rfl rfl rfl rfl rfl ?_ ?_ ?_ ?_ ?_; (focus (first | omega | (simp [*]; done); done)); (focus (first | omega | (simp [*]; done); done)); (focus (first | omega | (simp [*]; done); done)); (focus (first | omega | (simp [*]; done); done)); refine RunQ.evalH ?_; simp [*])
     | (refine RunQ.call rfl rfl rfl rfl rfl ?_ (me) ?_ ?_; (focus (simp (maxDischargeDepth := 120) [*]; done)); (focus (simp [*]; done)); refine RunQ.evalH ?_; simp [*])
     | (refine RunQ.call rfl rfl rfl rfl rfl ?_ (ie) ?_ ?_; (focus (simp (maxDischargeDepth := 120) [*]; done)); (focus (simp [*]; done)); refine RunQ.evalH ?_; simp [*])
     | (refine WK.retT2 Tryz.func10 ?_ ?_ ?_ <;> simp (maxDischargeDepth := 120) [Tryz.results10, *])
     | fail)
theorem fmencP_c (m : FlowMod) (hm : FmB m) : FnP Tryz.prog 10 [.agg m.enc] (.tup [byS (fmEnc m).1, .int .i64 (fmEnc m).2]) := by
  have h := (fmenc_c m hm).toP (by simp [byL_take]) (by rfl)
  rwa [Nat.mul_one, by_full _ _ rfl] at h
end Go.Proofs.YtiifjagnhnchoaaGreat
end
