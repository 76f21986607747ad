/- Actions in a row: the reference reads them; the laws. -/
import Derived.Test.YteonfhnljphbpaaWk6
set_option linter.all false
set_option linter.unnecessarySimpa false
set_option linter.unusedVariables false
set_option linter.unusedSimpArgs false
namespace Go.Proofs.Yteonfhnljphbpaa
open Go Go.AI Go.Proofs
attribute [local irreducible] FnP FnO FnB FnT FnSeq WK RunQ RunQW RunX RunXW

theorem wrong_c (a : Action) : FnP Try.prog 21 [.agg a.enc] (.bool (!Action.right a)) := by
  have h := aright_c a
  refine FnP.intro Try.func21 rfl rfl fun G w => ?_
  repeat' (first
   | refine WK.seq ?_
   | refine WK.block ?_
   | refine WK.inBlock ?_
   | refine WK.skip ?_
   | refine WK.label ?_
   | refine WK.scope ?_
   | refine WK.inScope ?_
   | refine WK.exit rfl ?_
   | refine WK.condT rfl ?_
   | refine WK.condF rfl ?_
   | (refine Hid.h hQ _ _ ?_; clear hQ hA)
   | refine WK.condAny rfl ?_ ?_
   | ((first | refine WK.cond2 rfl (fun h => ?_) (fun h => ?_)) <;> (first | (simp [*] at h; done) | (have h2 := h; simp at h2; exfalso; omega) | (have h2 := h; simp at h2; try simp only [Bool.not_eq_true', Bool.not_eq_false'] at h) | skip))
   | (refine WK.regH Try.ntmps21 (by kernel_rfl) ?_; intro A hA Q hQ; simp [*])
   | ((refine RunQ.call rfl rfl rfl rfl rfl ?_ (h) ?_ ?_; (focus (simp (maxDischargeDepth := 120) [*]; done))); (focus (simp [*]; done)); refine RunQ.evalH ?_; simp [*])
   | (refine WK.ret Try.func21 ?_ ?_ <;> simp (maxDischargeDepth := 120) [Try.results21, *])
   | fail)
theorem actsJoin_c (l k : List Action) (hl : l.length ≤ 2000000000000) (hk : k.length ≤ 2000000000000) : FnP Try.prog 5 [actS l, actS k] (.bool true) := by
  have w : IntKind.i64.wrap ((l.length : Int) + (k.length : Int)) = (l.length : Int) + (k.length : Int) := wrap_i64 (by omega) (by omega)
  by_cases g : 100 < l.length + k.length
  · have g' : (100 : Int) < (l.length : Int) + (k.length : Int) := by omega
    unfold actS
    refine FnP.intro Try.func5 rfl rfl fun G w => ?_
    repeat' (first
     | refine WK.seq ?_
     | refine WK.block ?_
     | refine WK.inBlock ?_
     | refine WK.skip ?_
     | refine WK.label ?_
     | refine WK.scope ?_
     | refine WK.inScope ?_
     | refine WK.exit rfl ?_
     | refine WK.condT rfl ?_
     | refine WK.condF rfl ?_
     | (refine Hid.h hQ _ _ ?_; clear hQ hA)
     | refine WK.condAny rfl ?_ ?_
     | ((first | refine WK.cond2 rfl (fun h => ?_) (fun h => ?_) | refine Fork.mk (fun h => ?_) (fun h => ?_)) <;> (first | (simp [*] at h; done) | (have h2 := h; simp at h2; exfalso; omega) | (have h2 := h; simp at h2; try simp only [Bool.not_eq_true', Bool.not_eq_false'] at h) | skip))
     | (refine WK.regH Try.ntmps5 (by kernel_rfl) ?_; intro A hA Q hQ; simp [*])
     | (refine RunQ.gd rfl (by rw [hA.h]; rfl) ?_; simp [*])
     | (((first | refine RunQ.call rfl rfl rfl rfl rfl ?_ (awake13_c) ?_ ?_ | refine RunQW.call rfl rfl rfl rfl ?_ (awake13_c) ?_ ?_); (focus (simp (maxDischargeDepth := 120) [*]; done))); (focus (simp [*]; done)); refine RunQ.evalH ?_; simp [*])
     | (refine WK.ret Try.func5 ?_ ?_ <;> simp (maxDischargeDepth := 120) [Try.results5, *])
     | fail)
  have g' : ¬ (100 : Int) < (l.length : Int) + (k.length : Int) := by omega
  have p1 := acencP_c l (by omega)
  have p2 := acencP_c k (by omega)
  have p3 := acencP_c (l ++ k) (by rw [List.length_append]; omega)
  have cl := clone_actO l (by omega)
  have n1 := containsf_act 21 [] (fun a => !Action.right a) l rfl (by omega) (fun x _ => wrong_c x)
  have n2 := containsf_act 21 [] (fun a => !Action.right a) k rfl (by omega) (fun x _ => wrong_c x)
  rw [any_wrong] at n1 n2
  rw [acEnc_join l k (by omega)] at p3
  rw [acEnc_short l (by omega)] at p1
  rw [acEnc_short k (by omega)] at p2
  have fl := acFlat_len l
  have fk := acFlat_len k
  have hbd : (l.length + k.length) * 88 ≤ 140737488355328 := by omega
  have hfull : (actL l ++ actL k).take ((l.length + k.length) * 11) = actL l ++ actL k := List.take_of_length_le (by simp; omega)
  obtain ⟨r1, h1⟩ : ∃ r, l.all Action.right = r := ⟨_, rfl⟩
  obtain ⟨r2, h2⟩ : ∃ r, k.all Action.right = r := ⟨_, rfl⟩
  obtain ⟨A, hA⟩ : ∃ A, acFlat l = A := ⟨_, rfl⟩
  obtain ⟨B, hB⟩ : ∃ B, acFlat k = B := ⟨_, rfl⟩
  rw [h1, hA] at p1
  rw [h2, hB] at p2
  rw [h1, h2, hA, hB] at p3
  rw [h1] at n1
  rw [h2] at n2
  rw [hA] at fl
  rw [hB] at fk
  clear h1 h2 hA hB
  have c2 := clone_by A (by omega)
  have q := bequal_c (A ++ B) (A ++ B) (by rw [List.length_append]; omega)
  rw [beq_self_eq_true] at q
  have hbd2 : A.length + B.length ≤ 140737488355328 := by omega
  have hB1 : (byL B).take B.length = byL B := by_full _ _ rfl
  have hfull2 : (byL A ++ byL B).take (A.length + B.length) = byL A ++ byL B := List.take_of_length_le (by simp)
  clear fl fk g
  cases r1
  · rw [if_neg Bool.false_ne_true] at p1
    rw [Bool.false_and, if_neg Bool.false_ne_true] at p3
    unfold byS actS at *
    rw [List.length_append, actL_app] at p3
    clear q c2 hfull2 hB1 hbd2
    cases r2 <;>
    · simp only [if_pos, if_neg Bool.false_ne_true] at p2
      refine FnP.intro Try.func5 rfl rfl fun G w => ?_
      repeat' (first
       | refine WK.seq ?_
       | refine WK.block ?_
       | refine WK.inBlock ?_
       | refine WK.skip ?_
       | refine WK.label ?_
       | refine WK.scope ?_
       | refine WK.inScope ?_
       | refine WK.exit rfl ?_
       | refine WK.condT rfl ?_
       | refine WK.condF rfl ?_
       | (refine Hid.h hQ _ _ ?_; clear hQ hA)
       | refine WK.condAny rfl ?_ ?_
       | ((first | refine WK.cond2 rfl (fun h => ?_) (fun h => ?_) | refine Fork.mk (fun h => ?_) (fun h => ?_)) <;> (first | (simp [*] at h; done) | (have h2 := h; simp at h2; exfalso; omega) | (have h2 := h; simp at h2; try simp only [Bool.not_eq_true', Bool.not_eq_false'] at h) | skip))
       | (refine WK.regH Try.ntmps5 (by kernel_rfl) ?_; intro A hA Q hQ; simp [bne, *])
       | (refine RunQ.gd rfl (by rw [hA.h]; rfl) ?_; simp [bne, *])
       | (refine RunQ.callO 900 rfl rfl rfl rfl rfl ?_ (cl) ?_ ?_ ?_ ?_; (focus (simp (maxDischargeDepth := 120) [bne, *]; done)); (focus (simp [bne, *]; done)); (focus (simp [bne, *]; done)); (focus (simp [bne, *]; done)); refine RunQ.evalH ?_; simp [bne, *])
       | (refine RunQW.by (fun hw => ?_); refine RunQ.callO 900 rfl rfl rfl hw rfl ?_ (cl) ?_ ?_ ?_ ?_; (focus (simp (maxDischargeDepth := 120) [bne, *]; done)); (focus (simp [bne, *]; done)); (focus (simp [bne, *]; done)); (focus (simp [bne, *]; done)); clear hw; refine RunQ.evalH ?_; simp [bne, *])
       | (refine RunQ.append 901 appAct rfl rfl rfl rfl rfl rfl rfl rfl rfl ?_ ?_ ?_ ?_ ?_; (focus (first | omega | (simp [bne, *]; done); done)); (focus (first | omega | (simp [bne, *]; done); done)); (focus (first | omega | (simp [bne, *]; done); done)); (focus (first | omega | (simp [bne, *]; done); done)); refine RunQ.evalH ?_; simp [bne, *])
       | (refine RunQW.by (fun hw => ?_); refine RunQ.append 901 appAct rfl rfl rfl rfl rfl rfl rfl hw rfl ?_ ?_ ?_ ?_ ?_; (focus (first | omega | (simp [bne, *]; done); done)); (focus (first | omega | (simp [bne, *]; done); done)); (focus (first | omega | (simp [bne, *]; done); done)); (focus (first | omega | (simp [bne, *]; done); done)); clear hw; refine RunQ.evalH ?_; simp [bne, *])
       | (refine RunQ.callFz 32 11 rfl rfl rfl rfl rfl rfl rfl ?_ (p3) ?_ ?_; (focus (simp (maxDischargeDepth := 120) [bne, *]; done)); (focus (simp [bne, *]; done)); refine RunQ.evalH ?_; simp [bne, *])
       | (refine RunQW.by (fun hw => ?_); refine RunQ.callFz 32 11 rfl rfl hw rfl rfl rfl rfl ?_ (p3) ?_ ?_; (focus (simp (maxDischargeDepth := 120) [bne, *]; done)); (focus (simp [bne, *]; done)); clear hw; refine RunQ.evalH ?_; simp [bne, *])
       | ((first | ((first | refine RunQ.call rfl rfl rfl rfl rfl ?_ (p1) ?_ ?_ | refine RunQW.call rfl rfl rfl rfl ?_ (p1) ?_ ?_); (focus (simp (maxDischargeDepth := 120) [bne, *]; done))) | ((first | refine RunQ.call rfl rfl rfl rfl rfl ?_ (p2) ?_ ?_ | refine RunQW.call rfl rfl rfl rfl ?_ (p2) ?_ ?_); (focus (simp (maxDischargeDepth := 120) [bne, *]; done))) | ((first | refine RunQ.call rfl rfl rfl rfl rfl ?_ (n1) ?_ ?_ | refine RunQW.call rfl rfl rfl rfl ?_ (n1) ?_ ?_); (focus (simp (maxDischargeDepth := 120) [bne, *]; done))) | ((first | refine RunQ.call rfl rfl rfl rfl rfl ?_ (n2) ?_ ?_ | refine RunQW.call rfl rfl rfl rfl ?_ (n2) ?_ ?_); (focus (simp (maxDischargeDepth := 120) [bne, *]; done))) | ((first | refine RunQ.call rfl rfl rfl rfl rfl ?_ (awake13_c) ?_ ?_ | refine RunQW.call rfl rfl rfl rfl ?_ (awake13_c) ?_ ?_); (focus (simp (maxDischargeDepth := 120) [bne, *]; done)))); (focus (simp [bne, *]; done)); refine RunQ.evalH ?_; simp [bne, *])
       | (refine WK.ret Try.func5 ?_ ?_ <;> simp (maxDischargeDepth := 120) [Try.results5, bne, *])
       | fail)
  · rw [if_pos rfl] at p1
    rw [Bool.true_and] at p3
    unfold byS actS at *
    rw [List.length_append, actL_app] at p3
    cases r2
    · rw [if_neg Bool.false_ne_true] at p2 p3
      clear q c2 hfull2 hB1 hbd2
      refine FnP.intro Try.func5 rfl rfl fun G w => ?_
      repeat' (first
       | refine WK.seq ?_
       | refine WK.block ?_
       | refine WK.inBlock ?_
       | refine WK.skip ?_
       | refine WK.label ?_
       | refine WK.scope ?_
       | refine WK.inScope ?_
       | refine WK.exit rfl ?_
       | refine WK.condT rfl ?_
       | refine WK.condF rfl ?_
       | (refine Hid.h hQ _ _ ?_; clear hQ hA)
       | refine WK.condAny rfl ?_ ?_
       | ((first | refine WK.cond2 rfl (fun h => ?_) (fun h => ?_) | refine Fork.mk (fun h => ?_) (fun h => ?_)) <;> (first | (simp [*] at h; done) | (have h2 := h; simp at h2; exfalso; omega) | (have h2 := h; simp at h2; try simp only [Bool.not_eq_true', Bool.not_eq_false'] at h) | skip))
       | (refine WK.regH Try.ntmps5 (by kernel_rfl) ?_; intro A hA Q hQ; simp [bne, *])
       | (refine RunQ.gd rfl (by rw [hA.h]; rfl) ?_; simp [bne, *])
       | (refine RunQ.callO 900 rfl rfl rfl rfl rfl ?_ (cl) ?_ ?_ ?_ ?_; (focus (simp (maxDischargeDepth := 120) [bne, *]; done)); (focus (simp [bne, *]; done)); (focus (simp [bne, *]; done)); (focus (simp [bne, *]; done)); refine RunQ.evalH ?_; simp [bne, *])
       | (refine RunQW.by (fun hw => ?_); refine RunQ.callO 900 rfl rfl rfl hw rfl ?_ (cl) ?_ ?_ ?_ ?_; (focus (simp (maxDischargeDepth := 120) [bne, *]; done)); (focus (simp [bne, *]; done)); (focus (simp [bne, *]; done)); (focus (simp [bne, *]; done)); clear hw; refine RunQ.evalH ?_; simp [bne, *])
       | (refine RunQ.append 901 appAct rfl rfl rfl rfl rfl rfl rfl rfl rfl ?_ ?_ ?_ ?_ ?_; (focus (first | omega | (simp [bne, *]; done); done)); (focus (first | omega | (simp [bne, *]; done); done)); (focus (first | omega | (simp [bne, *]; done); done)); (focus (first | omega | (simp [bne, *]; done); done)); refine RunQ.evalH ?_; simp [bne, *])
       | (refine RunQW.by (fun hw => ?_); refine RunQ.append 901 appAct rfl rfl rfl rfl rfl rfl rfl hw rfl ?_ ?_ ?_ ?_ ?_; (focus (first | omega | (simp [bne, *]; done); done)); (focus (first | omega | (simp [bne, *]; done); done)); (focus (first | omega | (simp [bne, *]; done); done)); (focus (first | omega | (simp [bne, *]; done); done)); clear hw; refine RunQ.evalH ?_; simp [bne, *])
       | (refine RunQ.callFz 32 11 rfl rfl rfl rfl rfl rfl rfl ?_ (p3) ?_ ?_; (focus (simp (maxDischargeDepth := 120) [bne, *]; done)); (focus (simp [bne, *]; done)); refine RunQ.evalH ?_; simp [bne, *])
       | (refine RunQW.by (fun hw => ?_); refine RunQ.callFz 32 11 rfl rfl hw rfl rfl rfl rfl ?_ (p3) ?_ ?_; (focus (simp (maxDischargeDepth := 120) [bne, *]; done)); (focus (simp [bne, *]; done)); clear hw; refine RunQ.evalH ?_; simp [bne, *])
       | ((first | ((first | refine RunQ.call rfl rfl rfl rfl rfl ?_ (p1) ?_ ?_ | refine RunQW.call rfl rfl rfl rfl ?_ (p1) ?_ ?_); (focus (simp (maxDischargeDepth := 120) [bne, *]; done))) | ((first | refine RunQ.call rfl rfl rfl rfl rfl ?_ (p2) ?_ ?_ | refine RunQW.call rfl rfl rfl rfl ?_ (p2) ?_ ?_); (focus (simp (maxDischargeDepth := 120) [bne, *]; done))) | ((first | refine RunQ.call rfl rfl rfl rfl rfl ?_ (n1) ?_ ?_ | refine RunQW.call rfl rfl rfl rfl ?_ (n1) ?_ ?_); (focus (simp (maxDischargeDepth := 120) [bne, *]; done))) | ((first | refine RunQ.call rfl rfl rfl rfl rfl ?_ (n2) ?_ ?_ | refine RunQW.call rfl rfl rfl rfl ?_ (n2) ?_ ?_); (focus (simp (maxDischargeDepth := 120) [bne, *]; done))) | ((first | refine RunQ.call rfl rfl rfl rfl rfl ?_ (awake13_c) ?_ ?_ | refine RunQW.call rfl rfl rfl rfl ?_ (awake13_c) ?_ ?_); (focus (simp (maxDischargeDepth := 120) [bne, *]; done)))); (focus (simp [bne, *]; done)); refine RunQ.evalH ?_; simp [bne, *])
       | (refine WK.ret Try.func5 ?_ ?_ <;> simp (maxDischargeDepth := 120) [Try.results5, bne, *])
       | fail)
    · rw [if_pos rfl] at p2 p3
      rw [List.length_append, byL_app] at q p3
      refine FnP.intro Try.func5 rfl rfl fun G w => ?_
      repeat' (first
       | refine WK.seq ?_
       | refine WK.block ?_
       | refine WK.inBlock ?_
       | refine WK.skip ?_
       | refine WK.label ?_
       | refine WK.scope ?_
       | refine WK.inScope ?_
       | refine WK.exit rfl ?_
       | refine WK.condT rfl ?_
       | refine WK.condF rfl ?_
       | (refine Hid.h hQ _ _ ?_; clear hQ hA)
       | refine WK.condAny rfl ?_ ?_
       | ((first | refine WK.cond2 rfl (fun h => ?_) (fun h => ?_) | refine Fork.mk (fun h => ?_) (fun h => ?_)) <;> (first | (simp [*] at h; done) | (have h2 := h; simp at h2; exfalso; omega) | (have h2 := h; simp at h2; try simp only [Bool.not_eq_true', Bool.not_eq_false'] at h) | skip))
       | (refine WK.regH Try.ntmps5 (by kernel_rfl) ?_; intro A hA Q hQ; simp [bne, *])
       | (refine RunQ.gd rfl (by rw [hA.h]; rfl) ?_; simp [bne, *])
       | (refine RunQ.callO 900 rfl rfl rfl rfl rfl ?_ (cl) ?_ ?_ ?_ ?_; (focus (simp (maxDischargeDepth := 120) [bne, *]; done)); (focus (simp [bne, *]; done)); (focus (simp [bne, *]; done)); (focus (simp [bne, *]; done)); refine RunQ.evalH ?_; simp [bne, *])
       | (refine RunQW.by (fun hw => ?_); refine RunQ.callO 900 rfl rfl rfl hw rfl ?_ (cl) ?_ ?_ ?_ ?_; (focus (simp (maxDischargeDepth := 120) [bne, *]; done)); (focus (simp [bne, *]; done)); (focus (simp [bne, *]; done)); (focus (simp [bne, *]; done)); clear hw; refine RunQ.evalH ?_; simp [bne, *])
       | (refine RunQ.append 901 appAct rfl rfl rfl rfl rfl rfl rfl rfl rfl ?_ ?_ ?_ ?_ ?_; (focus (first | omega | (simp [bne, *]; done); done)); (focus (first | omega | (simp [bne, *]; done); done)); (focus (first | omega | (simp [bne, *]; done); done)); (focus (first | omega | (simp [bne, *]; done); done)); refine RunQ.evalH ?_; simp [bne, *])
       | (refine RunQW.by (fun hw => ?_); refine RunQ.append 901 appAct rfl rfl rfl rfl rfl rfl rfl hw rfl ?_ ?_ ?_ ?_ ?_; (focus (first | omega | (simp [bne, *]; done); done)); (focus (first | omega | (simp [bne, *]; done); done)); (focus (first | omega | (simp [bne, *]; done); done)); (focus (first | omega | (simp [bne, *]; done); done)); clear hw; refine RunQ.evalH ?_; simp [bne, *])
       | (refine RunQ.callFz 32 11 rfl rfl rfl rfl rfl rfl rfl ?_ (p3) ?_ ?_; (focus (simp (maxDischargeDepth := 120) [bne, *]; done)); (focus (simp [bne, *]; done)); refine RunQ.evalH ?_; simp [bne, *])
       | (refine RunQW.by (fun hw => ?_); refine RunQ.callFz 32 11 rfl rfl hw rfl rfl rfl rfl ?_ (p3) ?_ ?_; (focus (simp (maxDischargeDepth := 120) [bne, *]; done)); (focus (simp [bne, *]; done)); clear hw; refine RunQ.evalH ?_; simp [bne, *])
       | (refine RunQ.callO 902 rfl rfl rfl rfl rfl ?_ (c2) ?_ ?_ ?_ ?_; (focus (simp (maxDischargeDepth := 120) [bne, *]; done)); (focus (simp [bne, *]; done)); (focus (simp [bne, *]; done)); (focus (simp [bne, *]; done)); refine RunQ.evalH ?_; simp [bne, *])
       | (refine RunQW.by (fun hw => ?_); refine RunQ.callO 902 rfl rfl rfl hw rfl ?_ (c2) ?_ ?_ ?_ ?_; (focus (simp (maxDischargeDepth := 120) [bne, *]; done)); (focus (simp [bne, *]; done)); (focus (simp [bne, *]; done)); (focus (simp [bne, *]; done)); clear hw; refine RunQ.evalH ?_; simp [bne, *])
       | (refine RunQ.append 903 appByte rfl rfl rfl rfl rfl rfl rfl rfl rfl ?_ ?_ ?_ ?_ ?_; (focus (first | omega | (simp [bne, *]; done); done)); (focus (first | omega | (simp [bne, *]; done); done)); (focus (first | omega | (simp [bne, *]; done); done)); (focus (first | omega | (simp [bne, *]; done); done)); refine RunQ.evalH ?_; simp [bne, *])
       | (refine RunQW.by (fun hw => ?_); refine RunQ.append 903 appByte rfl rfl rfl rfl rfl rfl rfl hw rfl ?_ ?_ ?_ ?_ ?_; (focus (first | omega | (simp [bne, *]; done); done)); (focus (first | omega | (simp [bne, *]; done); done)); (focus (first | omega | (simp [bne, *]; done); done)); (focus (first | omega | (simp [bne, *]; done); done)); clear hw; refine RunQ.evalH ?_; simp [bne, *])
       | (refine RunQ.callFz 67 1 rfl rfl rfl rfl rfl rfl rfl ?_ (q) ?_ ?_; (focus (simp (maxDischargeDepth := 120) [bne, *]; done)); (focus (simp [bne, *]; done)); refine RunQ.evalH ?_; simp [bne, *])
       | (refine RunQW.by (fun hw => ?_); refine RunQ.callFz 67 1 rfl rfl hw rfl rfl rfl rfl ?_ (q) ?_ ?_; (focus (simp (maxDischargeDepth := 120) [bne, *]; done)); (focus (simp [bne, *]; done)); clear hw; refine RunQ.evalH ?_; simp [bne, *])
       | ((first | ((first | refine RunQ.call rfl rfl rfl rfl rfl ?_ (p1) ?_ ?_ | refine RunQW.call rfl rfl rfl rfl ?_ (p1) ?_ ?_); (focus (simp (maxDischargeDepth := 120) [bne, *]; done))) | ((first | refine RunQ.call rfl rfl rfl rfl rfl ?_ (p2) ?_ ?_ | refine RunQW.call rfl rfl rfl rfl ?_ (p2) ?_ ?_); (focus (simp (maxDischargeDepth := 120) [bne, *]; done))) | ((first | refine RunQ.call rfl rfl rfl rfl rfl ?_ (awake13_c) ?_ ?_ | refine RunQW.call rfl rfl rfl rfl ?_ (awake13_c) ?_ ?_); (focus (simp (maxDischargeDepth := 120) [bne, *]; done)))); (focus (simp [bne, *]; done)); refine RunQ.evalH ?_; simp [bne, *])
       | (refine WK.ret Try.func5 ?_ ?_ <;> simp (maxDischargeDepth := 120) [Try.results5, bne, *])
       | fail)
end Go.Proofs.Yteonfhnljphbpaa
