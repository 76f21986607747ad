/- Actions in a row: the reference reads them; the laws. -/
import Derived.Test.YteonfhnljphbpaaWk6
import Derived.Test.YteonfhnljphbpaaWk2
import Derived.Test.YteonfhnljphbpaaDa
import Derived.Test.YteonfhnljphbpaaAf
set_option linter.all false
set_option linter.unnecessarySimpa false
set_option linter.unusedVariables false
set_option linter.unusedSimpArgs false
namespace Go.Proofs.Yteonfhnljphbpaa
open Go Go.AI Go.Proofs
attribute [local irreducible] FnP FnO FnB FnT FnSeq WK RunQ RunQW RunX RunXW

theorem acDec_small {b : List (BitVec 8)} {l : List Action} {c : Option Int} (h : acDec b = (l, c)) : l.length * 8 ≤ b.length := by
  cases c with
  | some c => rw [acDec_bad h]; simp
  | none =>
    unfold acDec at h
    split at h
    · cases h
    · obtain ⟨h1, h2⟩ := acDecF_back b.length b (Nat.le_refl _) (by rw [h])
      rw [h] at h1 h2
      simp only at h1 h2
      rw [← h2]
      clear h h2
      induction l with
      | nil => simp [acFlat]
      | cons a l ih =>
        have ih := ih (fun x hx => h1 x (List.mem_cons_of_mem _ hx))
        obtain ⟨_, k, hk, h8, _⟩ := aDec_back (aEnc_back (h1 a (by simp)) [])
        rw [acFlat_cons, List.length_append, List.length_cons]
        omega
theorem eqBy_selfA (l : List Action) : eqBy (fun x y : Action => x == y) l l = true := by unfold eqBy; simp
theorem actsBack_c (l : List Action) (b : List (BitVec 8)) : FnP Try.prog 4 [actS l, byS b] (.bool true) := by
  by_cases g1 : 200 < l.length
  · have g1' : (200 : Int) < l.length := by omega
    unfold byS actS
    refine FnP.intro Try.func4 rfl rfl fun G w => ?_
    repeat' (first
     | refine WK.seq ?_
     | refine WK.block ?_
     | refine WK.inBlock ?_
     | refine WK.skip ?_
     | refine WK.label ?_
     | refine WK.scope ?_
     | refine WK.inScope ?_
     | refine WK.exit rfl ?_
     | refine WK.condT rfl ?_
     | refine WK.condF rfl ?_
     | (refine Hid.h hQ _ _ ?_; clear hQ hA)
     | refine WK.condAny rfl ?_ ?_
     | ((first | refine WK.cond2 rfl (fun h => ?_) (fun h => ?_) | refine Fork.mk (fun h => ?_) (fun h => ?_)) <;> (first | (simp [*] at h; done) | (have h2 := h; simp at h2; exfalso; omega) | (have h2 := h; simp at h2; try simp only [Bool.not_eq_true', Bool.not_eq_false'] at h) | skip))
     | (refine WK.regH Try.ntmps4 (by kernel_rfl) ?_; intro A hA Q hQ; simp [*])
     | (refine RunQ.gd rfl (by rw [hA.h]; rfl) ?_; simp [*])
     | (((first | refine RunQ.call rfl rfl rfl rfl rfl ?_ (awake13_c) ?_ ?_ | refine RunQW.call rfl rfl rfl rfl ?_ (awake13_c) ?_ ?_); (focus (simp (maxDischargeDepth := 120) [*]; done))); (focus (simp [*]; done)); refine RunQ.evalH ?_; simp [*])
     | (refine WK.ret Try.func4 ?_ ?_ <;> simp (maxDischargeDepth := 120) [Try.results4, *])
     | fail)
  by_cases g2 : 4000 < b.length
  · have g1' : ¬ (200 : Int) < l.length := by omega
    have g2' : (4000 : Int) < b.length := by omega
    unfold byS actS
    refine FnP.intro Try.func4 rfl rfl fun G w => ?_
    repeat' (first
     | refine WK.seq ?_
     | refine WK.block ?_
     | refine WK.inBlock ?_
     | refine WK.skip ?_
     | refine WK.label ?_
     | refine WK.scope ?_
     | refine WK.inScope ?_
     | refine WK.exit rfl ?_
     | refine WK.condT rfl ?_
     | refine WK.condF rfl ?_
     | (refine Hid.h hQ _ _ ?_; clear hQ hA)
     | refine WK.condAny rfl ?_ ?_
     | ((first | refine WK.cond2 rfl (fun h => ?_) (fun h => ?_) | refine Fork.mk (fun h => ?_) (fun h => ?_)) <;> (first | (simp [*] at h; done) | (have h2 := h; simp at h2; exfalso; omega) | (have h2 := h; simp at h2; try simp only [Bool.not_eq_true', Bool.not_eq_false'] at h) | skip))
     | (refine WK.regH Try.ntmps4 (by kernel_rfl) ?_; intro A hA Q hQ; simp [*])
     | (refine RunQ.gd rfl (by rw [hA.h]; rfl) ?_; simp [*])
     | (((first | refine RunQ.call rfl rfl rfl rfl rfl ?_ (awake13_c) ?_ ?_ | refine RunQW.call rfl rfl rfl rfl ?_ (awake13_c) ?_ ?_); (focus (simp (maxDischargeDepth := 120) [*]; done))); (focus (simp [*]; done)); refine RunQ.evalH ?_; simp [*])
     | (refine WK.ret Try.func4 ?_ ?_ <;> simp (maxDischargeDepth := 120) [Try.results4, *])
     | fail)
  have g1' : ¬ (200 : Int) < l.length := by omega
  have g2' : ¬ (4000 : Int) < b.length := by omega
  have p := acencP_c l (by omega)
  have d2 := acdecP_c b (by omega)
  have hEl := acEnc_len l
  unfold byS actS at d2 ⊢
  refine FnP.intro Try.func4 rfl rfl fun G w => ?_
  repeat (first | refine WK.seq ?_ | refine WK.block ?_ | refine WK.inBlock ?_ | refine WK.skip ?_ | refine WK.label ?_ | refine WK.scope ?_ | refine WK.inScope ?_ | refine WK.exit rfl ?_)
  apply WK.cut (⟨(upd J 1 (.sl false b.length (byL b))), B0, 0⟩ : St)
  · intro hcut
    by_cases hr : l.length ≤ 100 ∧ l.all Action.right = true
    · have e := acEnc_ok hr.1 hr.2
      have d := acdecP_c (acFlat l) (by have := acFlat_len l; omega)
      rw [acEnc_back hr.1 hr.2] at d
      have s := acsame_c l l (by omega)
      rw [eqBy_selfA] at s
      rw [e] at p
      unfold byS actS at p d
      unfold actS at s
      clear e hr
      repeat' (first
       | refine WK.seq ?_
       | refine WK.block ?_
       | refine WK.inBlock ?_
       | refine WK.skip ?_
       | refine WK.label ?_
       | refine WK.scope ?_
       | refine WK.inScope ?_
       | refine WK.exit rfl ?_
       | refine WK.condT rfl ?_
       | refine WK.condF rfl ?_
       | (refine Hid.h hQ _ _ ?_; clear hQ hA)
       | refine WK.condAny rfl ?_ ?_
       | ((first | refine WK.cond2 rfl (fun h => ?_) (fun h => ?_) | refine Fork.mk (fun h => ?_) (fun h => ?_)) <;> (first | (simp [*] at h; done) | (have h2 := h; simp at h2; exfalso; omega) | (have h2 := h; simp at h2; try simp only [Bool.not_eq_true', Bool.not_eq_false'] at h) | skip))
       | ((first | refine WK.regH (id := 0) Try.ntmps4 (by kernel_rfl) ?_ | refine WK.regH (id := 1) Try.ntmps4 (by kernel_rfl) ?_ | refine WK.regH (id := 2) Try.ntmps4 (by kernel_rfl) ?_ | refine WK.regH (id := 3) Try.ntmps4 (by kernel_rfl) ?_ | refine WK.regH (id := 4) Try.ntmps4 (by kernel_rfl) ?_ | refine WK.regH (id := 5) Try.ntmps4 (by kernel_rfl) ?_ | refine WK.regH (id := 6) Try.ntmps4 (by kernel_rfl) ?_ | refine WK.regH (id := 7) Try.ntmps4 (by kernel_rfl) ?_); intro A hA Q hQ; simp [aFault, bne, *])
       | (refine RunQ.gd rfl (by rw [hA.h]; rfl) ?_; simp [aFault, bne, *])
       | ((first | ((first | refine RunQ.call rfl rfl rfl rfl rfl ?_ (p) ?_ ?_ | refine RunQW.call rfl rfl rfl rfl ?_ (p) ?_ ?_); (focus (simp (maxDischargeDepth := 120) [aFault, bne, *]; done))) | ((first | refine RunQ.call rfl rfl rfl rfl rfl ?_ (d) ?_ ?_ | refine RunQW.call rfl rfl rfl rfl ?_ (d) ?_ ?_); (focus (simp (maxDischargeDepth := 120) [aFault, bne, *]; done))) | ((first | refine RunQ.call rfl rfl rfl rfl rfl ?_ (s) ?_ ?_ | refine RunQW.call rfl rfl rfl rfl ?_ (s) ?_ ?_); (focus (simp (maxDischargeDepth := 120) [aFault, bne, *]; done)))); (focus (simp [aFault, bne, *]; done)); refine RunQ.evalH ?_; simp [aFault, bne, *])
       | fail)
      repeat (first | refine WK.seq ?_ | refine WK.block ?_ | refine WK.inBlock ?_ | refine WK.skip ?_ | refine WK.label ?_ | refine WK.scope ?_ | refine WK.inScope ?_ | refine WK.exit rfl ?_)
      refine WK.next (fun n => n) hcut (by repeat (first | exact TmW.nil | refine TmW.upd ?_ (by simp (maxDischargeDepth := 120)))) (by repeat (first | exact BxW.nil | refine BxW.upd ?_ (by simp (maxDischargeDepth := 120)))) (by first | exact InjW.id | exact InjW.nil | exact InjW.one | exact InjW.two (by simp) | exact InjW.three (by simp) (by simp) (by simp))
    · have e := acEnc_bad hr
      rw [e] at p
      unfold byS actS at p
      clear e hr
      repeat' (first
       | refine WK.seq ?_
       | refine WK.block ?_
       | refine WK.inBlock ?_
       | refine WK.skip ?_
       | refine WK.label ?_
       | refine WK.scope ?_
       | refine WK.inScope ?_
       | refine WK.exit rfl ?_
       | refine WK.condT rfl ?_
       | refine WK.condF rfl ?_
       | (refine Hid.h hQ _ _ ?_; clear hQ hA)
       | refine WK.condAny rfl ?_ ?_
       | ((first | refine WK.cond2 rfl (fun h => ?_) (fun h => ?_) | refine Fork.mk (fun h => ?_) (fun h => ?_)) <;> (first | (simp [*] at h; done) | (have h2 := h; simp at h2; exfalso; omega) | (have h2 := h; simp at h2; try simp only [Bool.not_eq_true', Bool.not_eq_false'] at h) | skip))
       | ((first | refine WK.regH (id := 0) Try.ntmps4 (by kernel_rfl) ?_ | refine WK.regH (id := 1) Try.ntmps4 (by kernel_rfl) ?_ | refine WK.regH (id := 2) Try.ntmps4 (by kernel_rfl) ?_ | refine WK.regH (id := 3) Try.ntmps4 (by kernel_rfl) ?_ | refine WK.regH (id := 4) Try.ntmps4 (by kernel_rfl) ?_ | refine WK.regH (id := 5) Try.ntmps4 (by kernel_rfl) ?_ | refine WK.regH (id := 6) Try.ntmps4 (by kernel_rfl) ?_ | refine WK.regH (id := 7) Try.ntmps4 (by kernel_rfl) ?_); intro A hA Q hQ; simp [*])
       | (refine RunQ.gd rfl (by rw [hA.h]; rfl) ?_; simp [*])
       | (((first | refine RunQ.call rfl rfl rfl rfl rfl ?_ (p) ?_ ?_ | refine RunQW.call rfl rfl rfl rfl ?_ (p) ?_ ?_); (focus (simp (maxDischargeDepth := 120) [*]; done))); (focus (simp [*]; done)); refine RunQ.evalH ?_; simp [*])
       | fail)
      repeat (first | refine WK.seq ?_ | refine WK.block ?_ | refine WK.inBlock ?_ | refine WK.skip ?_ | refine WK.label ?_ | refine WK.scope ?_ | refine WK.inScope ?_ | refine WK.exit rfl ?_)
      refine WK.next (fun n => n) hcut (by repeat (first | exact TmW.nil | refine TmW.upd ?_ (by simp (maxDischargeDepth := 120)))) (by repeat (first | exact BxW.nil | refine BxW.upd ?_ (by simp (maxDischargeDepth := 120)))) (by first | exact InjW.id | exact InjW.nil | exact InjW.one | exact InjW.two (by simp) | exact InjW.three (by simp) (by simp) (by simp))
  obtain ⟨R, hR⟩ : ∃ R, acDec b = R := ⟨_, rfl⟩
  rw [hR] at d2
  obtain ⟨k, f⟩ := R
  cases f with
  | some c =>
    have e := acDec_bad hR
    subst e
    clear hR p
    repeat' (first
     | refine WK.seq ?_
     | refine WK.block ?_
     | refine WK.inBlock ?_
     | refine WK.skip ?_
     | refine WK.label ?_
     | refine WK.scope ?_
     | refine WK.inScope ?_
     | refine WK.exit rfl ?_
     | refine WK.condT rfl ?_
     | refine WK.condF rfl ?_
     | (refine Hid.h hQ _ _ ?_; clear hQ hA)
     | refine WK.condAny rfl ?_ ?_
     | ((first | refine WK.cond2 rfl (fun h => ?_) (fun h => ?_) | refine Fork.mk (fun h => ?_) (fun h => ?_)) <;> (first | (simp [*] at h; done) | (have h2 := h; simp at h2; exfalso; omega) | (have h2 := h; simp at h2; try simp only [Bool.not_eq_true', Bool.not_eq_false'] at h) | skip))
     | (refine WK.regH Try.ntmps4 (by kernel_rfl) ?_; intro A hA Q hQ; simp [aFault, *])
     | (refine RunQ.gd rfl (by rw [hA.h]; rfl) ?_; simp [aFault, *])
     | ((first | ((first | refine RunQ.call rfl rfl rfl rfl rfl ?_ (d2) ?_ ?_ | refine RunQW.call rfl rfl rfl rfl ?_ (d2) ?_ ?_); (focus (simp (maxDischargeDepth := 120) [aFault, *]; done))) | ((first | refine RunQ.call rfl rfl rfl rfl rfl ?_ (awake13_c) ?_ ?_ | refine RunQW.call rfl rfl rfl rfl ?_ (awake13_c) ?_ ?_); (focus (simp (maxDischargeDepth := 120) [aFault, *]; done)))); (focus (simp [aFault, *]; done)); refine RunQ.evalH ?_; simp [aFault, *])
     | (refine WK.ret Try.func4 ?_ ?_ <;> simp (maxDischargeDepth := 120) [Try.results4, aFault, *])
     | fail)
  | none =>
    have e := acDec_back hR
    have hk := acDec_small hR
    have p2 := acencP_c k (by omega)
    rw [e] at p2
    have q := bequal_c b b (by omega)
    rw [beq_self_eq_true] at q
    unfold byS actS at *
    clear hR p e
    repeat' (first
     | refine WK.seq ?_
     | refine WK.block ?_
     | refine WK.inBlock ?_
     | refine WK.skip ?_
     | refine WK.label ?_
     | refine WK.scope ?_
     | refine WK.inScope ?_
     | refine WK.exit rfl ?_
     | refine WK.condT rfl ?_
     | refine WK.condF rfl ?_
     | (refine Hid.h hQ _ _ ?_; clear hQ hA)
     | refine WK.condAny rfl ?_ ?_
     | ((first | refine WK.cond2 rfl (fun h => ?_) (fun h => ?_) | refine Fork.mk (fun h => ?_) (fun h => ?_)) <;> (first | (simp [*] at h; done) | (have h2 := h; simp at h2; exfalso; omega) | (have h2 := h; simp at h2; try simp only [Bool.not_eq_true', Bool.not_eq_false'] at h) | skip))
     | (refine WK.regH Try.ntmps4 (by kernel_rfl) ?_; intro A hA Q hQ; simp [aFault, *])
     | (refine RunQ.gd rfl (by rw [hA.h]; rfl) ?_; simp [aFault, *])
     | ((first | ((first | refine RunQ.call rfl rfl rfl rfl rfl ?_ (d2) ?_ ?_ | refine RunQW.call rfl rfl rfl rfl ?_ (d2) ?_ ?_); (focus (simp (maxDischargeDepth := 120) [aFault, *]; done))) | ((first | refine RunQ.call rfl rfl rfl rfl rfl ?_ (p2) ?_ ?_ | refine RunQW.call rfl rfl rfl rfl ?_ (p2) ?_ ?_); (focus (simp (maxDischargeDepth := 120) [aFault, *]; done))) | ((first | refine RunQ.call rfl rfl rfl rfl rfl ?_ (q) ?_ ?_ | refine RunQW.call rfl rfl rfl rfl ?_ (q) ?_ ?_); (focus (simp (maxDischargeDepth := 120) [aFault, *]; done))) | ((first | refine RunQ.call rfl rfl rfl rfl rfl ?_ (awake13_c) ?_ ?_ | refine RunQW.call rfl rfl rfl rfl ?_ (awake13_c) ?_ ?_); (focus (simp (maxDischargeDepth := 120) [aFault, *]; done)))); (focus (simp [aFault, *]; done)); refine RunQ.evalH ?_; simp [aFault, *])
     | (refine WK.ret Try.func4 ?_ ?_ <;> simp (maxDischargeDepth := 120) [Try.results4, aFault, *])
     | fail)
end Go.Proofs.Yteonfhnljphbpaa
