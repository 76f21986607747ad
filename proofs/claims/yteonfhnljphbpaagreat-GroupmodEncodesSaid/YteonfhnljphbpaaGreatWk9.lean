/- Actions in a row: their bytes. -/
import Derived.Test.YteonfhnljphbpaaGreatWk8
import Derived.Test.YteonfhnljphbpaaGreatAf
import Derived.Test.YteonfhnljphbpaaGreatWk2
import Derived.Test.YteonfhnljphbpaaGreatDa
import Derived.Test.YteonfhnljphbpaaGreatAe
set_option linter.all false
set_option linter.unnecessarySimpa false
section
set_option linter.unusedVariables false
set_option linter.unusedSimpArgs false
namespace Go.Proofs.YteonfhnljphbpaaGreat
open Go Go.AI Go.Proofs
attribute [local irreducible] FnP FnO FnB FnT FnSeq WK RunQ RunQW RunX RunXW

def acFlat (l : List Action) : List (BitVec 8) := l.flatMap fun a => (aEnc a).1
def acEnc (l : List Action) : List (BitVec 8) × Int := if 100 < l.length then ([], 1) else if l.all Action.right = true then (acFlat l, 0) else ([], 1)
theorem acFlat_len (l : List Action) : (acFlat l).length ≤ l.length * 60 := by
  induction l with
  | nil => simp [acFlat]
  | cons a l ih =>
    have := aEnc_len a
    simp only [acFlat, List.flatMap_cons, List.length_append, List.length_cons] at ih ⊢
    omega
theorem acFlat_succ {l : List Action} {i : Nat} (h : i < l.length) : acFlat (l.take (i + 1)) = acFlat (l.take i) ++ (aEnc (nth l i)).1 := by
  unfold acFlat; rw [take_nth h, List.flatMap_append]; simp
theorem aEnc_code (a : Action) : (aEnc a).2 = if Action.right a = true then 0 else 1 := by unfold aEnc; split <;> rfl
theorem all_false_of {l : List Action} {i : Nat} {p : Action → Bool} (h : i < l.length) (hp : p (nth l i) = false) : l.all p = false := by
  rw [List.all_eq_false]; exact ⟨nth l i, nth_mem h, by rw [hp]; exact Bool.false_ne_true⟩
theorem all_true_of {l : List Action} {p : Action → Bool} (h : ∀ j, j < l.length → p (nth l j) = true) : l.all p = true := by
  rw [List.all_eq_true]; intro x hx
  obtain ⟨j, hj, rfl⟩ := mem_nth hx
  exact h j hj
theorem act_load (l : List Action) (i : Nat) (h : i < l.length) : ((actL l).drop (i * 11)).take 11 = (nth l i).enc ∧ 11 ≤ l.length * 11 - i * 11 := ⟨act_sub l i h, by omega⟩
set_option maxHeartbeats 4000000 in
theorem acenc_c (l : List Action) (hl : l.length ≤ 1000000) : FnT Tryz.prog 68 [actS l] (acEnc l).1.length 1 (byL (acEnc l).1) [.int .i64 (acEnc l).2] := by
  unfold actS
  by_cases h100 : 100 < l.length
  · have e : acEnc l = ([], 1) := by unfold acEnc; rw [if_pos h100]
    have j : (100 : Int) < l.length := by omega
    rw [e]
    refine FnT.intro Tryz.func68 rfl rfl fun G w => ?_
    repeat' (first
     | refine WK.seq ?_
     | refine WK.block ?_
     | refine WK.inBlock ?_
     | refine WK.skip ?_
     | refine WK.label ?_
     | refine WK.scope ?_
     | refine WK.inScope ?_
     | refine WK.exit rfl ?_
     | refine WK.condT rfl ?_
     | refine WK.condF rfl ?_
     | (refine Hid.h hQ _ _ ?_; clear hQ hA)
     | refine WK.condAny rfl ?_ ?_
     | ((first | refine WK.cond2 rfl (fun h => ?_) (fun h => ?_)) <;> (first | (simp [*] at h; done) | (have h2 := h; simp at h2; exfalso; omega) | (have h2 := h; simp at h2; try simp only [Bool.not_eq_true', Bool.not_eq_false'] at h) | skip))
     | (refine WK.regH Tryz.ntmps68 (by kernel_rfl) ?_; intro A hA Q hQ; simp [*])
     | fail)
    repeat (first | refine WK.seq ?_ | refine WK.block ?_ | refine WK.inBlock ?_ | refine WK.skip ?_ | refine WK.label ?_ | refine WK.scope ?_ | refine WK.inScope ?_ | refine WK.exit rfl ?_)
    refine WK.ghost (Ghost.own 2 900 1 rfl rfl) ?_
    repeat (first | refine WK.seq ?_ | refine WK.block ?_ | refine WK.inBlock ?_ | refine WK.skip ?_ | refine WK.label ?_ | refine WK.scope ?_ | refine WK.inScope ?_ | refine WK.exit rfl ?_)
    refine WK.retT2 Tryz.func68 ?_ ?_ ?_ <;> simp (maxDischargeDepth := 120) [Tryz.results68, byL_nil]
  have j : ¬ (100 : Int) < l.length := by omega
  have hdef : acEnc l = if l.all Action.right = true then (acFlat l, 0) else ([], 1) := by unfold acEnc; rw [if_neg h100]
  refine FnT.intro Tryz.func68 rfl rfl fun G w => ?_
  repeat' (first
   | refine WK.seq ?_
   | refine WK.block ?_
   | refine WK.inBlock ?_
   | refine WK.skip ?_
   | refine WK.label ?_
   | refine WK.scope ?_
   | refine WK.inScope ?_
   | refine WK.exit rfl ?_
   | refine WK.condT rfl ?_
   | refine WK.condF rfl ?_
   | (refine Hid.h hQ _ _ ?_; clear hQ hA)
   | refine WK.condAny rfl ?_ ?_
   | ((first | refine WK.cond2 rfl (fun h => ?_) (fun h => ?_)) <;> (first | (simp [*] at h; done) | (have h2 := h; simp at h2; exfalso; omega) | (have h2 := h; simp at h2; try simp only [Bool.not_eq_true', Bool.not_eq_false'] at h) | skip))
   | (refine WK.regH Tryz.ntmps68 (by kernel_rfl) ?_; intro A hA Q hQ; simp [*])
   | fail)
  repeat (first | refine WK.seq ?_ | refine WK.block ?_ | refine WK.inBlock ?_ | refine WK.skip ?_ | refine WK.label ?_ | refine WK.scope ?_ | refine WK.inScope ?_ | refine WK.exit rfl ?_)
  refine WK.ghost (Ghost.own 4 900 1 rfl rfl) ?_
  repeat (first | refine WK.seq ?_ | refine WK.block ?_ | refine WK.inBlock ?_ | refine WK.skip ?_ | refine WK.label ?_ | refine WK.scope ?_ | refine WK.inScope ?_ | refine WK.exit rfl ?_)
  refine WK.loopI (fun n => if n = 1 then 900 else n) (fun i : Nat => (⟨(upd (upd (upd (upd (upd (upd (upd J 0 (.sl false l.length (actL l))) 2 (.sl true 0 [])) 3 (.int .i64 0)) 4 (.msl 1 0 (acFlat (l.take i)).length)) 12 (.sl false l.length (actL l))) 13 (.int .i64 l.length)) 14 (.int .i64 i)), (upd B0 1 (.buf 1 (byL (acFlat (l.take i))))), 0⟩ : St)) (fun i => i ≤ l.length ∧ ∀ j, j < i → Action.right (nth l j) = true) (fun i => l.length - i) (0) (by repeat (first | exact TmW.nil | refine TmW.upd ?_ (by simp (maxDischargeDepth := 120) [acFlat, byL_nil]))) (by repeat (first | exact BxW.nil | refine BxW.upd ?_ (by simp (maxDischargeDepth := 120) [acFlat, byL_nil]))) (by first | exact InjW.id | exact InjW.nil | exact InjW.one | exact InjW.two (by simp) | exact InjW.three (by simp) (by simp) (by simp)) (⟨by omega, by simp⟩) (fun i hi IH => ?_)
  have hfl := acFlat_len (l.take i)
  have htl : (l.take i).length ≤ 100 := by rw [List.length_take]; omega
  by_cases h1 : i < l.length
  · obtain ⟨h4, h3⟩ := act_load l i h1
    have h6 : IntKind.i64.wrap ((i : Int) + 1) = i + 1 := wrap_i64 (by omega) (by omega)
    have hc := aencP_c (nth l i)
    have hcd := aEnc_code (nth l i)
    have hel := aEnc_len (nth l i)
    rw [hcd] at hc
    cases hr : Action.right (nth l i)
    · have e : acEnc l = ([], 1) := by rw [hdef, if_neg (by rw [all_false_of h1 hr]; exact Bool.false_ne_true)]
      rw [hr] at hc
      rw [e]
      repeat' (first
       | refine WK.seq ?_
       | refine WK.block ?_
       | refine WK.inBlock ?_
       | refine WK.skip ?_
       | refine WK.label ?_
       | refine WK.scope ?_
       | refine WK.inScope ?_
       | refine WK.exit rfl ?_
       | refine WK.condT rfl ?_
       | refine WK.condF rfl ?_
       | (refine Hid.h hQ _ _ ?_; clear hQ hA)
       | refine WK.condAny rfl ?_ ?_
       | ((first | refine WK.cond2 rfl (fun h => ?_) (fun h => ?_)) <;> (first | (simp [*] at h; done) | (have h2 := h; simp at h2; exfalso; omega) | (have h2 := h; simp at h2; try simp only [Bool.not_eq_true', Bool.not_eq_false'] at h) | skip))
       | (refine WK.regH Tryz.ntmps68 (by kernel_rfl) ?_; intro A hA Q hQ; simp [bne, *])
       | ((refine RunQ.call rfl rfl rfl rfl rfl ?_ (hc) ?_ ?_; (focus (simp (maxDischargeDepth := 120) [bne, *]; done))); (focus (simp [bne, *]; done)); refine RunQ.evalH ?_; simp [bne, *])
       | fail)
      repeat (first | refine WK.seq ?_ | refine WK.block ?_ | refine WK.inBlock ?_ | refine WK.skip ?_ | refine WK.label ?_ | refine WK.scope ?_ | refine WK.inScope ?_ | refine WK.exit rfl ?_)
      refine WK.ghost (Ghost.own 2 901 1 rfl rfl) ?_
      repeat (first | refine WK.seq ?_ | refine WK.block ?_ | refine WK.inBlock ?_ | refine WK.skip ?_ | refine WK.label ?_ | refine WK.scope ?_ | refine WK.inScope ?_ | refine WK.exit rfl ?_)
      refine WK.retT2 Tryz.func68 ?_ ?_ ?_ <;> simp (maxDischargeDepth := 120) [Tryz.results68, byL_nil]
    · rw [hr] at hc
      have hs := acFlat_succ h1
      obtain ⟨F, hF⟩ : ∃ F, acFlat (l.take i) = F := ⟨_, rfl⟩
      obtain ⟨E, hE⟩ : ∃ E, (aEnc (nth l i)).1 = E := ⟨_, rfl⟩
      rw [hF] at hs hfl ⊢
      rw [hE] at hs hc hel
      have hbd : F.length + E.length ≤ 1000000 := by omega
      have hfull := by_full E E.length rfl
      unfold byS at hc
      clear hE hF
      repeat' (first
       | refine WK.seq ?_
       | refine WK.block ?_
       | refine WK.inBlock ?_
       | refine WK.skip ?_
       | refine WK.label ?_
       | refine WK.scope ?_
       | refine WK.inScope ?_
       | refine WK.exit rfl ?_
       | refine WK.condT rfl ?_
       | refine WK.condF rfl ?_
       | (refine Hid.h hQ _ _ ?_; clear hQ hA)
       | refine WK.condAny rfl ?_ ?_
       | ((first | refine WK.cond2 rfl (fun h => ?_) (fun h => ?_)) <;> (first | (simp [*] at h; done) | (have h2 := h; simp at h2; exfalso; omega) | (have h2 := h; simp at h2; try simp only [Bool.not_eq_true', Bool.not_eq_false'] at h) | skip))
       | (refine WK.regH Tryz.ntmps68 (by kernel_rfl) ?_; intro A hA Q hQ; simp [bne, *])
       | (refine RunQ.append 902 appByte rfl rfl rfl rfl rfl rfl rfl rfl rfl ?_ ?_ ?_ ?_ ?_; (focus (first | omega | (simp [bne, *]; done); done)); (focus (first | omega | (simp [bne, *]; done); done)); (focus (first | omega | (simp [bne, *]; done); done)); (focus (first | omega | (simp [bne, *]; done); done)); refine RunQ.evalH ?_; simp [bne, *])
       | ((refine RunQ.call rfl rfl rfl rfl rfl ?_ (hc) ?_ ?_; (focus (simp (maxDischargeDepth := 120) [bne, *]; done))); (focus (simp [bne, *]; done)); refine RunQ.evalH ?_; simp [bne, *])
       | fail)
      repeat (first | refine WK.seq ?_ | refine WK.block ?_ | refine WK.inBlock ?_ | refine WK.skip ?_ | refine WK.label ?_ | refine WK.scope ?_ | refine WK.inScope ?_ | refine WK.exit rfl ?_)
      refine WK.next (fun n => if n = 1 then 902 else n) (IH (i + 1) (⟨by omega, fun j hj => by by_cases h7 : j = i; (subst h7; exact hr); exact hi.2 j (by omega)⟩) (by first | omega | (dsimp only; omega))) (by repeat (first | exact TmW.nil | refine TmW.upd ?_ (by simp (maxDischargeDepth := 120) [hs, byL_app]))) (by repeat (first | exact BxW.nil | refine BxW.upd ?_ (by simp (maxDischargeDepth := 120) [hs, byL_app]))) (by first | exact InjW.id | exact InjW.nil | exact InjW.one | exact InjW.two (by simp) | exact InjW.three (by simp) (by simp) (by simp))
  · have e : acEnc l = (acFlat l, 0) := by rw [hdef, if_pos (all_true_of fun j hj => hi.2 j (by omega))]
    have hT : l.take i = l := List.take_of_length_le (by omega)
    rw [e, hT]
    repeat' (first
     | refine WK.seq ?_
     | refine WK.block ?_
     | refine WK.inBlock ?_
     | refine WK.skip ?_
     | refine WK.label ?_
     | refine WK.scope ?_
     | refine WK.inScope ?_
     | refine WK.exit rfl ?_
     | refine WK.condT rfl ?_
     | refine WK.condF rfl ?_
     | (refine Hid.h hQ _ _ ?_; clear hQ hA)
     | refine WK.condAny rfl ?_ ?_
     | ((first | refine WK.cond2 rfl (fun h => ?_) (fun h => ?_)) <;> (first | (simp [*] at h; done) | (have h2 := h; simp at h2; exfalso; omega) | (have h2 := h; simp at h2; try simp only [Bool.not_eq_true', Bool.not_eq_false'] at h) | skip))
     | (refine WK.regH Tryz.ntmps68 (by kernel_rfl) ?_; intro A hA Q hQ; simp [*])
     | (refine WK.retT2 Tryz.func68 ?_ ?_ ?_ <;> simp (maxDischargeDepth := 120) [Tryz.results68, *])
     | fail)
end Go.Proofs.YteonfhnljphbpaaGreat
end

section
set_option linter.unusedVariables false
set_option linter.unusedSimpArgs false
namespace Go.Proofs.YteonfhnljphbpaaGreat
open Go Go.AI Go.Proofs
attribute [local irreducible] FnP FnO FnB FnT FnSeq WK RunQ RunQW RunX RunXW

def acGlue (acc : List Action) (r : List Action × Option Int) : List Action × Option Int := match r.2 with | none => (acc ++ r.1, none) | some c => ([], some c)
def acDecF : Nat → List (BitVec 8) → List Action × Option Int
  | 0, _ => ([], none)
  | f + 1, b => if b.length = 0 then ([], none) else match (aDec b).2.2 with
    | some c => ([], some c)
    | none => acGlue [(aDec b).1] (acDecF f (b.drop (aDec b).2.1.toNat))
def acDec (b : List (BitVec 8)) : List Action × Option Int :=
  if (acDecF b.length b).2 = none ∧ 100 < (acDecF b.length b).1.length then ([], some 7) else acDecF b.length b
theorem acGlue_glue (a b : List Action) (r : List Action × Option Int) : acGlue a (acGlue b r) = acGlue (a ++ b) r := by
  obtain ⟨l, c⟩ := r
  cases c <;> simp [acGlue]
theorem acGlue_nil (r : List Action × Option Int) (h : ∀ c, r.2 = some c → r.1 = []) : acGlue [] r = r := by
  obtain ⟨l, c⟩ := r
  cases c with
  | none => simp [acGlue]
  | some c => simp only at h; rw [h c rfl]; rfl
theorem acDecF_bad : ∀ (f : Nat) (b : List (BitVec 8)) (c : Int), (acDecF f b).2 = some c → (acDecF f b).1 = []
  | 0, b, c, h => rfl
  | f + 1, b, c, h => by
    rw [acDecF] at h ⊢
    split
    · rfl
    rename_i h0
    rw [if_neg h0] at h
    cases hd : (aDec b).2.2 with
    | some c => rfl
    | none =>
      simp only [hd] at h ⊢
      cases hr : (acDecF f (b.drop (aDec b).2.1.toNat)).2 with
      | none => simp [acGlue, hr] at h
      | some c => simp [acGlue, hr]
theorem acDecF_stop {f : Nat} {b : List (BitVec 8)} (h : b.length = 0) : acDecF f b = ([], none) := by
  cases f with
  | zero => rfl
  | succ f => rw [acDecF, if_pos h]
structure AcAt (b : List (BitVec 8)) (x : Nat × Nat × List Action) : Prop where
  le : x.2.1 ≤ b.length
  fuel : b.length - x.2.1 ≤ x.1
  eq : acDecF b.length b = acGlue x.2.2 (acDecF x.1 (b.drop x.2.1))
  small : x.2.2.length * 8 ≤ x.2.1
theorem AcAt.start (b : List (BitVec 8)) : AcAt b (b.length, 0, []) := ⟨Nat.zero_le _, Nat.le_refl _, (acGlue_nil _ (acDecF_bad _ _)).symm, Nat.le_refl _⟩
theorem AcAt.bad {b : List (BitVec 8)} {x : Nat × Nat × List Action} (h : AcAt b x) (hp : x.2.1 < b.length) {y : Action} {n c : Int} (hd : aDec (b.drop x.2.1) = (y, n, some c)) : acDec b = ([], some c) := by
  have e : acDecF b.length b = ([], some c) := by
    rw [h.eq]
    have hf : ∃ f, x.1 = f + 1 := ⟨x.1 - 1, by have := h.fuel; omega⟩
    obtain ⟨f, hf⟩ := hf
    rw [hf, acDecF, if_neg (by rw [List.length_drop]; omega), hd]; rfl
  unfold acDec; rw [e]; rfl
theorem AcAt.next {b : List (BitVec 8)} {x : Nat × Nat × List Action} (h : AcAt b x) (hp : x.2.1 < b.length) {y : Action} {n : Int} (hd : aDec (b.drop x.2.1) = (y, n, none)) : ∃ k : Nat, n = k ∧ x.2.1 + k ≤ b.length ∧ 0 < k ∧
    AcAt b (x.1 - 1, x.2.1 + k, x.2.2 ++ [y]) := by
  obtain ⟨_, k, hk, h8, hkl, _, _⟩ := aDec_back hd
  rw [List.length_drop] at hkl
  have hf : ∃ f, x.1 = f + 1 := ⟨x.1 - 1, by have := h.fuel; omega⟩
  obtain ⟨f, hf⟩ := hf
  refine ⟨k, hk, by omega, by omega, ⟨by simp only; omega, by have := h.fuel; simp only; omega, ?_, by have := h.small; simp only [List.length_append, List.length_singleton]; omega⟩⟩
  rw [h.eq, hf, acDecF, if_neg (by rw [List.length_drop]; omega), hd]
  simp only [Nat.add_sub_cancel]
  rw [acGlue_glue, hk, Int.toNat_natCast, List.drop_drop]
theorem AcAt.stop {b : List (BitVec 8)} {x : Nat × Nat × List Action} (h : AcAt b x) (hp : ¬ x.2.1 < b.length) : acDecF b.length b = (x.2.2, none) := by
  rw [h.eq, acDecF_stop (by rw [List.length_drop]; omega)]; simp [acGlue]
set_option maxHeartbeats 4000000 in
theorem acdec_c (b : List (BitVec 8)) (hb : b.length ≤ 1000000) : FnT Tryz.prog 85 [byS b] (acDec b).1.length 11 (actL (acDec b).1) [.agg (aFault (acDec b).2)] := by
  unfold byS
  refine FnT.intro Tryz.func85 rfl rfl fun G w => ?_
  repeat' (first
   | refine WK.seq ?_
   | refine WK.block ?_
   | refine WK.inBlock ?_
   | refine WK.skip ?_
   | refine WK.label ?_
   | refine WK.scope ?_
   | refine WK.inScope ?_
   | refine WK.exit rfl ?_
   | refine WK.condT rfl ?_
   | refine WK.condF rfl ?_
   | (refine Hid.h hQ _ _ ?_; clear hQ hA)
   | refine WK.condAny rfl ?_ ?_
   | ((first | refine WK.cond2 rfl (fun h => ?_) (fun h => ?_)) <;> (first | (simp [*] at h; done) | (have h2 := h; simp at h2; exfalso; omega) | (have h2 := h; simp at h2; try simp only [Bool.not_eq_true', Bool.not_eq_false'] at h) | skip))
   | ((first | refine WK.regH Tryz.ntmps85 (by kernel_rfl) ?_ | refine WK.regX (by kernel_rfl) Tryz.ntmps85 (by kernel_rfl) ?_); intro A hA Q hQ; simp [*])
   | (refine Hid.h hQ _ _ _ (by decide +kernel) ?_; clear hQ hA)
   | fail)
  repeat (first | refine WK.seq ?_ | refine WK.block ?_ | refine WK.inBlock ?_ | refine WK.skip ?_ | refine WK.label ?_ | refine WK.scope ?_ | refine WK.inScope ?_ | refine WK.exit rfl ?_)
  refine WK.ghost (Ghost.own 4 900 11 rfl rfl) ?_
  repeat (first | refine WK.seq ?_ | refine WK.block ?_ | refine WK.inBlock ?_ | refine WK.skip ?_ | refine WK.label ?_ | refine WK.scope ?_ | refine WK.inScope ?_ | refine WK.exit rfl ?_)
  refine WK.loopI (fun n => if n = 60 then 900 else n) (fun x : Nat × Nat × List Action => (⟨(upd (upd (upd (upd J 0 (.sl false (b.length - x.2.1) (byL (b.drop x.2.1)))) 2 (.sl true 0 [])) 3 (.ptr 1 0)) 4 (.msl 60 0 x.2.2.length)), (upd (upd B0 1 (.var (aFault none))) 60 (.buf 11 (actL x.2.2))), 0⟩ : St)) (fun x => AcAt b x) (fun x => b.length - x.2.1) ((b.length, 0, [])) (by repeat (first | exact TmW.nil | refine TmW.upd ?_ (by simp (maxDischargeDepth := 120) [aFault]))) (by repeat (first | exact BxW.nil | refine BxW.upd ?_ (by simp (maxDischargeDepth := 120) [aFault]))) (by first | exact InjW.id | exact InjW.nil | exact InjW.one | exact InjW.two (by simp) | exact InjW.three (by simp) (by simp) (by simp)) (AcAt.start b) (fun i hi IH => ?_)
  obtain ⟨f, p, acc⟩ := i
  have hsm := hi.small
  simp only at hsm hi ⊢
  by_cases h1 : p < b.length
  · have hc := adec_c (b.drop p) (by rw [List.length_drop]; omega)
    obtain ⟨⟨y, n, c⟩, hd⟩ : ∃ R, aDec (b.drop p) = R := ⟨_, rfl⟩
    rw [hd] at hc
    unfold byS at hc
    rw [List.length_drop] at hc
    have hpos : 0 < b.length - p := by omega
    have hpos' : (0 : Int) < ((b.length - p : Nat) : Int) := by omega
    obtain ⟨L, hL⟩ : ∃ L, b.length - p = L := ⟨_, rfl⟩
    cases c with
    | some c =>
      have e := AcAt.bad hi h1 hd
      rw [hL] at hc hpos hpos' ⊢
      rw [e]
      clear hL
      repeat' (first
       | refine WK.seq ?_
       | refine WK.block ?_
       | refine WK.inBlock ?_
       | refine WK.skip ?_
       | refine WK.label ?_
       | refine WK.scope ?_
       | refine WK.inScope ?_
       | refine WK.exit rfl ?_
       | refine WK.condT rfl ?_
       | refine WK.condF rfl ?_
       | (refine Hid.h hQ _ _ ?_; clear hQ hA)
       | refine WK.condAny rfl ?_ ?_
       | ((first | refine WK.cond2 rfl (fun h => ?_) (fun h => ?_)) <;> (first | (simp [*] at h; done) | (have h2 := h; simp at h2; exfalso; omega) | (have h2 := h; simp at h2; try simp only [Bool.not_eq_true', Bool.not_eq_false'] at h) | skip))
       | ((first | refine WK.regH Tryz.ntmps85 (by kernel_rfl) ?_ | refine WK.regX (by kernel_rfl) Tryz.ntmps85 (by kernel_rfl) ?_); intro A hA Q hQ; simp [aRes, aFault, *])
       | (refine Hid.h hQ _ _ _ (by decide +kernel) ?_; clear hQ hA)
       | (((first | refine RunQ.call rfl rfl rfl rfl rfl ?_ (hc) ?_ ?_ | refine RunX.call rfl rfl rfl rfl ?_ (hc) ?_ ?_); (focus (simp (maxDischargeDepth := 120) [aRes, aFault, *]; done))); (focus (simp [aRes, aFault, *]; done)); (first | refine RunQ.evalH ?_ | refine RunX.evalY ?_); simp [aRes, aFault, *])
       | fail)
      repeat (first | refine WK.seq ?_ | refine WK.block ?_ | refine WK.inBlock ?_ | refine WK.skip ?_ | refine WK.label ?_ | refine WK.scope ?_ | refine WK.inScope ?_ | refine WK.exit rfl ?_)
      refine WK.ghost (Ghost.own 2 901 11 rfl rfl) ?_
      repeat (first | refine WK.seq ?_ | refine WK.block ?_ | refine WK.inBlock ?_ | refine WK.skip ?_ | refine WK.label ?_ | refine WK.scope ?_ | refine WK.inScope ?_ | refine WK.exit rfl ?_)
      refine WK.retT2 Tryz.func85 ?_ ?_ ?_ <;> simp (maxDischargeDepth := 120) [Tryz.results85, actL_nil, aFault]
    | none =>
      obtain ⟨k, rfl, hk1, hk2, hn⟩ := AcAt.next hi h1 hd
      simp only at hk1 hn
      have hkL : (k : Int) ≤ ((b.length - p : Nat) : Int) := by omega
      have hdd : ((byL (b.drop p)).drop k).take (b.length - p - k) = byL (b.drop (p + k)) := by
        rw [byL_drop, List.drop_drop]; exact by_full _ _ (by rw [List.length_drop]; omega)
      have hll : b.length - (p + k) = b.length - p - k := by omega
      have hbd : (acc.length + 1) * 88 ≤ 140737488355328 := by omega
      have hsn : actL acc ++ y.enc = actL (acc ++ [y]) := by rw [actL_app]; simp [actL]
      rw [hL] at hc hpos hpos' hkL hdd hll ⊢
      clear hL hd
      repeat' (first
       | refine WK.seq ?_
       | refine WK.block ?_
       | refine WK.inBlock ?_
       | refine WK.skip ?_
       | refine WK.label ?_
       | refine WK.scope ?_
       | refine WK.inScope ?_
       | refine WK.exit rfl ?_
       | refine WK.condT rfl ?_
       | refine WK.condF rfl ?_
       | (refine Hid.h hQ _ _ ?_; clear hQ hA)
       | refine WK.condAny rfl ?_ ?_
       | ((first | refine WK.cond2 rfl (fun h => ?_) (fun h => ?_)) <;> (first | (simp [*] at h; done) | (have h2 := h; simp at h2; exfalso; omega) | (have h2 := h; simp at h2; try simp only [Bool.not_eq_true', Bool.not_eq_false'] at h) | skip))
       | ((first | refine WK.regH Tryz.ntmps85 (by kernel_rfl) ?_ | refine WK.regX (by kernel_rfl) Tryz.ntmps85 (by kernel_rfl) ?_); intro A hA Q hQ; simp [aRes, aFault, *])
       | (refine Hid.h hQ _ _ _ (by decide +kernel) ?_; clear hQ hA)
       | (refine RunQ.append 902 appAct rfl rfl rfl rfl rfl rfl rfl rfl rfl ?_ ?_ ?_ ?_ ?_; (focus (first | omega | (simp [aRes, aFault, *]; done); done)); (focus (first | omega | (simp [aRes, aFault, *]; done); done)); (focus (first | omega | (simp [aRes, aFault, *]; done); done)); (focus (first | omega | (simp [aRes, aFault, *]; done); done)); refine RunQ.evalH ?_; simp [aRes, aFault, *])
       | (refine RunX.append 902 appAct rfl rfl rfl rfl rfl rfl rfl rfl ?_ ?_ ?_ ?_ ?_; (focus (first | omega | (simp [aRes, aFault, *]; done); done)); (focus (first | omega | (simp [aRes, aFault, *]; done); done)); (focus (first | omega | (simp [aRes, aFault, *]; done); done)); (focus (first | omega | (simp [aRes, aFault, *]; done); done)); refine RunX.evalY ?_; simp [aRes, aFault, *])
       | (((first | refine RunQ.call rfl rfl rfl rfl rfl ?_ (hc) ?_ ?_ | refine RunX.call rfl rfl rfl rfl ?_ (hc) ?_ ?_); (focus (simp (maxDischargeDepth := 120) [aRes, aFault, *]; done))); (focus (simp [aRes, aFault, *]; done)); (first | refine RunQ.evalH ?_ | refine RunX.evalY ?_); simp [aRes, aFault, *])
       | fail)
      repeat (first | refine WK.seq ?_ | refine WK.block ?_ | refine WK.inBlock ?_ | refine WK.skip ?_ | refine WK.label ?_ | refine WK.scope ?_ | refine WK.inScope ?_ | refine WK.exit rfl ?_)
      refine WK.next (fun n => if n = 60 then 902 else n) (IH ((f - 1, p + k, acc ++ [y])) (hn) (by first | omega | (dsimp only; omega))) (by repeat (first | exact TmW.nil | refine TmW.upd ?_ (by simp (maxDischargeDepth := 120) [hsn, hll, aFault]))) (by repeat (first | exact BxW.nil | refine BxW.upd ?_ (by simp (maxDischargeDepth := 120) [hsn, hll, aFault]))) (by first | exact InjW.id | exact InjW.nil | exact InjW.one | exact InjW.two (by simp) | exact InjW.three (by simp) (by simp) (by simp))
  · have hstop := AcAt.stop hi h1
    simp only at hstop
    have hpos : ¬ 0 < b.length - p := by omega
    have hpos' : ¬ (0 : Int) < ((b.length - p : Nat) : Int) := by omega
    obtain ⟨L, hL⟩ : ∃ L, b.length - p = L := ⟨_, rfl⟩
    rw [hL] at hpos hpos' ⊢
    clear hL
    by_cases h100 : 100 < acc.length
    · have e : acDec b = ([], some 7) := by unfold acDec; rw [hstop, if_pos ⟨rfl, h100⟩]
      have h100' : (100 : Int) < acc.length := by omega
      rw [e]
      repeat' (first
       | refine WK.seq ?_
       | refine WK.block ?_
       | refine WK.inBlock ?_
       | refine WK.skip ?_
       | refine WK.label ?_
       | refine WK.scope ?_
       | refine WK.inScope ?_
       | refine WK.exit rfl ?_
       | refine WK.condT rfl ?_
       | refine WK.condF rfl ?_
       | (refine Hid.h hQ _ _ ?_; clear hQ hA)
       | refine WK.condAny rfl ?_ ?_
       | ((first | refine WK.cond2 rfl (fun h => ?_) (fun h => ?_)) <;> (first | (simp [*] at h; done) | (have h2 := h; simp at h2; exfalso; omega) | (have h2 := h; simp at h2; try simp only [Bool.not_eq_true', Bool.not_eq_false'] at h) | skip))
       | ((first | refine WK.regH Tryz.ntmps85 (by kernel_rfl) ?_ | refine WK.regX (by kernel_rfl) Tryz.ntmps85 (by kernel_rfl) ?_); intro A hA Q hQ; simp [aFault, *])
       | (refine Hid.h hQ _ _ _ (by decide +kernel) ?_; clear hQ hA)
       | fail)
      repeat (first | refine WK.seq ?_ | refine WK.block ?_ | refine WK.inBlock ?_ | refine WK.skip ?_ | refine WK.label ?_ | refine WK.scope ?_ | refine WK.inScope ?_ | refine WK.exit rfl ?_)
      refine WK.ghost (Ghost.own 2 901 11 rfl rfl) ?_
      repeat (first | refine WK.seq ?_ | refine WK.block ?_ | refine WK.inBlock ?_ | refine WK.skip ?_ | refine WK.label ?_ | refine WK.scope ?_ | refine WK.inScope ?_ | refine WK.exit rfl ?_)
      refine WK.retT2 Tryz.func85 ?_ ?_ ?_ <;> simp (maxDischargeDepth := 120) [Tryz.results85, actL_nil, aFault]
    · have e : acDec b = (acc, none) := by unfold acDec; rw [hstop, if_neg (fun h => h100 h.2)]
      have h100' : ¬ (100 : Int) < acc.length := by omega
      rw [e]
      repeat' (first
       | refine WK.seq ?_
       | refine WK.block ?_
       | refine WK.inBlock ?_
       | refine WK.skip ?_
       | refine WK.label ?_
       | refine WK.scope ?_
       | refine WK.inScope ?_
       | refine WK.exit rfl ?_
       | refine WK.condT rfl ?_
       | refine WK.condF rfl ?_
       | (refine Hid.h hQ _ _ ?_; clear hQ hA)
       | refine WK.condAny rfl ?_ ?_
       | ((first | refine WK.cond2 rfl (fun h => ?_) (fun h => ?_)) <;> (first | (simp [*] at h; done) | (have h2 := h; simp at h2; exfalso; omega) | (have h2 := h; simp at h2; try simp only [Bool.not_eq_true', Bool.not_eq_false'] at h) | skip))
       | ((first | refine WK.regH Tryz.ntmps85 (by kernel_rfl) ?_ | refine WK.regX (by kernel_rfl) Tryz.ntmps85 (by kernel_rfl) ?_); intro A hA Q hQ; simp [aFault, *])
       | (refine Hid.h hQ _ _ _ (by decide +kernel) ?_; clear hQ hA)
       | (refine WK.retT2 Tryz.func85 ?_ ?_ ?_ <;> simp (maxDischargeDepth := 120) [Tryz.results85, aFault, *])
       | fail)
end Go.Proofs.YteonfhnljphbpaaGreat
end

section
set_option linter.unusedVariables false
set_option linter.unusedSimpArgs false
namespace Go.Proofs.YteonfhnljphbpaaGreat
open Go Go.AI Go.Proofs
attribute [local irreducible] FnP FnO FnB FnT FnSeq WK RunQ RunQW RunX RunXW

set_option maxHeartbeats 4000000 in
theorem racenc_c (l : List Action) (hl : l.length ≤ 1000000) : FnT Tryz.prog 62 [actS l] (acEnc l).1.length 1 (byL (acEnc l).1) [.int .i64 (acEnc l).2] := by
  unfold actS
  by_cases h100 : 100 < l.length
  · have e : acEnc l = ([], 1) := by unfold acEnc; rw [if_pos h100]
    have j : (100 : Int) < l.length := by omega
    rw [e]
    refine FnT.intro Tryz.func62 rfl rfl fun G w => ?_
    repeat' (first
     | refine WK.seq ?_
     | refine WK.block ?_
     | refine WK.inBlock ?_
     | refine WK.skip ?_
     | refine WK.label ?_
     | refine WK.scope ?_
     | refine WK.inScope ?_
     | refine WK.exit rfl ?_
     | refine WK.condT rfl ?_
     | refine WK.condF rfl ?_
     | (refine Hid.h hQ _ _ ?_; clear hQ hA)
     | refine WK.condAny rfl ?_ ?_
     | ((first | refine WK.cond2 rfl (fun h => ?_) (fun h => ?_)) <;> (first | (simp [*] at h; done) | (have h2 := h; simp at h2; exfalso; omega) | (have h2 := h; simp at h2; try simp only [Bool.not_eq_true', Bool.not_eq_false'] at h) | skip))
     | (refine WK.regH Tryz.ntmps62 (by kernel_rfl) ?_; intro A hA Q hQ; simp [*])
     | fail)
    repeat (first | refine WK.seq ?_ | refine WK.block ?_ | refine WK.inBlock ?_ | refine WK.skip ?_ | refine WK.label ?_ | refine WK.scope ?_ | refine WK.inScope ?_ | refine WK.exit rfl ?_)
    refine WK.ghost (Ghost.own 2 900 1 rfl rfl) ?_
    repeat (first | refine WK.seq ?_ | refine WK.block ?_ | refine WK.inBlock ?_ | refine WK.skip ?_ | refine WK.label ?_ | refine WK.scope ?_ | refine WK.inScope ?_ | refine WK.exit rfl ?_)
    refine WK.retT2 Tryz.func62 ?_ ?_ ?_ <;> simp (maxDischargeDepth := 120) [Tryz.results62, byL_nil]
  have j : ¬ (100 : Int) < l.length := by omega
  have hdef : acEnc l = if l.all Action.right = true then (acFlat l, 0) else ([], 1) := by unfold acEnc; rw [if_neg h100]
  refine FnT.intro Tryz.func62 rfl rfl fun G w => ?_
  repeat' (first
   | refine WK.seq ?_
   | refine WK.block ?_
   | refine WK.inBlock ?_
   | refine WK.skip ?_
   | refine WK.label ?_
   | refine WK.scope ?_
   | refine WK.inScope ?_
   | refine WK.exit rfl ?_
   | refine WK.condT rfl ?_
   | refine WK.condF rfl ?_
   | (refine Hid.h hQ _ _ ?_; clear hQ hA)
   | refine WK.condAny rfl ?_ ?_
   | ((first | refine WK.cond2 rfl (fun h => ?_) (fun h => ?_)) <;> (first | (simp [*] at h; done) | (have h2 := h; simp at h2; exfalso; omega) | (have h2 := h; simp at h2; try simp only [Bool.not_eq_true', Bool.not_eq_false'] at h) | skip))
   | (refine WK.regH Tryz.ntmps62 (by kernel_rfl) ?_; intro A hA Q hQ; simp [*])
   | fail)
  repeat (first | refine WK.seq ?_ | refine WK.block ?_ | refine WK.inBlock ?_ | refine WK.skip ?_ | refine WK.label ?_ | refine WK.scope ?_ | refine WK.inScope ?_ | refine WK.exit rfl ?_)
  refine WK.ghost (Ghost.own 4 900 1 rfl rfl) ?_
  repeat (first | refine WK.seq ?_ | refine WK.block ?_ | refine WK.inBlock ?_ | refine WK.skip ?_ | refine WK.label ?_ | refine WK.scope ?_ | refine WK.inScope ?_ | refine WK.exit rfl ?_)
  refine WK.loopI (fun n => if n = 1 then 900 else n) (fun i : Nat => (⟨(upd (upd (upd (upd (upd J 0 (.sl false l.length (actL l))) 2 (.sl true 0 [])) 3 (.int .i64 0)) 4 (.msl 1 0 (acFlat (l.take i)).length)) 5 (.int .i64 i)), (upd B0 1 (.buf 1 (byL (acFlat (l.take i))))), 0⟩ : St)) (fun i => i ≤ l.length ∧ ∀ j, j < i → Action.right (nth l j) = true) (fun i => l.length - i) (0) (by repeat (first | exact TmW.nil | refine TmW.upd ?_ (by simp (maxDischargeDepth := 120) [acFlat, byL_nil]))) (by repeat (first | exact BxW.nil | refine BxW.upd ?_ (by simp (maxDischargeDepth := 120) [acFlat, byL_nil]))) (by first | exact InjW.id | exact InjW.nil | exact InjW.one | exact InjW.two (by simp) | exact InjW.three (by simp) (by simp) (by simp)) (⟨by omega, by simp⟩) (fun i hi IH => ?_)
  have hfl := acFlat_len (l.take i)
  have htl : (l.take i).length ≤ 100 := by rw [List.length_take]; omega
  by_cases h1 : i < l.length
  · obtain ⟨h4, h3⟩ := act_load l i h1
    have h6 : IntKind.i64.wrap ((i : Int) + 1) = i + 1 := wrap_i64 (by omega) (by omega)
    have hc := raencP_c (nth l i)
    have hcd := aEnc_code (nth l i)
    have hel := aEnc_len (nth l i)
    rw [hcd] at hc
    cases hr : Action.right (nth l i)
    · have e : acEnc l = ([], 1) := by rw [hdef, if_neg (by rw [all_false_of h1 hr]; exact Bool.false_ne_true)]
      rw [hr] at hc
      rw [e]
      repeat' (first
       | refine WK.seq ?_
       | refine WK.block ?_
       | refine WK.inBlock ?_
       | refine WK.skip ?_
       | refine WK.label ?_
       | refine WK.scope ?_
       | refine WK.inScope ?_
       | refine WK.exit rfl ?_
       | refine WK.condT rfl ?_
       | refine WK.condF rfl ?_
       | (refine Hid.h hQ _ _ ?_; clear hQ hA)
       | refine WK.condAny rfl ?_ ?_
       | ((first | refine WK.cond2 rfl (fun h => ?_) (fun h => ?_)) <;> (first | (simp [*] at h; done) | (have h2 := h; simp at h2; exfalso; omega) | (have h2 := h; simp at h2; try simp only [Bool.not_eq_true', Bool.not_eq_false'] at h) | skip))
       | (refine WK.regH Tryz.ntmps62 (by kernel_rfl) ?_; intro A hA Q hQ; simp [bne, *])
       | ((refine RunQ.call rfl rfl rfl rfl rfl ?_ (hc) ?_ ?_; (focus (simp (maxDischargeDepth := 120) [bne, *]; done))); (focus (simp [bne, *]; done)); refine RunQ.evalH ?_; simp [bne, *])
       | fail)
      repeat (first | refine WK.seq ?_ | refine WK.block ?_ | refine WK.inBlock ?_ | refine WK.skip ?_ | refine WK.label ?_ | refine WK.scope ?_ | refine WK.inScope ?_ | refine WK.exit rfl ?_)
      refine WK.ghost (Ghost.own 2 901 1 rfl rfl) ?_
      repeat (first | refine WK.seq ?_ | refine WK.block ?_ | refine WK.inBlock ?_ | refine WK.skip ?_ | refine WK.label ?_ | refine WK.scope ?_ | refine WK.inScope ?_ | refine WK.exit rfl ?_)
      refine WK.retT2 Tryz.func62 ?_ ?_ ?_ <;> simp (maxDischargeDepth := 120) [Tryz.results62, byL_nil]
    · rw [hr] at hc
      have hs := acFlat_succ h1
      obtain ⟨F, hF⟩ : ∃ F, acFlat (l.take i) = F := ⟨_, rfl⟩
      obtain ⟨E, hE⟩ : ∃ E, (aEnc (nth l i)).1 = E := ⟨_, rfl⟩
      rw [hF] at hs hfl ⊢
      rw [hE] at hs hc hel
      have hbd : F.length + E.length ≤ 1000000 := by omega
      have hfull := by_full E E.length rfl
      unfold byS at hc
      clear hE hF
      repeat' (first
       | refine WK.seq ?_
       | refine WK.block ?_
       | refine WK.inBlock ?_
       | refine WK.skip ?_
       | refine WK.label ?_
       | refine WK.scope ?_
       | refine WK.inScope ?_
       | refine WK.exit rfl ?_
       | refine WK.condT rfl ?_
       | refine WK.condF rfl ?_
       | (refine Hid.h hQ _ _ ?_; clear hQ hA)
       | refine WK.condAny rfl ?_ ?_
       | ((first | refine WK.cond2 rfl (fun h => ?_) (fun h => ?_)) <;> (first | (simp [*] at h; done) | (have h2 := h; simp at h2; exfalso; omega) | (have h2 := h; simp at h2; try simp only [Bool.not_eq_true', Bool.not_eq_false'] at h) | skip))
       | (refine WK.regH Tryz.ntmps62 (by kernel_rfl) ?_; intro A hA Q hQ; simp [bne, *])
       | (refine RunQ.append 902 appByte rfl rfl rfl rfl rfl rfl rfl rfl rfl ?_ ?_ ?_ ?_ ?_; (focus (first | omega | (simp [bne, *]; done); done)); (focus (first | omega | (simp [bne, *]; done); done)); (focus (first | omega | (simp [bne, *]; done); done)); (focus (first | omega | (simp [bne, *]; done); done)); refine RunQ.evalH ?_; simp [bne, *])
       | ((refine RunQ.call rfl rfl rfl rfl rfl ?_ (hc) ?_ ?_; (focus (simp (maxDischargeDepth := 120) [bne, *]; done))); (focus (simp [bne, *]; done)); refine RunQ.evalH ?_; simp [bne, *])
       | fail)
      repeat (first | refine WK.seq ?_ | refine WK.block ?_ | refine WK.inBlock ?_ | refine WK.skip ?_ | refine WK.label ?_ | refine WK.scope ?_ | refine WK.inScope ?_ | refine WK.exit rfl ?_)
      refine WK.next (fun n => if n = 1 then 902 else n) (IH (i + 1) (⟨by omega, fun j hj => by by_cases h7 : j = i; (subst h7; exact hr); exact hi.2 j (by omega)⟩) (by first | omega | (dsimp only; omega))) (by repeat (first | exact TmW.nil | refine TmW.upd ?_ (by simp (maxDischargeDepth := 120) [hs, byL_app]))) (by repeat (first | exact BxW.nil | refine BxW.upd ?_ (by simp (maxDischargeDepth := 120) [hs, byL_app]))) (by first | exact InjW.id | exact InjW.nil | exact InjW.one | exact InjW.two (by simp) | exact InjW.three (by simp) (by simp) (by simp))
  · have e : acEnc l = (acFlat l, 0) := by rw [hdef, if_pos (all_true_of fun j hj => hi.2 j (by omega))]
    have hT : l.take i = l := List.take_of_length_le (by omega)
    rw [e, hT]
    repeat' (first
     | refine WK.seq ?_
     | refine WK.block ?_
     | refine WK.inBlock ?_
     | refine WK.skip ?_
     | refine WK.label ?_
     | refine WK.scope ?_
     | refine WK.inScope ?_
     | refine WK.exit rfl ?_
     | refine WK.condT rfl ?_
     | refine WK.condF rfl ?_
     | (refine Hid.h hQ _ _ ?_; clear hQ hA)
     | refine WK.condAny rfl ?_ ?_
     | ((first | refine WK.cond2 rfl (fun h => ?_) (fun h => ?_)) <;> (first | (simp [*] at h; done) | (have h2 := h; simp at h2; exfalso; omega) | (have h2 := h; simp at h2; try simp only [Bool.not_eq_true', Bool.not_eq_false'] at h) | skip))
     | (refine WK.regH Tryz.ntmps62 (by kernel_rfl) ?_; intro A hA Q hQ; simp [*])
     | (refine WK.retT2 Tryz.func62 ?_ ?_ ?_ <;> simp (maxDischargeDepth := 120) [Tryz.results62, *])
     | fail)
theorem acencP_c (l : List Action) (hl : l.length ≤ 1000000) : FnP Tryz.prog 68 [actS l] (.tup [byS (acEnc l).1, .int .i64 (acEnc l).2]) := by
  have h := (acenc_c l hl).toP (by simp [byL_take]) (by rfl)
  rwa [Nat.mul_one, by_full _ _ rfl] at h
theorem racencP_c (l : List Action) (hl : l.length ≤ 1000000) : FnP Tryz.prog 62 [actS l] (.tup [byS (acEnc l).1, .int .i64 (acEnc l).2]) := by
  have h := (racenc_c l hl).toP (by simp [byL_take]) (by rfl)
  rwa [Nat.mul_one, by_full _ _ rfl] at h
theorem acdecP_c (b : List (BitVec 8)) (hb : b.length ≤ 1000000) : FnP Tryz.prog 85 [byS b] (.tup [actS (acDec b).1, .agg (aFault (acDec b).2)]) := by
  have h := (acdec_c b hb).toP (by simp) (by simp [ClL, Cl])
  rwa [actL_take] at h
theorem acEnc_len (l : List Action) : (acEnc l).1.length ≤ 6000 := by
  have h := acFlat_len l
  unfold acEnc
  split
  · simp
  split
  · simp only; omega
  · simp
end Go.Proofs.YteonfhnljphbpaaGreat
end

section
set_option linter.unusedVariables false
set_option linter.unusedSimpArgs false
namespace Go.Proofs.YteonfhnljphbpaaGreat
open Go Go.AI Go.Proofs

theorem acFlat_cons (a : Action) (l : List Action) : acFlat (a :: l) = (aEnc a).1 ++ acFlat l := rfl
theorem acEnc_ok {l : List Action} (h1 : l.length ≤ 100) (h2 : l.all Action.right = true) : acEnc l = (acFlat l, 0) := by
  unfold acEnc; rw [if_neg (by omega), if_pos h2]
theorem acDecF_back : ∀ (f : Nat) (b : List (BitVec 8)), b.length ≤ f → (acDecF f b).2 = none → (∀ a, a ∈ (acDecF f b).1 → Action.right a = true) ∧ acFlat (acDecF f b).1 = b
  | 0, b, hb, _ => by
    have : b = [] := List.eq_nil_of_length_eq_zero (by omega)
    subst this
    exact ⟨fun a ha => by simp [acDecF] at ha, rfl⟩
  | f + 1, b, hb, h => by
    rw [acDecF] at h ⊢
    by_cases h0 : b.length = 0
    · rw [if_pos h0] at *
      have : b = [] := List.eq_nil_of_length_eq_zero h0
      subst this
      exact ⟨fun a ha => by simp at ha, rfl⟩
    · rw [if_neg h0] at h ⊢
      obtain ⟨y, n, c, hd⟩ : ∃ y n c, aDec b = (y, n, c) := ⟨_, _, _, rfl⟩
      rw [hd] at h ⊢
      cases c with
      | some c => simp at h
      | none =>
        obtain ⟨hr, k, hk, h8, hkl, _, he⟩ := aDec_back hd
        subst hk
        simp only [Int.toNat_natCast] at h ⊢
        obtain ⟨R, hR⟩ : ∃ R, acDecF f (b.drop k) = R := ⟨_, rfl⟩
        rw [hR] at h ⊢
        obtain ⟨m, c⟩ := R
        cases c with
        | some c => simp [acGlue] at h
        | none =>
          obtain ⟨h1, h2⟩ := acDecF_back f (b.drop k) (by rw [List.length_drop]; omega) (by rw [hR])
          rw [hR] at h1 h2
          simp only at h1 h2
          refine ⟨fun a ha => ?_, ?_⟩
          · simp only [acGlue, List.cons_append, List.nil_append, List.mem_cons] at ha
            rcases ha with rfl | ha
            · exact hr
            · exact h1 a ha
          · simp only [acGlue, List.cons_append, List.nil_append]
            rw [acFlat_cons, he, h2, List.take_append_drop]
theorem acDec_back {b : List (BitVec 8)} {k : List Action} (h : acDec b = (k, none)) : acEnc k = (b, 0) := by
  unfold acDec at h
  split at h
  · cases h
  · rename_i hn
    obtain ⟨h1, h2⟩ := acDecF_back b.length b (Nat.le_refl _) (by rw [h])
    rw [h] at h1 h2 hn
    simp only at h1 h2 hn
    rw [acEnc_ok (by simp only [true_and] at hn; omega) (List.all_eq_true.2 h1), h2]
end Go.Proofs.YteonfhnljphbpaaGreat
end

section
set_option linter.unusedVariables false
set_option linter.unusedSimpArgs false
namespace Go.Proofs.YteonfhnljphbpaaGreat
open Go Go.AI Go.Proofs

section
variable {α φ : Type}
def rwGlue (acc : List α) (r : List α × Option φ) : List α × Option φ := match r.2 with | none => (acc ++ r.1, none) | some c => ([], some c)
def rwF (rd : List (BitVec 8) → α × Int × Option φ) : Nat → List (BitVec 8) → List α × Option φ
  | 0, _ => ([], none)
  | f + 1, b => if b.length = 0 then ([], none) else match (rd b).2.2 with
    | some c => ([], some c)
    | none => rwGlue [(rd b).1] (rwF rd f (b.drop (rd b).2.1.toNat))
def rwDec (rd : List (BitVec 8) → α × Int × Option φ) (b : List (BitVec 8)) : List α × Option φ := rwF rd b.length b
theorem rwGlue_glue (a b : List α) (r : List α × Option φ) : rwGlue a (rwGlue b r) = rwGlue (a ++ b) r := by
  obtain ⟨l, c⟩ := r
  cases c <;> simp [rwGlue]
theorem rwGlue_nil (r : List α × Option φ) (h : ∀ c, r.2 = some c → r.1 = []) : rwGlue [] r = r := by
  obtain ⟨l, c⟩ := r
  cases c with
  | none => simp [rwGlue]
  | some c => simp only at h; rw [h c rfl]; rfl
theorem rwF_bad {rd : List (BitVec 8) → α × Int × Option φ} : ∀ (f : Nat) (b : List (BitVec 8)) (c : φ), (rwF rd f b).2 = some c → (rwF rd f b).1 = []
  | 0, b, c, h => rfl
  | f + 1, b, c, h => by
    rw [rwF] at h ⊢
    split
    · rfl
    rename_i h0
    rw [if_neg h0] at h
    cases hd : (rd b).2.2 with
    | some c => rfl
    | none =>
      simp only [hd] at h ⊢
      cases hr : (rwF rd f (b.drop (rd b).2.1.toNat)).2 with
      | none => simp [rwGlue, hr] at h
      | some c => simp [rwGlue, hr]
theorem rwF_stop {rd : List (BitVec 8) → α × Int × Option φ} {f : Nat} {b : List (BitVec 8)} (h : b.length = 0) : rwF rd f b = ([], none) := by
  cases f with
  | zero => rfl
  | succ f => rw [rwF, if_pos h]
/-- what a reader has to keep: it takes `m` bytes at least -/
def RdKeeps (rd : List (BitVec 8) → α × Int × Option φ) (m : Nat) : Prop := ∀ b y n, rd b = (y, n, none) → ∃ k : Nat, n = (k : Int) ∧ m ≤ k ∧ k ≤ b.length
structure RwAt (rd : List (BitVec 8) → α × Int × Option φ) (m : Nat) (b : List (BitVec 8)) (x : Nat × Nat × List α) : Prop where
  le : x.2.1 ≤ b.length
  fuel : b.length - x.2.1 ≤ x.1
  eq : rwDec rd b = rwGlue x.2.2 (rwF rd x.1 (b.drop x.2.1))
  small : x.2.2.length * m ≤ x.2.1
theorem RwAt.start (rd : List (BitVec 8) → α × Int × Option φ) (m : Nat) (b : List (BitVec 8)) : RwAt rd m b (b.length, 0, []) := ⟨Nat.zero_le _, Nat.le_refl _, (rwGlue_nil _ (rwF_bad _ _)).symm, by simp⟩
theorem RwAt.bad {rd : List (BitVec 8) → α × Int × Option φ} {m : Nat} {b : List (BitVec 8)} {x : Nat × Nat × List α} (h : RwAt rd m b x) (hp : x.2.1 < b.length) {y : α} {n : Int} {c : φ} (hd : rd (b.drop x.2.1) = (y, n, some c)) : rwDec rd b = ([], some c) := by
  rw [h.eq]
  obtain ⟨f, hf⟩ : ∃ f, x.1 = f + 1 := ⟨x.1 - 1, by have := h.fuel; omega⟩
  rw [hf, rwF, if_neg (by rw [List.length_drop]; omega), hd]; rfl
theorem RwAt.next {rd : List (BitVec 8) → α × Int × Option φ} {m : Nat} (hm : 0 < m) (hk : RdKeeps rd m) {b : List (BitVec 8)} {x : Nat × Nat × List α} (h : RwAt rd m b x) (hp : x.2.1 < b.length) {y : α} {n : Int} (hd : rd (b.drop x.2.1) = (y, n, none)) : ∃ k : Nat, n = k ∧ x.2.1 + k ≤ b.length ∧ 0 < k ∧
    RwAt rd m b (x.1 - 1, x.2.1 + k, x.2.2 ++ [y]) := by
  obtain ⟨k, hk, h8, hkl⟩ := hk _ _ _ hd
  rw [List.length_drop] at hkl
  obtain ⟨f, hf⟩ : ∃ f, x.1 = f + 1 := ⟨x.1 - 1, by have := h.fuel; omega⟩
  refine ⟨k, hk, by omega, by omega, ⟨by simp only; omega, by have := h.fuel; simp only; omega, ?_, ?_⟩⟩
  · rw [h.eq, hf, rwF, if_neg (by rw [List.length_drop]; omega), hd]
    simp only [Nat.add_sub_cancel]
    rw [rwGlue_glue, hk, Int.toNat_natCast, List.drop_drop]
  · have := h.small
    simp only [List.length_append, List.length_singleton, Nat.add_mul, Nat.one_mul]; omega
theorem RwAt.stop {rd : List (BitVec 8) → α × Int × Option φ} {m : Nat} {b : List (BitVec 8)} {x : Nat × Nat × List α} (h : RwAt rd m b x) (hp : ¬ x.2.1 < b.length) : rwDec rd b = (x.2.2, none) := by
  rw [h.eq, rwF_stop (by rw [List.length_drop]; omega)]; simp [rwGlue]
def rwFlat (en : α → List (BitVec 8)) (l : List α) : List (BitVec 8) := l.flatMap en
end
end Go.Proofs.YteonfhnljphbpaaGreat
end

section
set_option linter.unusedVariables false
set_option linter.unusedSimpArgs false
namespace Go.Proofs.YteonfhnljphbpaaGreat
open Go Go.AI Go.Proofs

structure Bucket where
  weight : Int
  watch : Int
  wgroup : Int
  acts : List Action
  deriving DecidableEq, Inhabited
def Bucket.enc (x : Bucket) : List AV := [.int .i64 x.weight, .int .i64 x.watch, .int .i64 x.wgroup, .sl false x.acts.length (actL x.acts)]
@[simp] theorem Bucket.len (x : Bucket) : x.enc.length = 4 := rfl
@[simp] theorem Bucket.cl (x : Bucket) : ClL x.enc = true := by simp [Bucket.enc, ClL, Cl]
def bukL (l : List Bucket) : List AV := l.flatMap Bucket.enc
def bukS (l : List Bucket) : AV := .sl false l.length (bukL l)
@[simp] theorem bukL_len (l : List Bucket) : (bukL l).length = l.length * 4 := fm_length Bucket.len l
@[simp] theorem bukL_cl (l : List Bucket) : ClL (bukL l) = true := ClL_flatMap _ Bucket.cl l
theorem buk_sub (l : List Bucket) (i : Nat) (h : i < l.length) : ((bukL l).drop (i * 4)).take 4 = (nth l i).enc := fm_nth Bucket.len l i h
theorem buk_load (l : List Bucket) (i : Nat) (h : i < l.length) : ((bukL l).drop (i * 4)).take 4 = (nth l i).enc ∧ 4 ≤ l.length * 4 - i * 4 := ⟨buk_sub l i h, by omega⟩
@[simp] theorem bukS_cl (l : List Bucket) : Cl (bukS l) = true := by simp [bukS, Cl]
@[simp] theorem bukL_take (l : List Bucket) : (bukL l).take (l.length * 4) = bukL l := List.take_of_length_le (by simp)
@[simp] theorem bukL_nil : bukL [] = [] := rfl
theorem bukL_app (l m : List Bucket) : bukL (l ++ m) = bukL l ++ bukL m := List.flatMap_append
@[simp] theorem Bucket.take (x : Bucket) : x.enc.take 4 = x.enc := rfl
@[simp] theorem Bucket.drop (x : Bucket) : x.enc.drop 4 = [] := rfl
theorem bukL_one (x : Bucket) : bukL [x] = x.enc := by simp [bukL]
theorem bukL_snoc (l : List Bucket) (x : Bucket) : bukL l ++ x.enc = bukL (l ++ [x]) := by rw [bukL_app, bukL_one]
theorem buk_get (l : List Bucket) (i k : Nat) (h : i < l.length) (hk : k < 4) (h' : i * 4 + k < (bukL l).length) : (bukL l)[i * 4 + k] = ((nth l i).enc)[k]'(by rw [Bucket.len]; exact hk) := fm_get Bucket.len l i k h hk h'
def bkRight (x : Bucket) : Bool := (acEnc x.acts).2 == 0 && (numOk x.weight 2 && (numOk x.watch 4 && numOk x.wgroup 4))
def bkOne (x : Bucket) : List (BitVec 8) := beN (16 + (acEnc x.acts).1.length : Nat) 2 ++ (beN x.weight 2 ++ (beN x.watch 4 ++ (beN x.wgroup 4 ++ (List.replicate 4 0#8 ++ (acEnc x.acts).1))))
def buk0 : Bucket := ⟨0, 0, 0, []⟩
def bkRead (b : List (BitVec 8)) : Bucket × Int × Option (Int × Int) :=
  if b.length < 16 ∨ (getN b 0 2).1 < 16 ∨ ¬ (getN b 0 2).1 % 8 = 0 ∨ (b.length : Int) < (getN b 0 2).1 ∨ allZ ((b.drop 12).take 4) = false then (buk0, 0, some (6, 12))
  else (⟨(getN b 2 2).1, (getN b 4 4).1, (getN b 8 4).1, (acDec ((b.drop 16).take ((getN b 0 2).1.toNat - 16))).1⟩, (getN b 0 2).1, (acDec ((b.drop 16).take ((getN b 0 2).1.toNat - 16))).2.map fun c => (2, c))
theorem bkOne_len (x : Bucket) : (bkOne x).length = 16 + (acEnc x.acts).1.length := by
  unfold bkOne; simp [beN_len]; omega
theorem getN_ok {b : List (BitVec 8)} {p s : Nat} (h : p + s ≤ b.length) : numOk (getN b p s).1 s = true ∧ beN (getN b p s).1 s = (b.drop p).take s := by
  have hl : ((b.drop p).take s).length = s := by rw [List.length_take, List.length_drop]; omega
  rw [getN_val h]
  exact ⟨numOk_valN hl, beN_valN s _ hl⟩
theorem bkRead_back {b : List (BitVec 8)} {y : Bucket} {n : Int} (h : bkRead b = (y, n, none)) : bkRight y = true ∧ ∃ k : Nat, n = (k : Int) ∧ 16 ≤ k ∧ k ≤ b.length ∧ k % 8 = 0 ∧ bkOne y = b.take k := by
  unfold bkRead at h
  split at h
  · cases h
  rename_i hc
  have c1 : ¬ b.length < 16 := fun h => hc (.inl h)
  have c2 : ¬ (getN b 0 2).1 < 16 := fun h => hc (.inr (.inl h))
  have c3 : (getN b 0 2).1 % 8 = 0 := Decidable.byContradiction fun h => hc (.inr (.inr (.inl h)))
  have c4 : ¬ (b.length : Int) < (getN b 0 2).1 := fun h => hc (.inr (.inr (.inr (.inl h))))
  have c5 : allZ ((b.drop 12).take 4) = true := by
    cases hz : allZ ((b.drop 12).take 4)
    · exact absurd hz fun h => hc (.inr (.inr (.inr (.inr h))))
    · rfl
  clear hc
  obtain ⟨k, hk⟩ : ∃ k : Nat, (getN b 0 2).1 = k := ⟨(getN b 0 2).1.toNat, by omega⟩
  obtain ⟨o0, e0⟩ := getN_ok (b := b) (p := 0) (s := 2) (by omega)
  obtain ⟨o1, e1⟩ := getN_ok (b := b) (p := 2) (s := 2) (by omega)
  obtain ⟨o2, e2⟩ := getN_ok (b := b) (p := 4) (s := 4) (by omega)
  obtain ⟨o3, e3⟩ := getN_ok (b := b) (p := 8) (s := 4) (by omega)
  rw [hk] at h c2 c3 c4 e0
  simp only [Int.toNat_natCast] at h
  obtain ⟨R, hR⟩ : ∃ R, acDec ((b.drop 16).take (k - 16)) = R := ⟨_, rfl⟩
  rw [hR] at h
  obtain ⟨l, c⟩ := R
  cases c with
  | some c => simp at h
  | none =>
    simp only [Option.map_none, Prod.mk.injEq, and_true] at h
    obtain ⟨rfl, rfl⟩ := h
    have hb := acDec_back hR
    have hsl : ((b.drop 16).take (k - 16)).length = k - 16 := by rw [List.length_take, List.length_drop]; omega
    refine ⟨?_, k, rfl, by omega, by omega, by omega, ?_⟩
    · unfold bkRight
      simp only [hb, o1, o2, o3]
      rfl
    · unfold bkOne
      simp only [hb]
      rw [hsl, show 16 + (k - 16) = k by omega, e0, e1, e2, e3, List.drop_zero]
      have hz : List.replicate 4 0#8 = (b.drop 12).take 4 := by
        rw [allZ_iff] at c5
        rw [c5, List.length_take, List.length_drop, show min 4 (b.length - 12) = 4 by omega]
      rw [hz]
      have ta : ∀ p q : Nat, (b.drop p).take q ++ (b.drop (p + q)).take (k - (p + q)) = (b.drop p).take (q + (k - (p + q))) := fun p q => by rw [List.take_add, List.drop_drop]
      have t1 := ta 12 4
      have t2 := ta 8 4
      have t3 := ta 4 4
      have t4 := ta 2 2
      have t5 := ta 0 2
      simp only [Nat.reduceAdd, List.drop_zero] at t1 t2 t3 t4 t5
      rw [t1, show 4 + (k - 16) = k - 12 by omega, t2, show 4 + (k - 12) = k - 8 by omega, t3, show 4 + (k - 8) = k - 4 by omega, t4, show 2 + (k - 4) = k - 2 by omega, t5, show 2 + (k - 2) = k by omega]
end Go.Proofs.YteonfhnljphbpaaGreat
end

section
set_option linter.unusedVariables false
set_option linter.unusedSimpArgs false
namespace Go.Proofs.YteonfhnljphbpaaGreat
open Go Go.AI Go.Proofs

def bkEnc (l : List Bucket) : List (BitVec 8) × Int := if l.length ≤ 100 ∧ l.all bkRight = true ∧ (rwFlat bkOne l).length ≤ 60000 then (rwFlat bkOne l, 0) else ([], 1)
def bkDec (b : List (BitVec 8)) : List Bucket × Option (Int × Int) :=
  if 60000 < b.length then ([], some (6, 12)) else if (rwDec bkRead b).2 = none ∧ 100 < (rwDec bkRead b).1.length then ([], some (6, 4)) else rwDec bkRead b
theorem bkKeeps : RdKeeps bkRead 16 := fun b y n h => by
  obtain ⟨_, k, hk, h16, hl, _⟩ := bkRead_back h
  exact ⟨k, hk, h16, hl⟩
theorem bkEnc_len (l : List Bucket) : (bkEnc l).1.length ≤ 60000 := by
  unfold bkEnc
  split
  · rename_i h; exact h.2.2
  · simp
structure GroupMod where
  command : Int
  kind : Int
  id : Int
  buckets : List Bucket
  deriving DecidableEq, Inhabited
def GroupMod.enc (g : GroupMod) : List AV := [.int .i64 g.command, .int .i64 g.kind, .int .i64 g.id, .sl false g.buckets.length (bukL g.buckets)]
def gm0 : GroupMod := ⟨0, 0, 0, []⟩
def gmIn (n top : Int) : Bool := decide (0 ≤ n) && decide (n ≤ top)
def gmRight (g : GroupMod) : Bool := (bkEnc g.buckets).2 == 0 && (gmIn g.command 2 && (gmIn g.kind 3 && numOk g.id 4))
def gmHead (g : GroupMod) : List (BitVec 8) := beN g.command 2 ++ (beN g.kind 1 ++ (beN 0 1 ++ beN g.id 4))
def gmEnc (g : GroupMod) : List (BitVec 8) × Int := if gmRight g = true then (gmHead g ++ (bkEnc g.buckets).1, 0) else ([], 1)
def gmDec (b : List (BitVec 8)) : GroupMod × Option (Int × Int) :=
  if b.length < 8 ∨ (getN b 3 1).1 ≠ 0 then (gm0, some (1, 6))
  else if gmIn (getN b 0 2).1 2 = false then (gm0, some (6, 11))
  else if gmIn (getN b 2 1).1 3 = false then (gm0, some (6, 10))
  else match (bkDec (b.drop 8)).2 with
    | some c => (gm0, some c)
    | none => (⟨(getN b 0 2).1, (getN b 2 1).1, (getN b 4 4).1, (bkDec (b.drop 8)).1⟩, none)
theorem gmIn_ok {n t : Int} {s : Nat} (h : gmIn n t = true) (ht : t < 256 ^ s) : numOk n s = true := by
  unfold gmIn at h
  rw [Bool.and_eq_true, decide_eq_true_eq, decide_eq_true_eq] at h
  rw [numOk_iff]
  exact ⟨h.1, Int.lt_of_le_of_lt h.2 ht⟩
end Go.Proofs.YteonfhnljphbpaaGreat
end

section
set_option linter.unusedVariables false
set_option linter.unusedSimpArgs false
namespace Go.Proofs.YteonfhnljphbpaaGreat
open Go Go.AI Go.Proofs Go.Proofs.YteonfhnljphbpaaGreat
theorem rdBucket {w : World} {H : Type} {enc : TypeId × Value → H} {sp : Nat → Bool} {held : Bool} : Rd enc Tryz.prog w sp held 58 Bucket.enc := by
  intro fuel cs x h
  obtain ⟨hl, fuel', hf⟩ := trod_struct Tryz.underlying58 h
  simp only [cellsOf_sz, sz58] at hl
  simp only [List.mem_cons, List.not_mem_nil, or_false, forall_eq_or_imp, forall_eq, cellsOf_sz, sz3, sz48] at hf
  match cs, hl, hf with
  | [c0, c1, c2, c3], _, ⟨⟨y0, h0⟩, ⟨y1, h1⟩, ⟨y2, h2⟩, ⟨y3, h3⟩⟩ =>
    obtain ⟨n0, e0⟩ := rd_int Tryz.underlying3 h0
    obtain ⟨n1, e1⟩ := rd_int Tryz.underlying3 h1
    obtain ⟨n2, e2⟩ := rd_int Tryz.underlying3 h2
    obtain ⟨l, u, e3, r3⟩ := rd_slice (s := 11) (f := Action.enc) Tryz.underlying48 (by kernel_rfl) (by omega) Action.len rdAction h3
    simp at e0 e1 e2 e3
    subst e0 e1 e2 e3
    exact ⟨⟨n0, n1, n2, l⟩, RelL.cons (by simp [Rel]) (RelL.cons (by simp [Rel]) (RelL.cons (by simp [Rel]) (RelL.cons r3 RelL.nil))),
      (Ones.append (vs := [_, _, _]) (by simp [Ones, Value.oneCell']) (Ones.single (one_of_sl r3)))⟩
theorem rdGroupMod {w : World} {H : Type} {enc : TypeId × Value → H} {sp : Nat → Bool} {held : Bool} : Rd enc Tryz.prog w sp held 26 GroupMod.enc := by
  intro fuel cs x h
  obtain ⟨hl, fuel', hf⟩ := trod_struct Tryz.underlying26 h
  simp only [cellsOf_sz, sz26] at hl
  simp only [List.mem_cons, List.not_mem_nil, or_false, forall_eq_or_imp, forall_eq, cellsOf_sz, sz3, sz24] at hf
  match cs, hl, hf with
  | [c0, c1, c2, c3], _, ⟨⟨y0, h0⟩, ⟨y1, h1⟩, ⟨y2, h2⟩, ⟨y3, h3⟩⟩ =>
    obtain ⟨n0, e0⟩ := rd_int Tryz.underlying3 h0
    obtain ⟨n1, e1⟩ := rd_int Tryz.underlying3 h1
    obtain ⟨n2, e2⟩ := rd_int Tryz.underlying3 h2
    obtain ⟨l, u, e3, r3⟩ := rd_slice (s := 4) (f := Bucket.enc) Tryz.underlying24 (by kernel_rfl) (by omega) Bucket.len rdBucket h3
    simp at e0 e1 e2 e3
    subst e0 e1 e2 e3
    exact ⟨⟨n0, n1, n2, l⟩, RelL.cons (by simp [Rel]) (RelL.cons (by simp [Rel]) (RelL.cons (by simp [Rel]) (RelL.cons r3 RelL.nil))),
      (Ones.append (vs := [_, _, _]) (by simp [Ones, Value.oneCell']) (Ones.single (one_of_sl r3)))⟩
theorem rdvGroupMod : RdV Tryz.prog 26 (fun a => ∃ x, a = .agg (GroupMod.enc x)) := rdV_agg (.inl ⟨_, Tryz.underlying26⟩) (fun _ _ _ => rdGroupMod)
def zeroGroupMod : Array Value := #[.int .i64 0, .int .i64 0, .int .i64 0, .slice none 0 0]
end Go.Proofs.YteonfhnljphbpaaGreat
end

section
set_option linter.unusedVariables false
set_option linter.unusedSimpArgs false
namespace Go.Proofs.YteonfhnljphbpaaGreat
open Go Go.AI Go.Proofs

/-- a test of flows -/
structure Tst (x : AV) (p : Flow → Bool) : Prop where
  f : ∃ fid caps, x = .fn fid caps ∧ ClL caps = true ∧ ∀ f, FPl f → FnP Tryz.prog fid (.agg f.enc :: caps) (.bool (p f))
end Go.Proofs.YteonfhnljphbpaaGreat
end

section
set_option linter.unusedVariables false
set_option linter.unusedSimpArgs false
namespace Go.Proofs.YteonfhnljphbpaaGreat
open Go Go.AI Go.Proofs

theorem Tst.congr {x : AV} {p q : Flow → Bool} (h : Tst x p) (e : ∀ f, p f = q f) : Tst x q := by
  have : p = q := funext e
  rw [← this]; exact h
end Go.Proofs.YteonfhnljphbpaaGreat
end

section
set_option linter.unusedVariables false
set_option linter.unusedSimpArgs false
namespace Go.Proofs.YteonfhnljphbpaaGreat
open Go Go.AI Go.Proofs

/-- without a filter -/
def bare (m : FlowMod) : FlowMod := { m with cookieMask := 0#64, outPort := 4294967295, outGroup := 4294967295 }
end Go.Proofs.YteonfhnljphbpaaGreat
end

section
set_option linter.unusedVariables false
set_option linter.unusedSimpArgs false
namespace Go.Proofs.YteonfhnljphbpaaGreat
open Go Go.AI Go.Proofs

def hF : Header := fun i => if i = 0 then ⟨0#64, 1#64⟩ else wideZ
/-- which place comes ahead of which -/
def ahead (k : Int → Int) (x y : Int) : Prop := k y < k x ∨ k x = k y ∧ x < y
end Go.Proofs.YteonfhnljphbpaaGreat
end

section
set_option linter.unusedVariables false
set_option linter.unusedSimpArgs false
namespace Go.Proofs.YteonfhnljphbpaaGreat
open Go Go.AI Go.Proofs

/-- the first `n` values of a function -/
def ro (f : Nat → Int) (n : Nat) : List Int := (List.range n).map f
@[simp] theorem ro_len (f : Nat → Int) (n : Nat) : (ro f n).length = n := by simp [ro]
end Go.Proofs.YteonfhnljphbpaaGreat
end

section
set_option linter.unusedVariables false
set_option linter.unusedSimpArgs false
namespace Go.Proofs.YteonfhnljphbpaaGreat
open Go Go.AI Go.Proofs

def Srt (k : Int → Int) (f : Nat → Int) (a b : Nat) : Prop := ∀ x y, a ≤ x → x < y → y < b → ahead k (f x) (f y)
end Go.Proofs.YteonfhnljphbpaaGreat
end

section
set_option linter.unusedVariables false
set_option linter.unusedSimpArgs false
namespace Go.Proofs.YteonfhnljphbpaaGreat
open Go Go.AI Go.Proofs

def Blk (k : Int → Int) (g : Nat → Int) (lo hi : Nat) : Prop := Srt k g lo hi ∧ ∀ x, lo ≤ x → x < hi → (lo : Int) ≤ g x ∧ g x < hi
theorem Blk.same {k : Int → Int} {g g' : Nat → Int} {lo hi : Nat} (h : Blk k g lo hi) (e : ∀ x, lo ≤ x → x < hi → g' x = g x) : Blk k g' lo hi :=
  ⟨fun x y i1 i2 i3 => by rw [e x i1 (by omega), e y (by omega) i3]; exact h.1 x y i1 i2 i3, fun x i1 i2 => by rw [e x i1 i2]; exact h.2 x i1 i2⟩
end Go.Proofs.YteonfhnljphbpaaGreat
end

section
set_option linter.unusedVariables false
set_option linter.unusedSimpArgs false
namespace Go.Proofs.YteonfhnljphbpaaGreat
open Go Go.AI Go.Proofs

structure F3 where
  is : Bool
  ty : Int
  code : Int
  deriving DecidableEq
def F3.enc (f : F3) : List AV := [.bool f.is, .int .i64 f.ty, .int .i64 f.code]
def F3.zero : F3 := ⟨false, 0, 0⟩
@[simp] theorem F3.len (f : F3) : f.enc.length = 3 := rfl
@[simp] theorem F3.cl (f : F3) : ClL f.enc = true := by simp [F3.enc, ClL, Cl]
@[simp] theorem F3.ne (f : F3) : (f.enc = []) = False := by simp [F3.enc]
@[simp] theorem F3.take (f : F3) : f.enc.take 3 = f.enc := rfl
@[simp] theorem F3.drop (f : F3) : f.enc.drop 3 = [] := rfl
end Go.Proofs.YteonfhnljphbpaaGreat
end

section
set_option linter.unusedVariables false
set_option linter.unusedSimpArgs false
namespace Go.Proofs.YteonfhnljphbpaaGreat
open Go Go.AI Go.Proofs

theorem takenF (n : Nat) : taken (fun _ => false) n = if n = 0 then 0 else 1 := by cases n <;> rfl
end Go.Proofs.YteonfhnljphbpaaGreat
end

section
set_option linter.unusedVariables false
set_option linter.unusedSimpArgs false
namespace Go.Proofs.YteonfhnljphbpaaGreat
open Go Go.AI Go.Proofs

theorem eqBy_refl {α : Type} [Inhabited α] {p : α → α → Bool} (h : ∀ x, p x x = true) (l : List α) : eqBy p l l = true := by unfold eqBy; simp [h]
end Go.Proofs.YteonfhnljphbpaaGreat
end

section
set_option linter.unusedVariables false
set_option linter.unusedSimpArgs false
namespace Go.Proofs.YteonfhnljphbpaaGreat
open Go Go.AI Go.Proofs
attribute [local irreducible] FnP FnO FnB FnT FnSeq WK RunQ RunQW RunX RunXW

theorem eqBy_selfA (l : List Action) : eqBy (fun x y : Action => x == y) l l = true := by unfold eqBy; simp
end Go.Proofs.YteonfhnljphbpaaGreat
end
