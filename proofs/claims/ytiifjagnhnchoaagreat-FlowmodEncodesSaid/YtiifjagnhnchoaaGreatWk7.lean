/- Actions in a row: read. -/
import Derived.Test.YtiifjagnhnchoaaGreatWk6
import Derived.Test.YtiifjagnhnchoaaGreatWk2
import Derived.Test.YtiifjagnhnchoaaGreatAe
import Derived.Test.YtiifjagnhnchoaaGreatDa
import Derived.Test.YtiifjagnhnchoaaGreatAf
set_option linter.all false
set_option linter.unnecessarySimpa false
section
set_option linter.unusedVariables false
set_option linter.unusedSimpArgs false
namespace Go.Proofs.YtiifjagnhnchoaaGreat
open Go Go.AI Go.Proofs
attribute [local irreducible] FnP FnO FnB FnT FnSeq WK RunQ RunQW RunX RunXW

def acGlue (acc : List Action) (r : List Action × Option Int) : List Action × Option Int := match r.2 with | none => (acc ++ r.1, none) | some c => ([], some c)
def acDecF : Nat → List (BitVec 8) → List Action × Option Int
  | 0, _ => ([], none)
  | f + 1, b => if b.length = 0 then ([], none) else match (aDec b).2.2 with
    | some c => ([], some c)
    | none => acGlue [(aDec b).1] (acDecF f (b.drop (aDec b).2.1.toNat))
def acDec (b : List (BitVec 8)) : List Action × Option Int :=
  if (acDecF b.length b).2 = none ∧ 100 < (acDecF b.length b).1.length then ([], some 7) else acDecF b.length b
theorem acGlue_glue (a b : List Action) (r : List Action × Option Int) : acGlue a (acGlue b r) = acGlue (a ++ b) r := by
  obtain ⟨l, c⟩ := r
  cases c <;> simp [acGlue]
theorem acGlue_nil (r : List Action × Option Int) (h : ∀ c, r.2 = some c → r.1 = []) : acGlue [] r = r := by
  obtain ⟨l, c⟩ := r
  cases c with
  | none => simp [acGlue]
  | some c => simp only at h; rw [h c rfl]; rfl
theorem acDecF_bad : ∀ (f : Nat) (b : List (BitVec 8)) (c : Int), (acDecF f b).2 = some c → (acDecF f b).1 = []
  | 0, b, c, h => rfl
  | f + 1, b, c, h => by
    rw [acDecF] at h ⊢
    split
    · rfl
    rename_i h0
    rw [if_neg h0] at h
    cases hd : (aDec b).2.2 with
    | some c => rfl
    | none =>
      simp only [hd] at h ⊢
      cases hr : (acDecF f (b.drop (aDec b).2.1.toNat)).2 with
      | none => simp [acGlue, hr] at h
      | some c => simp [acGlue, hr]
theorem acDecF_stop {f : Nat} {b : List (BitVec 8)} (h : b.length = 0) : acDecF f b = ([], none) := by
  cases f with
  | zero => rfl
  | succ f => rw [acDecF, if_pos h]
structure AcAt (b : List (BitVec 8)) (x : Nat × Nat × List Action) : Prop where
  le : x.2.1 ≤ b.length
  fuel : b.length - x.2.1 ≤ x.1
  eq : acDecF b.length b = acGlue x.2.2 (acDecF x.1 (b.drop x.2.1))
  small : x.2.2.length * 8 ≤ x.2.1
theorem AcAt.start (b : List (BitVec 8)) : AcAt b (b.length, 0, []) := ⟨Nat.zero_le _, Nat.le_refl _, (acGlue_nil _ (acDecF_bad _ _)).symm, Nat.le_refl _⟩
theorem AcAt.bad {b : List (BitVec 8)} {x : Nat × Nat × List Action} (h : AcAt b x) (hp : x.2.1 < b.length) {y : Action} {n c : Int} (hd : aDec (b.drop x.2.1) = (y, n, some c)) : acDec b = ([], some c) := by
  have e : acDecF b.length b = ([], some c) := by
    rw [h.eq]
    have hf : ∃ f, x.1 = f + 1 := ⟨x.1 - 1, by have := h.fuel; omega⟩
    obtain ⟨f, hf⟩ := hf
    rw [hf, acDecF, if_neg (by rw [List.length_drop]; omega), hd]; rfl
  unfold acDec; rw [e]; rfl
theorem AcAt.next {b : List (BitVec 8)} {x : Nat × Nat × List Action} (h : AcAt b x) (hp : x.2.1 < b.length) {y : Action} {n : Int} (hd : aDec (b.drop x.2.1) = (y, n, none)) : ∃ k : Nat, n = k ∧ x.2.1 + k ≤ b.length ∧ 0 < k ∧
    AcAt b (x.1 - 1, x.2.1 + k, x.2.2 ++ [y]) := by
  obtain ⟨_, k, hk, h8, hkl, _, _⟩ := aDec_back hd
  rw [List.length_drop] at hkl
  have hf : ∃ f, x.1 = f + 1 := ⟨x.1 - 1, by have := h.fuel; omega⟩
  obtain ⟨f, hf⟩ := hf
  refine ⟨k, hk, by omega, by omega, ⟨by simp only; omega, by have := h.fuel; simp only; omega, ?_, by have := h.small; simp only [List.length_append, List.length_singleton]; omega⟩⟩
  rw [h.eq, hf, acDecF, if_neg (by rw [List.length_drop]; omega), hd]
  simp only [Nat.add_sub_cancel]
  rw [acGlue_glue, hk, Int.toNat_natCast, List.drop_drop]
theorem AcAt.stop {b : List (BitVec 8)} {x : Nat × Nat × List Action} (h : AcAt b x) (hp : ¬ x.2.1 < b.length) : acDecF b.length b = (x.2.2, none) := by
  rw [h.eq, acDecF_stop (by rw [List.length_drop]; omega)]; simp [acGlue]
set_option maxHeartbeats 4000000 in
theorem acdec_c (b : List (BitVec 8)) (hb : b.length ≤ 1000000) : FnT Tryz.prog 95 [byS b] (acDec b).1.length 11 (actL (acDec b).1) [.agg (aFault (acDec b).2)] := by
  unfold byS
  refine FnT.intro Tryz.func95 rfl rfl fun G w => ?_
  repeat' (first
   | refine WK.seq ?_
   | refine WK.block ?_
   | (refine Hid.h hQ _ _ ?_; clear hQ hA)
   | (refine WK.regH Tryz.ntmps95 (by kernel_rfl) ?_; intro A hA Q hQ; simp [*])
   | fail)
  refine WK.ghost (Ghost.own 4 900 11 rfl rfl) ?_
  refine WK.loopI (fun n => if n = 60 then 900 else n) (fun x : Nat × Nat × List Action => (⟨(upd (upd (upd (upd J 0 (.sl false (b.length - x.2.1) (byL (b.drop x.2.1)))) 2 (.sl true 0 [])) 3 (.ptr 1 0)) 4 (.msl 60 0 x.2.2.length)), (upd (upd B0 1 (.var (aFault none))) 60 (.buf 11 (actL x.2.2))), 0⟩ : St)) (fun x => AcAt b x) (fun x => b.length - x.2.1) ((b.length, 0, [])) (by repeat (first | exact TmW.nil | refine TmW.upd ?_ (by simp (maxDischargeDepth := 120) [aFault]))) (by repeat (first | exact BxW.nil | refine BxW.upd ?_ (by simp (maxDischargeDepth := 120) [aFault]))) (by first | exact InjW.id | exact InjW.nil | exact InjW.one | exact InjW.two (by simp) | exact InjW.three (by simp) (by simp) (by simp)) (AcAt.start b) (fun i hi IH => ?_)
  obtain ⟨f, p, acc⟩ := i
  have hsm := hi.small
  simp only at hsm hi ⊢
  by_cases h1 : p < b.length
  · have hc := adec_c (b.drop p) (by rw [List.length_drop]; omega)
    obtain ⟨⟨y, n, c⟩, hd⟩ : ∃ R, aDec (b.drop p) = R := ⟨_, rfl⟩
    rw [hd] at hc
    unfold byS at hc
    rw [List.length_drop] at hc
    have hpos : 0 < b.length - p := by omega
    have hpos' : (0 : Int) < ((b.length - p : Nat) : Int) := by omega
    obtain ⟨L, hL⟩ : ∃ L, b.length - p = L := ⟨_, rfl⟩
    cases c with
    | some c =>
      have e := AcAt.bad hi h1 hd
      rw [hL] at hc hpos hpos' ⊢
      rw [e]
      clear hL
      repeat' (first
       | refine WK.seq ?_
       | refine WK.block ?_
       | refine WK.skip ?_
       | refine WK.condT rfl ?_
       | (refine Hid.h hQ _ _ ?_; clear hQ hA)
       | (refine WK.regH Tryz.ntmps95 (by kernel_rfl) ?_; intro A hA Q hQ; simp [aRes, aFault, *])
       | (refine WK.regX (by kernel_rfl) Tryz.ntmps95 (by kernel_rfl) ?_; intro A hA Q hQ; simp [aRes, aFault, *])
       | (refine Hid.h hQ _ _ _ (by decide +kernel) ?_; clear hQ hA)
       | (refine RunQ.call rfl rfl rfl rfl rfl ?_ (hc) ?_ ?_; (focus (simp (maxDischargeDepth := 120) [aRes, aFault, *]; done)); (focus (simp [aRes, aFault, *]; done)); refine RunQ.evalH ?_; simp [aRes, aFault, *])
       | fail)
      refine WK.ghost (Ghost.own 2 901 11 rfl rfl) ?_
      refine WK.retT2 Tryz.func95 ?_ ?_ ?_ <;> simp (maxDischargeDepth := 120) [Tryz.results95, actL_nil, aFault]
    | none =>
      obtain ⟨k, rfl, hk1, hk2, hn⟩ := AcAt.next hi h1 hd
      simp only at hk1 hn
      have hkL : (k : Int) ≤ ((b.length - p : Nat) : Int) := by omega
      have hdd : ((byL (b.drop p)).drop k).take (b.length - p - k) = byL (b.drop (p + k)) := by
        rw [byL_drop, List.drop_drop]; exact by_full _ _ (by rw [List.length_drop]; omega)
      have hll : b.length - (p + k) = b.length - p - k := by omega
      have hbd : (acc.length + 1) * 88 ≤ 140737488355328 := by omega
      have hsn : actL acc ++ y.enc = actL (acc ++ [y]) := by rw [actL_app]; simp [actL]
      rw [hL] at hc hpos hpos' hkL hdd hll ⊢
      clear hL hd
      repeat' (first
       | refine WK.seq ?_
       | refine WK.block ?_
       | refine WK.inBlock ?_
       | refine WK.skip ?_
       | refine WK.condT rfl ?_
       | refine WK.condF rfl ?_
       | (refine Hid.h hQ _ _ ?_; clear hQ hA)
       | (refine WK.regH Tryz.ntmps95 (by kernel_rfl) ?_; intro A hA Q hQ; simp [aRes, aFault, *])
       | (refine WK.regX (by kernel_rfl) Tryz.ntmps95 (by kernel_rfl) ?_; intro A hA Q hQ; simp [aRes, aFault, *])
       | (refine Hid.h hQ _ _ _ (by decide +kernel) ?_; clear hQ hA)
       | (refine RunX.append 902 appAct rfl rfl rfl rfl rfl rfl rfl rfl ?_ ?_ ?_ ?_ ?_; (focus (first | omega | (simp [aRes, aFault, *]; done); done)); (focus (first | omega | (simp [aRes, aFault, *]; done); done)); (focus (first | omega | (simp [aRes, aFault, *]; done); done)); (focus (first | omega | (simp [aRes, aFault, *]; done); done)); refine RunX.evalY ?_; simp [aRes, aFault, *])
       | (refine RunQ.call rfl rfl rfl rfl rfl ?_ (hc) ?_ ?_; (focus (simp (maxDischargeDepth := 120) [aRes, aFault, *]; done)); (focus (simp [aRes, aFault, *]; done)); refine RunQ.evalH ?_; simp [aRes, aFault, *])
       | fail)
      refine WK.next (fun n => if n = 60 then 902 else n) (IH ((f - 1, p + k, acc ++ [y])) (hn) (by first | omega | (dsimp only; omega))) (by repeat (first | exact TmW.nil | refine TmW.upd ?_ (by simp (maxDischargeDepth := 120) [hsn, hll, aFault]))) (by repeat (first | exact BxW.nil | refine BxW.upd ?_ (by simp (maxDischargeDepth := 120) [hsn, hll, aFault]))) (by first | exact InjW.id | exact InjW.nil | exact InjW.one | exact InjW.two (by simp) | exact InjW.three (by simp) (by simp) (by simp))
  · have hstop := AcAt.stop hi h1
    simp only at hstop
    have hpos : ¬ 0 < b.length - p := by omega
    have hpos' : ¬ (0 : Int) < ((b.length - p : Nat) : Int) := by omega
    obtain ⟨L, hL⟩ : ∃ L, b.length - p = L := ⟨_, rfl⟩
    rw [hL] at hpos hpos' ⊢
    clear hL
    by_cases h100 : 100 < acc.length
    · have e : acDec b = ([], some 7) := by unfold acDec; rw [hstop, if_pos ⟨rfl, h100⟩]
      have h100' : (100 : Int) < acc.length := by omega
      rw [e]
      repeat' (first
       | refine WK.seq ?_
       | refine WK.exit rfl ?_
       | refine WK.condT rfl ?_
       | refine WK.condF rfl ?_
       | (refine Hid.h hQ _ _ ?_; clear hQ hA)
       | (refine WK.regH Tryz.ntmps95 (by kernel_rfl) ?_; intro A hA Q hQ; simp [aFault, *])
       | fail)
      refine WK.ghost (Ghost.own 2 901 11 rfl rfl) ?_
      refine WK.retT2 Tryz.func95 ?_ ?_ ?_ <;> simp (maxDischargeDepth := 120) [Tryz.results95, actL_nil, aFault]
    · have e : acDec b = (acc, none) := by unfold acDec; rw [hstop, if_neg (fun h => h100 h.2)]
      have h100' : ¬ (100 : Int) < acc.length := by omega
      rw [e]
      repeat' (first
       | refine WK.seq ?_
       | refine WK.skip ?_
       | refine WK.exit rfl ?_
       | refine WK.condF rfl ?_
       | (refine Hid.h hQ _ _ ?_; clear hQ hA)
       | (refine WK.regH Tryz.ntmps95 (by kernel_rfl) ?_; intro A hA Q hQ; simp [aFault, *])
       | (refine WK.retT2 Tryz.func95 ?_ ?_ ?_ <;> simp (maxDischargeDepth := 120) [Tryz.results95, aFault, *])
       | fail)
end Go.Proofs.YtiifjagnhnchoaaGreat
end

section
set_option linter.unusedVariables false
set_option linter.unusedSimpArgs false
namespace Go.Proofs.YtiifjagnhnchoaaGreat
open Go Go.AI Go.Proofs
attribute [local irreducible] FnP FnO FnB FnT FnSeq WK RunQ RunQW RunX RunXW

set_option maxHeartbeats 4000000 in
theorem racenc_c (l : List Action) (hl : l.length ≤ 1000000) : FnT Tryz.prog 78 [actS l] (acEnc l).1.length 1 (byL (acEnc l).1) [.int .i64 (acEnc l).2] := by
  unfold actS
  by_cases h100 : 100 < l.length
  · have e : acEnc l = ([], 1) := by unfold acEnc; rw [if_pos h100]
    have j : (100 : Int) < l.length := by omega
    rw [e]
    refine FnT.intro Tryz.func78 rfl rfl fun G w => ?_
    repeat' (first
     | refine WK.seq ?_
     | refine WK.condT rfl ?_
     | (refine Hid.h hQ _ _ ?_; clear hQ hA)
     | (refine WK.regH Tryz.ntmps78 (by kernel_rfl) ?_; intro A hA Q hQ; simp [*])
     | fail)
    refine WK.ghost (Ghost.own 2 900 1 rfl rfl) ?_
    refine WK.retT2 Tryz.func78 ?_ ?_ ?_ <;> simp (maxDischargeDepth := 120) [Tryz.results78, byL_nil]
  have j : ¬ (100 : Int) < l.length := by omega
  have hdef : acEnc l = if l.all Action.right = true then (acFlat l, 0) else ([], 1) := by unfold acEnc; rw [if_neg h100]
  refine FnT.intro Tryz.func78 rfl rfl fun G w => ?_
  repeat' (first
   | refine WK.seq ?_
   | refine WK.block ?_
   | refine WK.skip ?_
   | refine WK.condF rfl ?_
   | (refine Hid.h hQ _ _ ?_; clear hQ hA)
   | (refine WK.regH Tryz.ntmps78 (by kernel_rfl) ?_; intro A hA Q hQ; simp [*])
   | fail)
  refine WK.ghost (Ghost.own 4 900 1 rfl rfl) ?_
  refine WK.loopI (fun n => if n = 1 then 900 else n) (fun i : Nat => (⟨(upd (upd (upd (upd (upd J 0 (.sl false l.length (actL l))) 2 (.sl true 0 [])) 3 (.int .i64 0)) 4 (.msl 1 0 (acFlat (l.take i)).length)) 5 (.int .i64 i)), (upd B0 1 (.buf 1 (byL (acFlat (l.take i))))), 0⟩ : St)) (fun i => i ≤ l.length ∧ ∀ j, j < i → Action.right (nth l j) = true) (fun i => l.length - i) (0) (by repeat (first | exact TmW.nil | refine TmW.upd ?_ (by simp (maxDischargeDepth := 120) [acFlat, byL_nil]))) (by repeat (first | exact BxW.nil | refine BxW.upd ?_ (by simp (maxDischargeDepth := 120) [acFlat, byL_nil]))) (by first | exact InjW.id | exact InjW.nil | exact InjW.one | exact InjW.two (by simp) | exact InjW.three (by simp) (by simp) (by simp)) (⟨by omega, by simp⟩) (fun i hi IH => ?_)
  have hfl := acFlat_len (l.take i)
  have htl : (l.take i).length ≤ 100 := by rw [List.length_take]; omega
  by_cases h1 : i < l.length
  · obtain ⟨h4, h3⟩ := act_load l i h1
    have h6 : IntKind.i64.wrap ((i : Int) + 1) = i + 1 := wrap_i64 (by omega) (by omega)
    have hc := raencP_c (nth l i)
    have hcd := aEnc_code (nth l i)
    have hel := aEnc_len (nth l i)
    rw [hcd] at hc
    cases hr : Action.right (nth l i)
    · have e : acEnc l = ([], 1) := by rw [hdef, if_neg (by rw [all_false_of h1 hr]; exact Bool.false_ne_true)]
      rw [hr] at hc
      rw [e]
      repeat' (first
       | refine WK.seq ?_
       | refine WK.block ?_
       | refine WK.skip ?_
       | refine WK.condT rfl ?_
       | (refine Hid.h hQ _ _ ?_; clear hQ hA)
       | (refine WK.regH Tryz.ntmps78 (by kernel_rfl) ?_; intro A hA Q hQ; simp [bne, *])
       | (refine RunQ.call rfl rfl rfl rfl rfl ?_ (hc) ?_ ?_; (focus (simp (maxDischargeDepth := 120) [bne, *]; done)); (focus (simp [bne, *]; done)); refine RunQ.evalH ?_; simp [bne, *])
       | fail)
      refine WK.ghost (Ghost.own 2 901 1 rfl rfl) ?_
      refine WK.retT2 Tryz.func78 ?_ ?_ ?_ <;> simp (maxDischargeDepth := 120) [Tryz.results78, byL_nil]
    · rw [hr] at hc
      have hs := acFlat_succ h1
      obtain ⟨F, hF⟩ : ∃ F, acFlat (l.take i) = F := ⟨_, rfl⟩
      obtain ⟨E, hE⟩ : ∃ E, (aEnc (nth l i)).1 = E := ⟨_, rfl⟩
      rw [hF] at hs hfl ⊢
      rw [hE] at hs hc hel
      have hbd : F.length + E.length ≤ 1000000 := by omega
      have hfull := by_full E E.length rfl
      unfold byS at hc
      clear hE hF
      repeat' (first
       | refine WK.seq ?_
       | refine WK.block ?_
       | refine WK.inBlock ?_
       | refine WK.skip ?_
       | refine WK.condT rfl ?_
       | refine WK.condF rfl ?_
       | (refine Hid.h hQ _ _ ?_; clear hQ hA)
       | (refine WK.regH Tryz.ntmps78 (by kernel_rfl) ?_; intro A hA Q hQ; simp [bne, *])
       | (refine RunQ.append 902 appByte rfl rfl rfl rfl rfl rfl rfl rfl rfl ?_ ?_ ?_ ?_ ?_; (focus (first | omega | (simp [bne, *]; done); done)); (focus (first | omega | (simp [bne, *]; done); done)); (focus (first | omega | (simp [bne, *]; done); done)); (focus (first | omega | (simp [bne, *]; done); done)); refine RunQ.evalH ?_; simp [bne, *])
       | (refine RunQ.call rfl rfl rfl rfl rfl ?_ (hc) ?_ ?_; (focus (simp (maxDischargeDepth := 120) [bne, *]; done)); (focus (simp [bne, *]; done)); refine RunQ.evalH ?_; simp [bne, *])
       | fail)
      refine WK.next (fun n => if n = 1 then 902 else n) (IH (i + 1) (⟨by omega, fun j hj => by by_cases h7 : j = i; (subst h7; exact hr); exact hi.2 j (by omega)⟩) (by first | omega | (dsimp only; omega))) (by repeat (first | exact TmW.nil | refine TmW.upd ?_ (by simp (maxDischargeDepth := 120) [hs, byL_app]))) (by repeat (first | exact BxW.nil | refine BxW.upd ?_ (by simp (maxDischargeDepth := 120) [hs, byL_app]))) (by first | exact InjW.id | exact InjW.nil | exact InjW.one | exact InjW.two (by simp) | exact InjW.three (by simp) (by simp) (by simp))
  · have e : acEnc l = (acFlat l, 0) := by rw [hdef, if_pos (all_true_of fun j hj => hi.2 j (by omega))]
    have hT : l.take i = l := List.take_of_length_le (by omega)
    rw [e, hT]
    repeat' (first
     | refine WK.seq ?_
     | refine WK.exit rfl ?_
     | refine WK.condF rfl ?_
     | (refine Hid.h hQ _ _ ?_; clear hQ hA)
     | (refine WK.regH Tryz.ntmps78 (by kernel_rfl) ?_; intro A hA Q hQ; simp [*])
     | (refine WK.retT2 Tryz.func78 ?_ ?_ ?_ <;> simp (maxDischargeDepth := 120) [Tryz.results78, *])
     | fail)
theorem acencP_c (l : List Action) (hl : l.length ≤ 1000000) : FnP Tryz.prog 111 [actS l] (.tup [byS (acEnc l).1, .int .i64 (acEnc l).2]) := by
  have h := (acenc_c l hl).toP (by simp [byL_take]) (by rfl)
  rwa [Nat.mul_one, by_full _ _ rfl] at h
theorem racencP_c (l : List Action) (hl : l.length ≤ 1000000) : FnP Tryz.prog 78 [actS l] (.tup [byS (acEnc l).1, .int .i64 (acEnc l).2]) := by
  have h := (racenc_c l hl).toP (by simp [byL_take]) (by rfl)
  rwa [Nat.mul_one, by_full _ _ rfl] at h
theorem acdecP_c (b : List (BitVec 8)) (hb : b.length ≤ 1000000) : FnP Tryz.prog 95 [byS b] (.tup [actS (acDec b).1, .agg (aFault (acDec b).2)]) := by
  have h := (acdec_c b hb).toP (by simp) (by simp [ClL, Cl])
  rwa [actL_take] at h
theorem acEnc_len (l : List Action) : (acEnc l).1.length ≤ 6000 := by
  have h := acFlat_len l
  unfold acEnc
  split
  · simp
  split
  · simp only; omega
  · simp
end Go.Proofs.YtiifjagnhnchoaaGreat
end

section
set_option linter.unusedVariables false
set_option linter.unusedSimpArgs false
namespace Go.Proofs.YtiifjagnhnchoaaGreat
open Go Go.AI Go.Proofs

theorem acFlat_cons (a : Action) (l : List Action) : acFlat (a :: l) = (aEnc a).1 ++ acFlat l := rfl
theorem acEnc_ok {l : List Action} (h1 : l.length ≤ 100) (h2 : l.all Action.right = true) : acEnc l = (acFlat l, 0) := by
  unfold acEnc; rw [if_neg (by omega), if_pos h2]
theorem acDecF_back : ∀ (f : Nat) (b : List (BitVec 8)), b.length ≤ f → (acDecF f b).2 = none → (∀ a, a ∈ (acDecF f b).1 → Action.right a = true) ∧ acFlat (acDecF f b).1 = b
  | 0, b, hb, _ => by
    have : b = [] := List.eq_nil_of_length_eq_zero (by omega)
    subst this
    exact ⟨fun a ha => by simp [acDecF] at ha, rfl⟩
  | f + 1, b, hb, h => by
    rw [acDecF] at h ⊢
    by_cases h0 : b.length = 0
    · rw [if_pos h0] at *
      have : b = [] := List.eq_nil_of_length_eq_zero h0
      subst this
      exact ⟨fun a ha => by simp at ha, rfl⟩
    · rw [if_neg h0] at h ⊢
      obtain ⟨y, n, c, hd⟩ : ∃ y n c, aDec b = (y, n, c) := ⟨_, _, _, rfl⟩
      rw [hd] at h ⊢
      cases c with
      | some c => simp at h
      | none =>
        obtain ⟨hr, k, hk, h8, hkl, _, he⟩ := aDec_back hd
        subst hk
        simp only [Int.toNat_natCast] at h ⊢
        obtain ⟨R, hR⟩ : ∃ R, acDecF f (b.drop k) = R := ⟨_, rfl⟩
        rw [hR] at h ⊢
        obtain ⟨m, c⟩ := R
        cases c with
        | some c => simp [acGlue] at h
        | none =>
          obtain ⟨h1, h2⟩ := acDecF_back f (b.drop k) (by rw [List.length_drop]; omega) (by rw [hR])
          rw [hR] at h1 h2
          simp only at h1 h2
          refine ⟨fun a ha => ?_, ?_⟩
          · simp only [acGlue, List.cons_append, List.nil_append, List.mem_cons] at ha
            rcases ha with rfl | ha
            · exact hr
            · exact h1 a ha
          · simp only [acGlue, List.cons_append, List.nil_append]
            rw [acFlat_cons, he, h2, List.take_append_drop]
theorem acDec_back {b : List (BitVec 8)} {k : List Action} (h : acDec b = (k, none)) : acEnc k = (b, 0) := by
  unfold acDec at h
  split at h
  · cases h
  · rename_i hn
    obtain ⟨h1, h2⟩ := acDecF_back b.length b (Nat.le_refl _) (by rw [h])
    rw [h] at h1 h2 hn
    simp only at h1 h2 hn
    rw [acEnc_ok (by simp only [true_and] at hn; omega) (List.all_eq_true.2 h1), h2]
theorem acDec_bad {b : List (BitVec 8)} {k : List Action} {c : Int} (h : acDec b = (k, some c)) : k = [] := by
  unfold acDec at h
  split at h
  · cases h; rfl
  · have := acDecF_bad b.length b c (by rw [h])
    rw [h] at this
    exact this
end Go.Proofs.YtiifjagnhnchoaaGreat
end

section
set_option linter.unusedVariables false
set_option linter.unusedSimpArgs false
namespace Go.Proofs.YtiifjagnhnchoaaGreat
open Go Go.AI Go.Proofs

section
variable {α φ : Type}
def rwGlue (acc : List α) (r : List α × Option φ) : List α × Option φ := match r.2 with | none => (acc ++ r.1, none) | some c => ([], some c)
def rwF (rd : List (BitVec 8) → α × Int × Option φ) : Nat → List (BitVec 8) → List α × Option φ
  | 0, _ => ([], none)
  | f + 1, b => if b.length = 0 then ([], none) else match (rd b).2.2 with
    | some c => ([], some c)
    | none => rwGlue [(rd b).1] (rwF rd f (b.drop (rd b).2.1.toNat))
def rwDec (rd : List (BitVec 8) → α × Int × Option φ) (b : List (BitVec 8)) : List α × Option φ := rwF rd b.length b
theorem rwGlue_glue (a b : List α) (r : List α × Option φ) : rwGlue a (rwGlue b r) = rwGlue (a ++ b) r := by
  obtain ⟨l, c⟩ := r
  cases c <;> simp [rwGlue]
theorem rwGlue_nil (r : List α × Option φ) (h : ∀ c, r.2 = some c → r.1 = []) : rwGlue [] r = r := by
  obtain ⟨l, c⟩ := r
  cases c with
  | none => simp [rwGlue]
  | some c => simp only at h; rw [h c rfl]; rfl
theorem rwF_bad {rd : List (BitVec 8) → α × Int × Option φ} : ∀ (f : Nat) (b : List (BitVec 8)) (c : φ), (rwF rd f b).2 = some c → (rwF rd f b).1 = []
  | 0, b, c, h => rfl
  | f + 1, b, c, h => by
    rw [rwF] at h ⊢
    split
    · rfl
    rename_i h0
    rw [if_neg h0] at h
    cases hd : (rd b).2.2 with
    | some c => rfl
    | none =>
      simp only [hd] at h ⊢
      cases hr : (rwF rd f (b.drop (rd b).2.1.toNat)).2 with
      | none => simp [rwGlue, hr] at h
      | some c => simp [rwGlue, hr]
theorem rwF_stop {rd : List (BitVec 8) → α × Int × Option φ} {f : Nat} {b : List (BitVec 8)} (h : b.length = 0) : rwF rd f b = ([], none) := by
  cases f with
  | zero => rfl
  | succ f => rw [rwF, if_pos h]
/-- what a reader has to keep: it takes `m` bytes at least -/
def RdKeeps (rd : List (BitVec 8) → α × Int × Option φ) (m : Nat) : Prop := ∀ b y n, rd b = (y, n, none) → ∃ k : Nat, n = (k : Int) ∧ m ≤ k ∧ k ≤ b.length
structure RwAt (rd : List (BitVec 8) → α × Int × Option φ) (m : Nat) (b : List (BitVec 8)) (x : Nat × Nat × List α) : Prop where
  le : x.2.1 ≤ b.length
  fuel : b.length - x.2.1 ≤ x.1
  eq : rwDec rd b = rwGlue x.2.2 (rwF rd x.1 (b.drop x.2.1))
  small : x.2.2.length * m ≤ x.2.1
theorem RwAt.start (rd : List (BitVec 8) → α × Int × Option φ) (m : Nat) (b : List (BitVec 8)) : RwAt rd m b (b.length, 0, []) := ⟨Nat.zero_le _, Nat.le_refl _, (rwGlue_nil _ (rwF_bad _ _)).symm, by simp⟩
theorem RwAt.bad {rd : List (BitVec 8) → α × Int × Option φ} {m : Nat} {b : List (BitVec 8)} {x : Nat × Nat × List α} (h : RwAt rd m b x) (hp : x.2.1 < b.length) {y : α} {n : Int} {c : φ} (hd : rd (b.drop x.2.1) = (y, n, some c)) : rwDec rd b = ([], some c) := by
  rw [h.eq]
  obtain ⟨f, hf⟩ : ∃ f, x.1 = f + 1 := ⟨x.1 - 1, by have := h.fuel; omega⟩
  rw [hf, rwF, if_neg (by rw [List.length_drop]; omega), hd]; rfl
theorem RwAt.next {rd : List (BitVec 8) → α × Int × Option φ} {m : Nat} (hm : 0 < m) (hk : RdKeeps rd m) {b : List (BitVec 8)} {x : Nat × Nat × List α} (h : RwAt rd m b x) (hp : x.2.1 < b.length) {y : α} {n : Int} (hd : rd (b.drop x.2.1) = (y, n, none)) : ∃ k : Nat, n = k ∧ x.2.1 + k ≤ b.length ∧ 0 < k ∧
    RwAt rd m b (x.1 - 1, x.2.1 + k, x.2.2 ++ [y]) := by
  obtain ⟨k, hk, h8, hkl⟩ := hk _ _ _ hd
  rw [List.length_drop] at hkl
  obtain ⟨f, hf⟩ : ∃ f, x.1 = f + 1 := ⟨x.1 - 1, by have := h.fuel; omega⟩
  refine ⟨k, hk, by omega, by omega, ⟨by simp only; omega, by have := h.fuel; simp only; omega, ?_, ?_⟩⟩
  · rw [h.eq, hf, rwF, if_neg (by rw [List.length_drop]; omega), hd]
    simp only [Nat.add_sub_cancel]
    rw [rwGlue_glue, hk, Int.toNat_natCast, List.drop_drop]
  · have := h.small
    simp only [List.length_append, List.length_singleton, Nat.add_mul, Nat.one_mul]; omega
theorem RwAt.stop {rd : List (BitVec 8) → α × Int × Option φ} {m : Nat} {b : List (BitVec 8)} {x : Nat × Nat × List α} (h : RwAt rd m b x) (hp : ¬ x.2.1 < b.length) : rwDec rd b = (x.2.2, none) := by
  rw [h.eq, rwF_stop (by rw [List.length_drop]; omega)]; simp [rwGlue]
def rwFlat (en : α → List (BitVec 8)) (l : List α) : List (BitVec 8) := l.flatMap en
theorem rwFlat_app (en : α → List (BitVec 8)) (l m : List α) : rwFlat en (l ++ m) = rwFlat en l ++ rwFlat en m := by unfold rwFlat; rw [List.flatMap_append]
theorem rwF_back {rd : List (BitVec 8) → α × Int × Option φ} {en : α → List (BitVec 8)} {ok : α → Prop} (hb : ∀ b y n, rd b = (y, n, none) → ok y ∧ ∃ k : Nat, n = (k : Int) ∧ 0 < k ∧ k ≤ b.length ∧ en y = b.take k) :
    ∀ (f : Nat) (b : List (BitVec 8)), b.length ≤ f → (rwF rd f b).2 = none → (∀ a, a ∈ (rwF rd f b).1 → ok a) ∧ rwFlat en (rwF rd f b).1 = b
  | 0, b, hl, _ => by
    have : b = [] := List.eq_nil_of_length_eq_zero (by omega)
    subst this
    exact ⟨fun a ha => by simp [rwF] at ha, rfl⟩
  | f + 1, b, hl, h => by
    rw [rwF] at h ⊢
    by_cases h0 : b.length = 0
    · rw [if_pos h0] at *
      have : b = [] := List.eq_nil_of_length_eq_zero h0
      subst this
      exact ⟨fun a ha => by simp at ha, rfl⟩
    · rw [if_neg h0] at h ⊢
      obtain ⟨y, n, c, hd⟩ : ∃ y n c, rd b = (y, n, c) := ⟨_, _, _, rfl⟩
      rw [hd] at h ⊢
      cases c with
      | some c => simp at h
      | none =>
        obtain ⟨hr, k, hk, h8, hkl, he⟩ := hb _ _ _ hd
        subst hk
        simp only [Int.toNat_natCast] at h ⊢
        obtain ⟨R, hR⟩ : ∃ R, rwF rd f (b.drop k) = R := ⟨_, rfl⟩
        rw [hR] at h ⊢
        obtain ⟨m, c⟩ := R
        cases c with
        | some c => simp [rwGlue] at h
        | none =>
          obtain ⟨h1, h2⟩ := rwF_back hb f (b.drop k) (by rw [List.length_drop]; omega) (by rw [hR])
          rw [hR] at h1 h2
          simp only at h1 h2
          refine ⟨fun a ha => ?_, ?_⟩
          · simp only [rwGlue, List.cons_append, List.nil_append, List.mem_cons] at ha
            rcases ha with rfl | ha
            · exact hr
            · exact h1 a ha
          · simp only [rwGlue, List.cons_append, List.nil_append]
            show en y ++ rwFlat en m = b
            rw [he, h2, List.take_append_drop]
theorem rwDec_back {rd : List (BitVec 8) → α × Int × Option φ} {en : α → List (BitVec 8)} {ok : α → Prop} (hb : ∀ b y n, rd b = (y, n, none) → ok y ∧ ∃ k : Nat, n = (k : Int) ∧ 0 < k ∧ k ≤ b.length ∧ en y = b.take k) {b : List (BitVec 8)} {l : List α} (h : rwDec rd b = (l, none)) : (∀ a, a ∈ l → ok a) ∧ rwFlat en l = b := by
  have := rwF_back hb b.length b (Nat.le_refl _) (by show (rwDec rd b).2 = none; rw [h])
  change (∀ a, a ∈ (rwDec rd b).1 → ok a) ∧ rwFlat en (rwDec rd b).1 = b at this
  rwa [h] at this
end
end Go.Proofs.YtiifjagnhnchoaaGreat
end

section
set_option linter.unusedVariables false
set_option linter.unusedSimpArgs false
namespace Go.Proofs.YtiifjagnhnchoaaGreat
open Go Go.AI Go.Proofs

structure Bucket where
  weight : Int
  watch : Int
  wgroup : Int
  acts : List Action
  deriving DecidableEq, Inhabited
def Bucket.enc (x : Bucket) : List AV := [.int .i64 x.weight, .int .i64 x.watch, .int .i64 x.wgroup, .sl false x.acts.length (actL x.acts)]
@[simp] theorem Bucket.len (x : Bucket) : x.enc.length = 4 := rfl
@[simp] theorem Bucket.cl (x : Bucket) : ClL x.enc = true := by simp [Bucket.enc, ClL, Cl]
def bukL (l : List Bucket) : List AV := l.flatMap Bucket.enc
@[simp] theorem bukL_len (l : List Bucket) : (bukL l).length = l.length * 4 := fm_length Bucket.len l
@[simp] theorem bukL_cl (l : List Bucket) : ClL (bukL l) = true := ClL_flatMap _ Bucket.cl l
@[simp] theorem bukL_take (l : List Bucket) : (bukL l).take (l.length * 4) = bukL l := List.take_of_length_le (by simp)
@[simp] theorem bukL_nil : bukL [] = [] := rfl
@[simp] theorem Bucket.take (x : Bucket) : x.enc.take 4 = x.enc := rfl
@[simp] theorem Bucket.drop (x : Bucket) : x.enc.drop 4 = [] := rfl
end Go.Proofs.YtiifjagnhnchoaaGreat
end

section
set_option linter.unusedVariables false
set_option linter.unusedSimpArgs false
namespace Go.Proofs.YtiifjagnhnchoaaGreat
open Go Go.AI Go.Proofs

structure GroupMod where
  command : Int
  kind : Int
  id : Int
  buckets : List Bucket
  deriving DecidableEq, Inhabited
def GroupMod.enc (g : GroupMod) : List AV := [.int .i64 g.command, .int .i64 g.kind, .int .i64 g.id, .sl false g.buckets.length (bukL g.buckets)]
end Go.Proofs.YtiifjagnhnchoaaGreat
end

section
set_option linter.unusedVariables false
set_option linter.unusedSimpArgs false
namespace Go.Proofs.YtiifjagnhnchoaaGreat
open Go Go.AI Go.Proofs

structure Need where
  field : Int
  values : List Wide
  deriving DecidableEq, Inhabited
def w64 (x : BitVec 64) : Wide := ⟨0#64, x⟩
def nEth (vs : List (BitVec 64)) : Need := ⟨4, vs.map w64⟩
def nProto (x : BitVec 64) : Need := ⟨9, [w64 x]⟩
def needs (f : Int) : List Need :=
  if f = 6 then [⟨5, []⟩] else if f = 7 ∨ f = 8 ∨ f = 9 then [nEth [0x800#64, 0x86dd#64]] else if f = 10 ∨ f = 11 then [nEth [0x800#64]]
  else if f = 12 ∨ f = 13 then [nEth [0x800#64, 0x86dd#64], nProto 6#64] else if f = 14 ∨ f = 15 then [nEth [0x800#64, 0x86dd#64], nProto 17#64]
  else if f = 16 ∨ f = 17 then [nEth [0x800#64], nProto 1#64] else if f = 18 ∨ f = 19 ∨ f = 20 then [nEth [0x806#64]] else if f = 21 ∨ f = 22 then [nEth [0x86dd#64]]
  else if f = 23 then [nEth [0x8847#64, 0x8848#64]] else []
def mGives (o : Oxm) (n : Need) : Bool := o.field == n.field && (n.values.length == 0 || (!o.masked && n.values.any fun v => o.value == v))
def mMet (l : List Oxm) (f : Int) : Bool := (needs f).all fun n => l.any fun o => mGives o n
def mCheckF : List Oxm → List Oxm → Option Int
  | _, [] => none
  | acc, o :: r => if (acc.any fun p => p.field == o.field) = true then some 10 else if mMet acc o.field = false then some 9 else mCheckF (acc ++ [o]) r
def mCheck (l : List Oxm) : Option Int := mCheckF [] l
def mPad (n : Nat) : Nat := (n + 7) / 8 * 8
def oBytes (o : Oxm) : List (BitVec 8) := (oEnc o).1
def mWhole (l : List Oxm) : List (BitVec 8) := beN 1 2 ++ (beN (4 + (rwFlat oBytes l).length : Nat) 2 ++ (rwFlat oBytes l ++ List.replicate (mPad (4 + (rwFlat oBytes l).length) - (4 + (rwFlat oBytes l).length)) 0#8))
def mFit (l : List Oxm) : Bool := (mCheck l).isNone && l.all Oxm.right
def mEnc (l : List Oxm) : List (BitVec 8) × Int := if mFit l = true ∧ (rwFlat oBytes l).length ≤ 1000 then (mWhole l, 0) else ([], 1)
def oRd (b : List (BitVec 8)) : Oxm × Int × Option (Int × Int) := ((oDec b).1, (oDec b).2.1, if (oDec b).2.2 = 0 then none else some (4, (oDec b).2.2))
def mDec (b : List (BitVec 8)) : List Oxm × Nat × Option (Int × Int) :=
  if b.length < 4 then ([], 0, some (4, 1))
  else if valN ((b.drop 2).take 2) < 4 ∨ b.length < mPad (valN ((b.drop 2).take 2)) then ([], 0, some (4, 1))
  else if ¬ valN ((b.drop 0).take 2) = 1 then ([], 0, some (4, 0))
  else if 1004 < valN ((b.drop 2).take 2) then ([], 0, some (4, 1))
  else match (rwDec oRd ((b.drop 4).take (valN ((b.drop 2).take 2) - 4))).2 with
    | some c => ([], 0, some c)
    | none => match mCheck (rwDec oRd ((b.drop 4).take (valN ((b.drop 2).take 2) - 4))).1 with
      | some c => ([], 0, some (4, c))
      | none => if allZ ((b.drop (valN ((b.drop 2).take 2))).take (mPad (valN ((b.drop 2).take 2)) - valN ((b.drop 2).take 2))) = false then ([], 0, some (4, 1))
        else ((rwDec oRd ((b.drop 4).take (valN ((b.drop 2).take 2) - 4))).1, mPad (valN ((b.drop 2).take 2)), none)
theorem mPad_ge (n : Nat) : n ≤ mPad n ∧ mPad n < n + 8 ∧ mPad n % 8 = 0 := by unfold mPad; omega
theorem oRd_back {b : List (BitVec 8)} {y : Oxm} {n : Int} (h : oRd b = (y, n, none)) : Oxm.right y = true ∧ ∃ k : Nat, n = (k : Int) ∧ 4 ≤ k ∧ k ≤ b.length ∧ oBytes y = b.take k := by
  unfold oRd at h
  obtain ⟨o, m, c, hd⟩ : ∃ o m c, oDec b = (o, m, c) := ⟨_, _, _, rfl⟩
  rw [hd] at h
  simp only [Prod.mk.injEq] at h
  obtain ⟨rfl, rfl, hc⟩ := h
  have h0 : c = 0 := Decidable.byContradiction fun e => by rw [if_neg e] at hc; cases hc
  subst h0
  obtain ⟨hr, k, hk, h4, hl, he⟩ := oDec_back hd
  exact ⟨hr, k, hk, h4, hl, by unfold oBytes; rw [he]⟩
theorem oRd_bytes {o : Oxm} (h : Oxm.right o = true) : 0 < (oBytes o).length ∧ ∀ r, oRd (oBytes o ++ r) = (o, ((oBytes o).length : Int), none) := by
  have hb : ∀ r, oRd (oBytes o ++ r) = (o, ((oBytes o).length : Int), none) := fun r => by
    unfold oRd oBytes
    rw [oEnc_back h r]
    rfl
  refine ⟨?_, hb⟩
  obtain ⟨_, k, hk, h4, _⟩ := oRd_back (hb [])
  omega
theorem mFit_facts {l : List Oxm} (h : mFit l = true) : mCheck l = none ∧ ∀ o, o ∈ l → Oxm.right o = true := by
  unfold mFit at h
  rw [Bool.and_eq_true, List.all_eq_true] at h
  exact ⟨by simpa using h.1, h.2⟩
theorem mEnc_bad1 {l : List Oxm} (h : ¬ (mFit l = true ∧ (rwFlat oBytes l).length ≤ 1000)) : mEnc l = ([], 1) := by unfold mEnc; rw [if_neg h]
theorem mEnc_zero {l : List Oxm} (h : (mEnc l).2 = 0) : mFit l = true ∧ (rwFlat oBytes l).length ≤ 1000 ∧ mEnc l = (mWhole l, 0) := by
  by_cases hh : mFit l = true ∧ (rwFlat oBytes l).length ≤ 1000
  · exact ⟨hh.1, hh.2, by unfold mEnc; rw [if_pos hh]⟩
  · rw [mEnc_bad1 hh] at h; cases h
theorem mWhole_len (l : List Oxm) : (mWhole l).length = mPad (4 + (rwFlat oBytes l).length) := by
  have := mPad_ge (4 + (rwFlat oBytes l).length)
  unfold mWhole; simp [beN_len]; omega
theorem mEnc_len (l : List Oxm) : (mEnc l).1.length ≤ 1012 := by
  unfold mEnc
  split
  · rename_i h
    have := mPad_ge (4 + (rwFlat oBytes l).length)
    simp only [mWhole_len]; omega
  · simp
theorem mDec_back {b : List (BitVec 8)} {l : List Oxm} {n : Nat} (h : mDec b = (l, n, none)) : n ≤ b.length ∧ 8 ≤ n ∧ n % 8 = 0 ∧ mEnc l = (b.take n, 0) ∧ l.length * 4 ≤ b.length := by
  unfold mDec at h
  split at h
  · cases h
  rename_i c0
  have l0 : ((b.drop 0).take 2).length = 2 := by simp; omega
  have l1 : ((b.drop 2).take 2).length = 2 := by simp; omega
  have e0 := beN_valN 2 _ l0
  have e1 := beN_valN 2 _ l1
  obtain ⟨m, hm⟩ : ∃ m, valN ((b.drop 2).take 2) = m := ⟨_, rfl⟩
  rw [hm] at h e1
  split at h
  · cases h
  rename_i c1
  split at h
  · cases h
  rename_i c2
  rw [Decidable.not_not] at c2
  rw [c2] at e0
  split at h
  · cases h
  rename_i c3
  split at h
  · cases h
  split at h
  · cases h
  rename_i hck
  split at h
  · cases h
  rename_i hz
  rw [Bool.not_eq_false] at hz
  simp only [Prod.mk.injEq, and_true] at h
  obtain ⟨hl, rfl⟩ := h
  rename_i hnone _
  have hp := mPad_ge m
  obtain ⟨R, hR⟩ : ∃ R, rwDec oRd ((b.drop 4).take (m - 4)) = R := ⟨_, rfl⟩
  rw [hR] at hl hck hnone
  obtain ⟨l', c⟩ := R
  simp only at hl hck hnone
  subst hl
  subst hnone
  obtain ⟨hr, hf⟩ := rwDec_back (en := oBytes) (ok := fun o => Oxm.right o = true) (fun b y n h => by
    obtain ⟨hr, k, hk, h4, hl, he⟩ := oRd_back h
    exact ⟨hr, k, hk, by omega, hl, he⟩) hR
  have hsl : ((b.drop 4).take (m - 4)).length = m - 4 := by rw [List.length_take, List.length_drop]; omega
  have hfl : (rwFlat oBytes l').length = m - 4 := by rw [hf, hsl]
  have hcnt : l'.length * 4 ≤ (rwFlat oBytes l').length := by
    clear hf hfl hR hck
    induction l' with
    | nil => simp
    | cons o l ih =>
      have ih := ih (fun a ha => hr a (List.mem_cons_of_mem _ ha))
      obtain ⟨_, k, hk, h4, _⟩ := oRd_back ((oRd_bytes (hr o (by simp))).2 [])
      have e : rwFlat oBytes (o :: l) = oBytes o ++ rwFlat oBytes l := rfl
      rw [e, List.length_append, List.length_cons]; omega
  refine ⟨by omega, by omega, hp.2.2, ?_, by omega⟩
  have hfit : mFit l' = true := by
    unfold mFit
    rw [hck, Bool.and_eq_true, List.all_eq_true]
    exact ⟨rfl, hr⟩
  unfold mEnc
  rw [if_pos ⟨hfit, by omega⟩]
  refine Prod.ext ?_ rfl
  simp only
  unfold mWhole
  rw [hfl, show 4 + (m - 4) = m by omega, hf]
  have hzr : List.replicate (mPad m - m) 0#8 = (b.drop m).take (mPad m - m) := by
    rw [allZ_iff] at hz
    rw [hz, List.length_take, List.length_drop, Nat.min_eq_left (by omega)]
  rw [hzr, show beN 1 2 = (b.drop 0).take 2 from e0, e1, List.drop_zero]
  have ta : ∀ p q r s : Nat, r = p + q → (b.drop p).take q ++ (b.drop r).take s = (b.drop p).take (q + s) := fun p q r s e => by subst e; rw [List.take_add, List.drop_drop]
  have t0 : b.take 2 = (b.drop 0).take 2 := by rw [List.drop_zero]
  rw [ta 4 (m - 4) m (mPad m - m) (by omega), ta 2 2 4 _ rfl, t0, ta 0 2 2 _ rfl, List.drop_zero]
  congr 1
  omega
end Go.Proofs.YtiifjagnhnchoaaGreat
end

section
set_option linter.unusedVariables false
set_option linter.unusedSimpArgs false
namespace Go.Proofs.YtiifjagnhnchoaaGreat
open Go Go.AI Go.Proofs

/-- the place of the first -/
def firstI (p : Nat → Bool) (n : Nat) : Int := match (List.range n).find? p with | some i => i | none => -1
theorem firstI_some {p : Nat → Bool} {n i : Nat} (h : i < n) (hp : p i = true) (hn : ∀ j, j < i → p j = false) : firstI p n = i := by
  unfold firstI
  have : (List.range n).find? p = some i := by
    rw [List.find?_range_eq_some]
    exact ⟨hp, by simpa using h, fun j hj => by simp [hn j hj]⟩
  rw [this]
theorem firstI_none {p : Nat → Bool} {n : Nat} (hn : ∀ j, j < n → p j = false) : firstI p n = -1 := by
  unfold firstI
  have : (List.range n).find? p = none := by
    rw [List.find?_range_eq_none]
    exact fun i hi => by simp [hn i hi]
  rw [this]
theorem firstI_ge (p : Nat → Bool) (n : Nat) : decide (0 ≤ firstI p n) = (List.range n).any p := by
  unfold firstI
  cases h : (List.range n).find? p with
  | none =>
    rw [List.find?_range_eq_none] at h
    have : (List.range n).any p = false := by rw [List.any_eq_false]; intro x hx; have := h x (by simpa using hx); simpa using this
    simp [this]
  | some i =>
    rw [List.find?_range_eq_some] at h
    have : (List.range n).any p = true := List.any_eq_true.2 ⟨i, h.2.1, h.1⟩
    simp [this]
/-- a test of flows -/
structure Tst (x : AV) (p : Flow → Bool) : Prop where
  f : ∃ fid caps, x = .fn fid caps ∧ ClL caps = true ∧ ∀ f, FPl f → FnP Tryz.prog fid (.agg f.enc :: caps) (.bool (p f))
end Go.Proofs.YtiifjagnhnchoaaGreat
end

section
set_option linter.unusedVariables false
set_option linter.unusedSimpArgs false
namespace Go.Proofs.YtiifjagnhnchoaaGreat
open Go Go.AI Go.Proofs

theorem Tst.congr {x : AV} {p q : Flow → Bool} (h : Tst x p) (e : ∀ f, p f = q f) : Tst x q := by
  have : p = q := funext e
  rw [← this]; exact h
end Go.Proofs.YtiifjagnhnchoaaGreat
end

section
set_option linter.unusedVariables false
set_option linter.unusedSimpArgs false
namespace Go.Proofs.YtiifjagnhnchoaaGreat
open Go Go.AI Go.Proofs

theorem intL_take {l : List Int} {i : Nat} (h : i < l.length) : intL (l.take (i + 1)) = intL (l.take i) ++ [.int .i64 (nth l i)] := by rw [take_nth h]; simp [intL]
end Go.Proofs.YtiifjagnhnchoaaGreat
end

section
set_option linter.unusedVariables false
set_option linter.unusedSimpArgs false
namespace Go.Proofs.YtiifjagnhnchoaaGreat
open Go Go.AI Go.Proofs

/-- without a filter -/
def bare (m : FlowMod) : FlowMod := { m with cookieMask := 0#64, outPort := 4294967295, outGroup := 4294967295 }
end Go.Proofs.YtiifjagnhnchoaaGreat
end

section
set_option linter.unusedVariables false
set_option linter.unusedSimpArgs false
namespace Go.Proofs.YtiifjagnhnchoaaGreat
open Go Go.AI Go.Proofs

theorem intL_nil : intL [] = [] := rfl
def hF : Header := fun i => if i = 0 then ⟨0#64, 1#64⟩ else wideZ
/-- which place comes ahead of which -/
def ahead (k : Int → Int) (x y : Int) : Prop := k y < k x ∨ k x = k y ∧ x < y
end Go.Proofs.YtiifjagnhnchoaaGreat
end

section
set_option linter.unusedVariables false
set_option linter.unusedSimpArgs false
namespace Go.Proofs.YtiifjagnhnchoaaGreat
open Go Go.AI Go.Proofs

/-- the first `n` values of a function -/
def ro (f : Nat → Int) (n : Nat) : List Int := (List.range n).map f
@[simp] theorem ro_len (f : Nat → Int) (n : Nat) : (ro f n).length = n := by simp [ro]
end Go.Proofs.YtiifjagnhnchoaaGreat
end

section
set_option linter.unusedVariables false
set_option linter.unusedSimpArgs false
namespace Go.Proofs.YtiifjagnhnchoaaGreat
open Go Go.AI Go.Proofs

def Srt (k : Int → Int) (f : Nat → Int) (a b : Nat) : Prop := ∀ x y, a ≤ x → x < y → y < b → ahead k (f x) (f y)
end Go.Proofs.YtiifjagnhnchoaaGreat
end

section
set_option linter.unusedVariables false
set_option linter.unusedSimpArgs false
namespace Go.Proofs.YtiifjagnhnchoaaGreat
open Go Go.AI Go.Proofs

def Blk (k : Int → Int) (g : Nat → Int) (lo hi : Nat) : Prop := Srt k g lo hi ∧ ∀ x, lo ≤ x → x < hi → (lo : Int) ≤ g x ∧ g x < hi
theorem Blk.same {k : Int → Int} {g g' : Nat → Int} {lo hi : Nat} (h : Blk k g lo hi) (e : ∀ x, lo ≤ x → x < hi → g' x = g x) : Blk k g' lo hi :=
  ⟨fun x y i1 i2 i3 => by rw [e x i1 (by omega), e y (by omega) i3]; exact h.1 x y i1 i2 i3, fun x i1 i2 => by rw [e x i1 i2]; exact h.2 x i1 i2⟩
end Go.Proofs.YtiifjagnhnchoaaGreat
end

section
set_option linter.unusedVariables false
set_option linter.unusedSimpArgs false
namespace Go.Proofs.YtiifjagnhnchoaaGreat
open Go Go.AI Go.Proofs

structure F3 where
  is : Bool
  ty : Int
  code : Int
  deriving DecidableEq
def F3.enc (f : F3) : List AV := [.bool f.is, .int .i64 f.ty, .int .i64 f.code]
def F3.zero : F3 := ⟨false, 0, 0⟩
@[simp] theorem F3.len (f : F3) : f.enc.length = 3 := rfl
@[simp] theorem F3.cl (f : F3) : ClL f.enc = true := by simp [F3.enc, ClL, Cl]
@[simp] theorem F3.ne (f : F3) : (f.enc = []) = False := by simp [F3.enc]
@[simp] theorem F3.take (f : F3) : f.enc.take 3 = f.enc := rfl
@[simp] theorem F3.drop (f : F3) : f.enc.drop 3 = [] := rfl
end Go.Proofs.YtiifjagnhnchoaaGreat
end

section
set_option linter.unusedVariables false
set_option linter.unusedSimpArgs false
namespace Go.Proofs.YtiifjagnhnchoaaGreat
open Go Go.AI Go.Proofs

theorem takenF (n : Nat) : taken (fun _ => false) n = if n = 0 then 0 else 1 := by cases n <;> rfl
end Go.Proofs.YtiifjagnhnchoaaGreat
end

section
set_option linter.unusedVariables false
set_option linter.unusedSimpArgs false
namespace Go.Proofs.YtiifjagnhnchoaaGreat
open Go Go.AI Go.Proofs

theorem eqBy_refl {α : Type} [Inhabited α] {p : α → α → Bool} (h : ∀ x, p x x = true) (l : List α) : eqBy p l l = true := by unfold eqBy; simp [h]
end Go.Proofs.YtiifjagnhnchoaaGreat
end

section
set_option linter.unusedVariables false
set_option linter.unusedSimpArgs false
namespace Go.Proofs.YtiifjagnhnchoaaGreat
open Go Go.AI Go.Proofs
attribute [local irreducible] FnP FnO FnB FnT FnSeq WK RunQ RunQW RunX RunXW

theorem acDec_small {b : List (BitVec 8)} {l : List Action} {c : Option Int} (h : acDec b = (l, c)) : l.length * 8 ≤ b.length := by
  cases c with
  | some c => rw [acDec_bad h]; simp
  | none =>
    unfold acDec at h
    split at h
    · cases h
    · obtain ⟨h1, h2⟩ := acDecF_back b.length b (Nat.le_refl _) (by rw [h])
      rw [h] at h1 h2
      simp only at h1 h2
      rw [← h2]
      clear h h2
      induction l with
      | nil => simp [acFlat]
      | cons a l ih =>
        have ih := ih (fun x hx => h1 x (List.mem_cons_of_mem _ hx))
        obtain ⟨_, k, hk, h8, _⟩ := aDec_back (aEnc_back (h1 a (by simp)) [])
        rw [acFlat_cons, List.length_append, List.length_cons]
        omega
theorem eqBy_selfA (l : List Action) : eqBy (fun x y : Action => x == y) l l = true := by unfold eqBy; simp
end Go.Proofs.YtiifjagnhnchoaaGreat
end

section
set_option linter.unusedVariables false
set_option linter.unusedSimpArgs false
namespace Go.Proofs.YtiifjagnhnchoaaGreat
open Go Go.AI Go.Proofs
attribute [local irreducible] FnP FnO FnB FnT FnSeq WK RunQ RunQW RunX RunXW

def gFault : Option (Int × Int) → List AV
  | none => [.bool false, .int .i64 0, .int .i64 0]
  | some x => [.bool true, .int .i64 x.1, .int .i64 x.2]
@[simp] theorem gFault_cl (c : Option (Int × Int)) : ClL (gFault c) = true := by cases c <;> rfl
theorem aFault_g (c : Option Int) : aFault c = gFault (c.map fun c => (2, c)) := by cases c <;> rfl
theorem any_allZ (l : List (BitVec 8)) : (l.any fun x => !(x == 0#8)) = !allZ l := by unfold allZ; rw [List.any_eq_not_all_not]; simp
end Go.Proofs.YtiifjagnhnchoaaGreat
end

section
set_option linter.unusedVariables false
set_option linter.unusedSimpArgs false
namespace Go.Proofs.YtiifjagnhnchoaaGreat
open Go Go.AI Go.Proofs
attribute [local irreducible] FnP FnO FnB FnT FnSeq WK RunQ RunQW RunX RunXW

def Bucket.same (a b : Bucket) : Bool := a.weight == b.weight && (a.watch == b.watch && (a.wgroup == b.wgroup && eqBy (· == ·) a.acts b.acts))
end Go.Proofs.YtiifjagnhnchoaaGreat
end

section
set_option linter.unusedVariables false
set_option linter.unusedSimpArgs false
namespace Go.Proofs.YtiifjagnhnchoaaGreat
open Go Go.AI Go.Proofs

theorem eqBy_iff {l m : List Action} : eqBy (fun x y : Action => x == y) l m = true ↔ l = m := by
  constructor
  · intro h
    unfold eqBy at h
    rw [Bool.and_eq_true, beq_iff_eq, List.all_eq_true] at h
    refine List.ext_getElem h.1 fun i h1 h2 => ?_
    have := h.2 i (by simpa using h1)
    rw [beq_iff_eq, nth_eq h1, nth_eq h2] at this
    exact this
  · intro h; subst h; exact eqBy_selfA l
theorem instSame_iff {a b : Inst} : Inst.same a b = true ↔ a = b := by
  obtain ⟨k, t, v, m, l⟩ := a
  obtain ⟨k', t', v', m', l'⟩ := b
  unfold Inst.same
  simp only [Bool.and_eq_true, beq_iff_eq, Inst.mk.injEq]
  rw [show (eqBy (fun x1 x2 => x1 == x2) l l' = true) ↔ l = l' from eqBy_iff]
  simp only [and_assoc]
theorem instSelf (i : Inst) : Inst.same i i = true := instSame_iff.2 rfl
def inst0 : Inst := ⟨0, 0, wideZ, wideZ, []⟩
def inMeta (v m : Wide) : Bool := v.hi == 0#64 && (m.hi == 0#64 && (v.less m).zero)
def inBare (i : Inst) : Inst := if i.kind = 1 then ⟨1, i.table, wideZ, wideZ, []⟩ else if i.kind = 2 then ⟨2, 0, i.value, i.mask, []⟩ else if i.kind = 3 ∨ i.kind = 4 then ⟨i.kind, 0, wideZ, wideZ, i.acts⟩ else ⟨i.kind, 0, wideZ, wideZ, []⟩
def inOk (i : Inst) : Bool := if i.kind = 1 then decide (0 ≤ i.table) && decide (i.table < 255) else if i.kind = 2 then inMeta i.value i.mask else if i.kind = 3 ∨ i.kind = 4 then (acEnc i.acts).2 == 0 else i.kind == 5
def inRight (i : Inst) : Bool := inOk i && Inst.same i (inBare i)
def inBody (i : Inst) : List (BitVec 8) := if i.kind = 1 then BitVec.ofInt 8 i.table :: List.replicate 3 0#8 else if i.kind = 2 then List.replicate 4 0#8 ++ (beN (wN i.value) 8 ++ beN (wN i.mask) 8) else if i.kind = 3 ∨ i.kind = 4 then List.replicate 4 0#8 ++ (acEnc i.acts).1 else List.replicate 4 0#8
def inOne (i : Inst) : List (BitVec 8) := beN i.kind 2 ++ (beN (4 + (inBody i).length : Nat) 2 ++ inBody i)
def inKinds (l : List Inst) : List Int := l.map (·.kind)
def inFit (l : List Inst) : Bool := l.all inRight && decide (inKinds l).Nodup
def inEnc (l : List Inst) : List (BitVec 8) × Int := if inFit l = true ∧ (rwFlat inOne l).length ≤ 60000 then (rwFlat inOne l, 0) else ([], 1)
def inLaid (k : Int) (b : List (BitVec 8)) : Bool := if k = 1 then b.length == 8 && allZ (b.drop 5) else if k = 2 then b.length == 24 && allZ ((b.drop 4).take 4) else if k = 5 then b.length == 8 && allZ (b.drop 4) else allZ ((b.drop 4).take 4)
/-- the kind and how many bytes; or the fault -/
def inCut (b : List (BitVec 8)) : Int × Nat × Option (Int × Int) :=
  if b.length < 8 then (0, 0, some (3, 7))
  else if valN ((b.drop 2).take 2) < 8 ∨ ¬ valN ((b.drop 2).take 2) % 8 = 0 ∨ b.length < valN ((b.drop 2).take 2) then (0, 0, some (3, 7))
  else if valN ((b.drop 0).take 2) = 6 then (0, 0, some (3, 1))
  else if valN ((b.drop 0).take 2) < 1 ∨ 5 < valN ((b.drop 0).take 2) then (0, 0, some (3, 0))
  else if inLaid (valN ((b.drop 0).take 2)) (b.take (valN ((b.drop 2).take 2))) = false then (0, 0, some (3, 7))
  else (valN ((b.drop 0).take 2), valN ((b.drop 2).take 2), none)
def inOf (k : Int) (b : List (BitVec 8)) : Inst × Option (Int × Int) :=
  if k = 1 then (⟨1, (nth b 4).toNat, wideZ, wideZ, []⟩, if (nth b 4).toNat = 255 then some (3, 2) else none)
  else if k = 2 then (⟨2, 0, (wGet (b.drop 8) 8).1, (wGet (b.drop 16) 8).1, []⟩, if inMeta (wGet (b.drop 8) 8).1 (wGet (b.drop 16) 8).1 = true then none else some (3, 4))
  else if k = 3 ∨ k = 4 then (⟨k, 0, wideZ, wideZ, (acDec (b.drop 8)).1⟩, (acDec (b.drop 8)).2.map fun c => (2, c))
  else (⟨k, 0, wideZ, wideZ, []⟩, none)
def inStep (ks : List Int) (b : List (BitVec 8)) : Inst × Nat × Option (Int × Int) :=
  match (inCut b).2.2 with
  | some c => (inst0, 0, some c)
  | none => if (inCut b).1 ∈ ks then (inst0, 0, some (3, 9)) else
    match (inOf (inCut b).1 (b.take (inCut b).2.1)).2 with
    | some c => (inst0, 0, some c)
    | none => ((inOf (inCut b).1 (b.take (inCut b).2.1)).1, (inCut b).2.1, none)
def inF : Nat → List Inst → List (BitVec 8) → List Inst × Option (Int × Int)
  | 0, acc, _ => (acc, none)
  | f + 1, acc, b => if b.length = 0 then (acc, none) else match (inStep (inKinds acc) b).2.2 with
    | some c => ([], some c)
    | none => inF f (acc ++ [(inStep (inKinds acc) b).1]) (b.drop (inStep (inKinds acc) b).2.1)
def inDec (b : List (BitVec 8)) : List Inst × Option (Int × Int) := inF b.length [] b
theorem inF_stop {f : Nat} {acc : List Inst} {b : List (BitVec 8)} (h : b.length = 0) : inF f acc b = (acc, none) := by
  cases f with
  | zero => rfl
  | succ f => rw [inF, if_pos h]
theorem inF_bad : ∀ (f : Nat) (acc : List Inst) (b : List (BitVec 8)) (c : Int × Int), (inF f acc b).2 = some c → (inF f acc b).1 = []
  | 0, acc, b, c, h => by simp [inF] at h
  | f + 1, acc, b, c, h => by
    rw [inF] at h ⊢
    split
    · rename_i h0; rw [if_pos h0] at h; cases h
    rename_i h0
    rw [if_neg h0] at h
    split
    · rfl
    · rename_i hd
      rw [hd] at h
      exact inF_bad f _ _ c h
theorem inDec_bad {b : List (BitVec 8)} {l : List Inst} {c : Int × Int} (h : inDec b = (l, some c)) : l = [] := by
  have := inF_bad b.length [] b c (by show (inDec b).2 = some c; rw [h])
  change (inDec b).1 = [] at this
  rw [h] at this
  exact this
theorem inBody_len (i : Inst) : (inBody i).length ≤ 6004 := by
  have := acEnc_len i.acts
  unfold inBody
  split
  · simp
  split
  · simp [beN_len]
  split
  · simp; omega
  · simp
theorem inOne_len (i : Inst) : (inOne i).length = 4 + (inBody i).length := by unfold inOne; simp [beN_len]; omega
theorem inRight_facts {i : Inst} (h : inRight i = true) : inOk i = true ∧ i = inBare i := by
  unfold inRight at h
  rw [Bool.and_eq_true] at h
  exact ⟨h.1, instSame_iff.1 h.2⟩
theorem inKind_of {i : Inst} (h : inOk i = true) : i.kind = 1 ∨ i.kind = 2 ∨ i.kind = 3 ∨ i.kind = 4 ∨ i.kind = 5 := by
  unfold inOk at h
  split at h
  · exact .inl ‹_›
  split at h
  · exact .inr (.inl ‹_›)
  split at h
  · rename_i h3; rcases h3 with h3 | h3
    · exact .inr (.inr (.inl h3))
    · exact .inr (.inr (.inr (.inl h3)))
  · exact .inr (.inr (.inr (.inr (by simpa using h))))
theorem inFit_facts {l : List Inst} (h : inFit l = true) : (∀ a, a ∈ l → inRight a = true) ∧ (inKinds l).Nodup := by
  unfold inFit at h
  rw [Bool.and_eq_true, List.all_eq_true, decide_eq_true_eq] at h
  exact h
theorem inEnc_bad1 {l : List Inst} (h : ¬ (inFit l = true ∧ (rwFlat inOne l).length ≤ 60000)) : inEnc l = ([], 1) := by unfold inEnc; rw [if_neg h]
theorem inEnc_len (l : List Inst) : (inEnc l).1.length ≤ 60000 := by
  unfold inEnc
  split
  · rename_i h; exact h.2
  · simp
end Go.Proofs.YtiifjagnhnchoaaGreat
end

section
set_option linter.unusedVariables false
set_option linter.unusedSimpArgs false
namespace Go.Proofs.YtiifjagnhnchoaaGreat
open Go Go.AI Go.Proofs

theorem inCut_facts {b : List (BitVec 8)} {k : Int} {n : Nat} (h : inCut b = (k, n, none)) : 8 ≤ n ∧ n ≤ b.length ∧ n % 8 = 0 ∧ n < 65536 ∧ (∃ kn : Nat, k = kn ∧ 1 ≤ kn ∧ kn ≤ 5 ∧ beN (kn : Int) 2 = b.take 2) ∧ beN (n : Int) 2 = (b.drop 2).take 2 ∧ inLaid k (b.take n) = true := by
  unfold inCut at h
  split at h
  · cases h
  rename_i c0
  split at h
  · cases h
  rename_i c1
  split at h
  · cases h
  rename_i c2
  split at h
  · cases h
  rename_i c3
  split at h
  · cases h
  rename_i c4
  simp only [Prod.mk.injEq, and_true] at h
  obtain ⟨rfl, rfl⟩ := h
  have l0 : ((b.drop 0).take 2).length = 2 := by simp; omega
  have l1 : ((b.drop 2).take 2).length = 2 := by simp; omega
  have e0 := beN_valN 2 _ l0
  have e1 := beN_valN 2 _ l1
  have lt : valN ((b.drop 2).take 2) < 65536 := valN_lt 2 _ l1
  rw [List.drop_zero] at e0 c3
  rw [Bool.not_eq_false] at c4
  exact ⟨by omega, by omega, by omega, lt, ⟨_, by rw [List.drop_zero], by omega, by omega, e0⟩, e1, c4⟩
theorem wide_back (b : List (BitVec 8)) (h : 8 ≤ b.length) : beN (wN (wGet b 8).1) 8 = b.take 8 := by
  have h1 := wPut_wGet b [] 8 (by omega) h
  rw [wPut_beN _ _ _ (by omega), List.nil_append, List.nil_append] at h1
  exact h1
theorem take_take_drop (b : List (BitVec 8)) (p q r : Nat) (h : r = p + q) : (b.drop p).take q ++ b.drop r = b.drop p := by
  subst h
  rw [← List.drop_drop, List.take_append_drop]
theorem inStep_back {ks : List Int} {b : List (BitVec 8)} {y : Inst} {n : Nat} (h : inStep ks b = (y, n, none)) : inRight y = true ∧ y.kind ∉ ks ∧ 8 ≤ n ∧ n ≤ b.length ∧ inOne y = b.take n ∧ y.acts.length * 8 ≤ b.length := by
  unfold inStep at h
  obtain ⟨k, m, c, hc⟩ : ∃ k m c, inCut b = (k, m, c) := ⟨_, _, _, rfl⟩
  rw [hc] at h
  cases c with
  | some c => simp at h
  | none =>
  simp only at h
  split at h
  · cases h
  rename_i hks
  obtain ⟨z, c, hz⟩ : ∃ z c, inOf k (b.take m) = (z, c) := ⟨_, _, rfl⟩
  rw [hz] at h
  cases c with
  | some c => simp at h
  | none =>
  simp only [Prod.mk.injEq, and_true] at h
  obtain ⟨rfl, rfl⟩ := h
  obtain ⟨f1, f2, f3, f4, ⟨kn, rfl, f5, f6, f7⟩, f8, f9⟩ := inCut_facts hc
  obtain ⟨B, hB⟩ : ∃ B, b.take m = B := ⟨_, rfl⟩
  have hBl : B.length = m := by rw [← hB, List.length_take]; omega
  have t2 : b.take 2 = B.take 2 := by rw [← hB, List.take_take, Nat.min_eq_left (by omega)]
  have t4 : (b.drop 2).take 2 = (B.drop 2).take 2 := by
    rw [← hB, List.drop_take, List.take_take, Nat.min_eq_left (by omega)]
  have glue : ∀ body : List (BitVec 8), z.kind = kn → inBody z = body → body = B.drop 4 → inOne z = B := fun body h1 h2 h3 => by
    have hl : 4 + (B.drop 4).length = m := by rw [List.length_drop]; omega
    unfold inOne
    rw [h1, h2, h3, hl, f7, f8, t2, t4, take_take_drop B 2 2 4 rfl, List.take_append_drop]
  rw [hB] at hz f9 ⊢
  have z4 : ∀ p q, allZ ((B.drop p).take q) = true → p + q ≤ m → List.replicate q 0#8 = (B.drop p).take q := fun p q h1 h2 => by
    rw [allZ_iff] at h1
    rw [h1, List.length_take, List.length_drop, Nat.min_eq_left (by omega)]
  unfold inOf at hz
  unfold inLaid at f9
  by_cases k1 : kn = 1
  · subst k1
    rw [if_pos (by decide)] at hz f9
    simp only [Bool.and_eq_true, beq_iff_eq] at f9
    simp only [Prod.mk.injEq] at hz
    obtain ⟨rfl, hc⟩ := hz
    have hne : ¬ (nth B 4).toNat = 255 := fun e => by rw [if_pos e] at hc; cases hc
    have hlt := (nth B 4).isLt
    have h5 : List.replicate 3 0#8 = B.drop 5 := by
      have := f9.2; rw [allZ_iff] at this; rw [this, List.length_drop]; congr 1; omega
    have h4 : B.drop 4 = nth B 4 :: B.drop 5 := by rw [nth_eq (by omega), List.drop_eq_getElem_cons (by omega)]
    refine ⟨?_, hks, f1, f2, ?_, by simp⟩
    · unfold inRight inOk inBare
      simp only [if_pos, instSelf]
      simp
      omega
    · refine glue _ rfl rfl ?_
      unfold inBody
      rw [if_pos rfl, h4, ← h5]
      simp only [ofInt8_nat]
  by_cases k2 : kn = 2
  · subst k2
    rw [if_neg (by decide), if_pos (by decide)] at hz f9
    simp only [Bool.and_eq_true, beq_iff_eq] at f9
    simp only [Prod.mk.injEq] at hz
    obtain ⟨rfl, hc⟩ := hz
    have hm : inMeta (wGet (B.drop 8) 8).1 (wGet (B.drop 16) 8).1 = true := Decidable.byContradiction fun e => by rw [if_neg e] at hc; cases hc
    refine ⟨?_, hks, f1, f2, ?_, by simp⟩
    · unfold inRight inOk inBare
      simp only [if_neg (show ¬ (2 : Int) = 1 by decide), if_pos, instSelf]
      simpa using hm
    · refine glue _ rfl rfl ?_
      unfold inBody
      simp only
      rw [if_neg (by decide), if_pos (by decide)]
      rw [wide_back _ (by rw [List.length_drop]; omega), wide_back _ (by rw [List.length_drop]; omega), z4 4 4 f9.2 (by omega)]
      have h16 : (B.drop 16).take 8 = B.drop 16 := List.take_of_length_le (by rw [List.length_drop]; omega)
      rw [h16, take_take_drop B 8 8 16 rfl, take_take_drop B 4 4 8 rfl]
  by_cases k5 : kn = 5
  · subst k5
    rw [if_neg (by decide), if_neg (by decide), if_pos (by decide)] at f9
    rw [if_neg (by decide), if_neg (by decide), if_neg (by decide)] at hz
    simp only [Bool.and_eq_true, beq_iff_eq] at f9
    simp only [Prod.mk.injEq, and_true] at hz
    subst hz
    have h4 : List.replicate 4 0#8 = B.drop 4 := by
      have := f9.2; rw [allZ_iff] at this; rw [this, List.length_drop]; congr 1; omega
    refine ⟨?_, hks, f1, f2, ?_, by simp⟩
    · show (true && Inst.same _ _) = true
      rw [Bool.true_and]
      exact instSelf _
    · exact glue _ rfl rfl h4
  · have k34 : kn = 3 ∨ kn = 4 := by omega
    rw [if_neg (by omega), if_neg (by omega), if_neg (by omega)] at f9
    rw [if_neg (by omega), if_neg (by omega), if_pos (by omega)] at hz
    obtain ⟨R, hR⟩ : ∃ R, acDec (B.drop 8) = R := ⟨_, rfl⟩
    rw [hR] at hz
    obtain ⟨l, c⟩ := R
    cases c with
    | some c => simp at hz
    | none =>
    simp only [Option.map_none, Prod.mk.injEq, and_true] at hz
    subst hz
    have hb := acDec_back hR
    have hsm := acDec_small hR
    rw [List.length_drop] at hsm
    refine ⟨?_, hks, f1, f2, ?_, by simp only; omega⟩
    · unfold inRight inOk inBare
      simp only [if_neg (show ¬ (kn : Int) = 1 by omega), if_neg (show ¬ (kn : Int) = 2 by omega), if_pos (show (kn : Int) = 3 ∨ (kn : Int) = 4 by omega), instSelf, hb]
      rfl
    · refine glue _ rfl rfl ?_
      unfold inBody
      simp only [if_neg (show ¬ (kn : Int) = 1 by omega), if_neg (show ¬ (kn : Int) = 2 by omega), if_pos (show (kn : Int) = 3 ∨ (kn : Int) = 4 by omega), hb]
      rw [z4 4 4 f9 (by omega), take_take_drop B 4 4 8 rfl]
structure InAt (b : List (BitVec 8)) (x : Nat × Nat × List Inst) : Prop where
  le : x.2.1 ≤ b.length
  fuel : b.length - x.2.1 ≤ x.1
  eq : inDec b = inF x.1 x.2.2 (b.drop x.2.1)
  small : x.2.2.length * 8 ≤ x.2.1
  right : ∀ y, y ∈ x.2.2 → inRight y = true ∧ y.acts.length * 8 ≤ b.length
  once : (inKinds x.2.2).Nodup
  flat : rwFlat inOne x.2.2 = b.take x.2.1
theorem InAt.start (b : List (BitVec 8)) : InAt b (b.length, 0, []) := ⟨Nat.zero_le _, Nat.le_refl _, rfl, Nat.le_refl _, fun y hy => (by cases hy), List.nodup_nil, (by simp [rwFlat])⟩
theorem InAt.bad {b : List (BitVec 8)} {x : Nat × Nat × List Inst} (h : InAt b x) (hp : x.2.1 < b.length) {y : Inst} {n : Nat} {c : Int × Int} (hd : inStep (inKinds x.2.2) (b.drop x.2.1) = (y, n, some c)) : inDec b = ([], some c) := by
  rw [h.eq]
  obtain ⟨f, hf⟩ : ∃ f, x.1 = f + 1 := ⟨x.1 - 1, by have := h.fuel; omega⟩
  rw [hf, inF, if_neg (by rw [List.length_drop]; omega), hd]
theorem InAt.next {b : List (BitVec 8)} {x : Nat × Nat × List Inst} (h : InAt b x) (hp : x.2.1 < b.length) {y : Inst} {n : Nat} (hd : inStep (inKinds x.2.2) (b.drop x.2.1) = (y, n, none)) : x.2.1 + n ≤ b.length ∧ 8 ≤ n ∧ InAt b (x.1 - 1, x.2.1 + n, x.2.2 ++ [y]) := by
  obtain ⟨g1, g2, g3, g4, g5, g6⟩ := inStep_back hd
  rw [List.length_drop] at g4 g6
  obtain ⟨f, hf⟩ : ∃ f, x.1 = f + 1 := ⟨x.1 - 1, by have := h.fuel; omega⟩
  refine ⟨by omega, g3, ⟨by simp only; omega, by have := h.fuel; simp only; omega, ?_, by have := h.small; simp only [List.length_append, List.length_singleton]; omega, ?_, ?_, ?_⟩⟩
  · rw [h.eq, hf, inF, if_neg (by rw [List.length_drop]; omega), hd]
    simp only [Nat.add_sub_cancel]
    rw [List.drop_drop]
  · intro z hz
    simp only [List.mem_append, List.mem_singleton] at hz
    rcases hz with hz | rfl
    · exact h.right z hz
    · exact ⟨g1, by omega⟩
  · unfold inKinds at *
    simp only [List.map_append, List.map_cons, List.map_nil]
    rw [List.nodup_append]
    exact ⟨h.once, by simp, fun a ha b hb => by simp at hb; subst hb; exact fun e => g2 (e ▸ ha)⟩
  · simp only
    rw [rwFlat_app, h.flat, List.take_add]
    congr 1
    unfold rwFlat
    rw [List.flatMap_cons, List.flatMap_nil, List.append_nil, g5]
theorem InAt.stop {b : List (BitVec 8)} {x : Nat × Nat × List Inst} (h : InAt b x) (hp : ¬ x.2.1 < b.length) : inDec b = (x.2.2, none) := by
  rw [h.eq, inF_stop (by rw [List.length_drop]; omega)]
theorem inAt_end : ∀ (f : Nat) (b : List (BitVec 8)) (p : Nat) (acc l : List Inst), InAt b (f, p, acc) → inDec b = (l, none) → ∃ f' p', InAt b (f', p', l) ∧ p' = b.length
  | 0, b, p, acc, l, h, he => by
    have hp : ¬ p < b.length := by have := h.fuel; simp only at this; omega
    have := h.stop hp
    rw [he] at this
    simp only [Prod.mk.injEq, and_true] at this
    subst this
    exact ⟨0, p, h, by have := h.le; simp only at this; omega⟩
  | f + 1, b, p, acc, l, h, he => by
    by_cases hp : p < b.length
    · obtain ⟨y, n, c, hd⟩ : ∃ y n c, inStep (inKinds acc) (b.drop p) = (y, n, c) := ⟨_, _, _, rfl⟩
      cases c with
      | some c => have := h.bad hp hd; rw [he] at this; cases this
      | none =>
        have := (h.next hp hd).2.2
        exact inAt_end f b (p + n) (acc ++ [y]) l this he
    · have := h.stop hp
      rw [he] at this
      simp only [Prod.mk.injEq, and_true] at this
      subst this
      exact ⟨f + 1, p, h, by have := h.le; simp only at this; omega⟩
structure InDone (b : List (BitVec 8)) (l : List Inst) : Prop where
  right : ∀ y, y ∈ l → inRight y = true ∧ y.acts.length * 8 ≤ b.length
  once : (inKinds l).Nodup
  flat : rwFlat inOne l = b
  small : l.length * 8 ≤ b.length
theorem inDec_done {b : List (BitVec 8)} {l : List Inst} (h : inDec b = (l, none)) : InDone b l := by
  obtain ⟨f, p, hat, rfl⟩ := inAt_end b.length b 0 [] l (InAt.start b) h
  exact ⟨hat.right, hat.once, by have := hat.flat; simpa using this, hat.small⟩
end Go.Proofs.YtiifjagnhnchoaaGreat
end

section
set_option linter.unusedVariables false
set_option linter.unusedSimpArgs false
namespace Go.Proofs.YtiifjagnhnchoaaGreat
open Go Go.AI Go.Proofs

/-- numbers, one behind the other -/
def nsEnc (l : List (Int × Nat)) : List (BitVec 8) := l.flatMap fun x => beN x.1 x.2
def nsRead : List Nat → List (BitVec 8) → Nat → List Int
  | [], _, _ => []
  | s :: r, b, p => (getN b p s).1 :: nsRead r b (p + s)
theorem nsEnc_len (l : List (Int × Nat)) : (nsEnc l).length = (l.map (·.2)).sum := by
  induction l with
  | nil => rfl
  | cons x l ih =>
    have e : nsEnc (x :: l) = beN x.1 x.2 ++ nsEnc l := rfl
    rw [e, List.length_append, ih, beN_len]; simp
theorem nsRead_len : ∀ (ss : List Nat) (b : List (BitVec 8)) (p : Nat), (nsRead ss b p).length = ss.length
  | [], _, _ => rfl
  | s :: ss, b, p => by rw [nsRead, List.length_cons, nsRead_len ss, List.length_cons]
def fmSizes : List Nat := [1, 1, 2, 2, 2, 4, 4, 4, 2]
def fmNums (m : FlowMod) : List Int := [m.table, m.command, m.idle, m.hard, m.prio, m.buffer, m.outPort, m.outGroup, m.flags]
def fmZip (m : FlowMod) : List (Int × Nat) := (fmNums m).zip fmSizes
def fmWrong (m : FlowMod) : Bool := m.insts.any fun i => i.acts.any fun a => a.kind == 25 && !mMet m.mat a.oxm.field
def fmCheck (m : FlowMod) : Option (Int × Int) :=
  if m.command < 0 ∨ 4 < m.command then some (5, 6) else if 31 < m.flags then some (5, 7) else if 2 < m.command then none else if fmWrong m = true then some (2, 10) else none
def fmRight (m : FlowMod) : Bool := (fmZip m).all (fun x => numOk x.1 x.2) && ((mEnc m.mat).2 == 0 && ((inEnc m.insts).2 == 0 && (fmCheck m).isNone))
def fmHead (m : FlowMod) : List (BitVec 8) := beN m.cookie.toNat 8 ++ (beN m.cookieMask.toNat 8 ++ (nsEnc (fmZip m) ++ List.replicate 2 0#8))
def fmEnc (m : FlowMod) : List (BitVec 8) × Int := if fmRight m = true then (fmHead m ++ ((mEnc m.mat).1 ++ (inEnc m.insts).1), 0) else ([], 1)
def flowMod0 : FlowMod := ⟨0#64, 0#64, 0, 0, 0, 0, 0, 0, 0, 0, 0, [], []⟩
/-- a change with numbers -/
def fmTake (c k : BitVec 64) (n : List Int) (l : List Oxm) (i : List Inst) : FlowMod := ⟨c, k, nth n 0, nth n 1, nth n 2, nth n 3, nth n 4, nth n 5, nth n 6, nth n 7, nth n 8, l, i⟩
def fmDec (b : List (BitVec 8)) : FlowMod × Option (Int × Int) :=
  if b.length < 40 then (flowMod0, some (1, 6)) else if allZ ((b.drop 38).take 2) = false then (flowMod0, some (1, 6)) else
  match (mDec (b.drop 40)).2.2 with
  | some c => (flowMod0, some c)
  | none => match (inDec (b.drop (40 + (mDec (b.drop 40)).2.1))).2 with
    | some c => (flowMod0, some c)
    | none => match fmCheck (fmTake (wGet b 8).1.lo (wGet (b.drop 8) 8).1.lo (nsRead fmSizes b 16) (mDec (b.drop 40)).1 (inDec (b.drop (40 + (mDec (b.drop 40)).2.1))).1) with
      | some c => (flowMod0, some c)
      | none => (fmTake (wGet b 8).1.lo (wGet (b.drop 8) 8).1.lo (nsRead fmSizes b 16) (mDec (b.drop 40)).1 (inDec (b.drop (40 + (mDec (b.drop 40)).2.1))).1, none)
theorem fmZip_sizes (m : FlowMod) : (fmZip m).map (·.2) = fmSizes := rfl
theorem fmHead_len (m : FlowMod) : (fmHead m).length = 40 := by
  have h := nsEnc_len (fmZip m)
  rw [fmZip_sizes] at h
  have : fmSizes.sum = 22 := rfl
  unfold fmHead; simp [beN_len, h, this]
structure FmFit (m : FlowMod) : Prop where
  nums : ∀ x, x ∈ fmZip m → numOk x.1 x.2 = true
  mat : (mEnc m.mat).2 = 0
  ins : (inEnc m.insts).2 = 0
  chk : fmCheck m = none
theorem fmRight_facts {m : FlowMod} (h : fmRight m = true) : FmFit m := by
  unfold fmRight at h
  rw [Bool.and_eq_true, Bool.and_eq_true, Bool.and_eq_true, beq_iff_eq, beq_iff_eq, List.all_eq_true] at h
  exact ⟨h.1, h.2.1, h.2.2.1, by simpa using h.2.2.2⟩
theorem fmEnc_bad {m : FlowMod} (h : fmRight m = false) : fmEnc m = ([], 1) := by unfold fmEnc; rw [if_neg (by rw [h]; exact Bool.false_ne_true)]
theorem fmEnc_len (m : FlowMod) : (fmEnc m).1.length ≤ 61052 := by
  unfold fmEnc
  split
  · have h1 := fmHead_len m
    have h2 := mEnc_len m.mat
    have h3 := inEnc_len m.insts
    simp only [List.length_append]; omega
  · simp
end Go.Proofs.YtiifjagnhnchoaaGreat
end

section
set_option linter.unusedVariables false
set_option linter.unusedSimpArgs false
namespace Go.Proofs.YtiifjagnhnchoaaGreat
open Go Go.AI Go.Proofs

theorem drop_nth {α : Type} [Inhabited α] {l : List α} {i : Nat} (h : i < l.length) : l.drop i = nth l i :: l.drop (i + 1) := by
  rw [List.drop_eq_getElem_cons h, nth_eq h]
theorem take_nth {α : Type} [Inhabited α] {l : List α} {i : Nat} (h : i < l.length) : l.take (i + 1) = l.take i ++ [nth l i] := by
  rw [List.take_succ_eq_append_getElem h, nth_eq h]
theorem mCheck_at {l : List Oxm} {i : Nat} (h : i < l.length) : mCheckF (l.take i) (l.drop i) =
    if ((l.take i).any fun p => p.field == (nth l i).field) = true then some 10 else if mMet (l.take i) (nth l i).field = false then some 9 else mCheckF (l.take (i + 1)) (l.drop (i + 1)) := by
  rw [drop_nth h, mCheckF, take_nth h]
theorem mCheck_end (l : List Oxm) : mCheckF (l.take l.length) (l.drop l.length) = none := by rw [List.drop_length]; rfl
/-- some of the first i -/
theorem any_take {α : Type} [Inhabited α] (p : α → Bool) {l : List α} {i : Nat} (h : i < l.length) : (l.take (i + 1)).any p = ((l.take i).any p || p (nth l i)) := by
  rw [take_nth h, List.any_append]; simp
theorem any_take_all {α : Type} (p : α → Bool) (l : List α) : (l.take l.length).any p = l.any p := by rw [List.take_length]
theorem all_false {α : Type} [Inhabited α] {p : α → Bool} {l : List α} {i : Nat} (h : i < l.length) (hp : p (nth l i) = false) : l.all p = false := by
  rw [List.all_eq_false]; exact ⟨nth l i, nth_mem h, by simp [hp]⟩
theorem all_true {α : Type} [Inhabited α] {p : α → Bool} {l : List α} (h : ∀ j, j < l.length → p (nth l j) = true) : l.all p = true := by
  rw [List.all_eq_true]; intro x hx
  obtain ⟨j, hj, rfl⟩ := mem_nth hx
  exact h j hj
theorem any_false' {α : Type} [Inhabited α] {p : α → Bool} {l : List α} (h : ∀ j, j < l.length → p (nth l j) = false) : l.any p = false := by
  rw [List.any_eq_false]; intro x hx
  obtain ⟨j, hj, rfl⟩ := mem_nth hx
  simp [h j hj]
theorem any_true' {α : Type} [Inhabited α] {p : α → Bool} {l : List α} {i : Nat} (h : i < l.length) (hp : p (nth l i) = true) : l.any p = true := by
  rw [List.any_eq_true]; exact ⟨nth l i, nth_mem h, hp⟩
theorem mMet_false {l : List Oxm} {f : Int} {i : Nat} (h : i < (needs f).length) (hp : (l.any fun o => mGives o (nth (needs f) i)) = false) : mMet l f = false := all_false (p := fun n => l.any fun o => mGives o n) h hp
theorem mMet_true {l : List Oxm} {f : Int} (h : ∀ j, j < (needs f).length → (l.any fun o => mGives o (nth (needs f) j)) = true) : mMet l f = true := all_true (p := fun n => l.any fun o => mGives o n) h
theorem needs_small (f : Int) : (needs f).length ≤ 2 ∧ ∀ n, n ∈ needs f → n.values.length ≤ 2 := by
  have h : ∀ L : List Need, L ∈ [[], [⟨5, []⟩], [nEth [0x800#64, 0x86dd#64]], [nEth [0x800#64]], [nEth [0x800#64, 0x86dd#64], nProto 6#64], [nEth [0x800#64, 0x86dd#64], nProto 17#64], [nEth [0x800#64], nProto 1#64], [nEth [0x806#64]], [nEth [0x86dd#64]], [nEth [0x8847#64, 0x8848#64]]] → L.length ≤ 2 ∧ ∀ n, n ∈ L → n.values.length ≤ 2 := by
    intro L hL
    simp only [List.mem_cons, List.not_mem_nil, or_false] at hL
    rcases hL with rfl | rfl | rfl | rfl | rfl | rfl | rfl | rfl | rfl | rfl <;> decide
  refine h _ ?_
  unfold needs
  repeat' split
  all_goals decide
theorem seven_bit : ∀ i : Fin 64, (7#64).getLsbD i.val = decide (i.val < 3) := by decide +kernel
theorem and_not7 (x : BitVec 64) : x &&& ~~~7#64 = (x >>> 3) <<< 3 := by
  refine BitVec.eq_of_getLsbD_eq fun i hi => ?_
  have h7 := seven_bit ⟨i, hi⟩
  simp only at h7
  rw [BitVec.getLsbD_and, BitVec.getLsbD_not, h7, BitVec.getLsbD_shiftLeft, BitVec.getLsbD_ushiftRight]
  by_cases h3 : i < 3
  · simp [h3]
  · have e : 3 + (i - 3) = i := by omega
    simp [h3, hi, e]
theorem bNot7_big (n : Nat) (h : n < 4611686018427387904) : bNot .i64 (n : Int) 7 = ((n / 8 * 8 : Nat) : Int) := by
  unfold bNot
  show IntKind.wrap .i64 (((BitVec.ofInt 64 (n : Int) &&& ~~~(BitVec.ofInt 64 7)).toNat : Nat) : Int) = _
  rw [show BitVec.ofInt 64 (n : Int) = BitVec.ofNat 64 n from by rw [← BitVec.ofInt_natCast], show BitVec.ofInt 64 7 = 7#64 from rfl, and_not7, BitVec.toNat_shiftLeft, BitVec.toNat_ushiftRight, BitVec.toNat_ofNat, Nat.mod_eq_of_lt (by omega),
    Nat.shiftLeft_eq, Nat.shiftRight_eq_div_pow, Nat.mod_eq_of_lt (by omega)]
  exact wrap_i64 (by omega) (by omega)
theorem mPad_bit (n : Nat) (h : n < 1000000000) : bNot .i64 (IntKind.i64.wrap ((n : Int) + 7)) 7 = ((mPad n : Nat) : Int) := by
  rw [wrap_i64 (by omega) (by omega), show (n : Int) + 7 = ((n + 7 : Nat) : Int) by omega, bNot7_big _ (by omega)]; rfl
end Go.Proofs.YtiifjagnhnchoaaGreat
end

section
set_option linter.unusedVariables false
set_option linter.unusedSimpArgs false
namespace Go.Proofs.YtiifjagnhnchoaaGreat
open Go Go.AI Go.Proofs
attribute [local irreducible] FnP FnO FnB FnT FnSeq WK RunQ RunQW RunX RunXW

@[simp] theorem GroupMod.len (x : GroupMod) : x.enc.length = 4 := rfl
@[simp] theorem GroupMod.cl (x : GroupMod) : ClL x.enc = true := by simp [GroupMod.enc, ClL, Cl]
@[simp] theorem GroupMod.take (x : GroupMod) : x.enc.take 4 = x.enc := rfl
end Go.Proofs.YtiifjagnhnchoaaGreat
end
