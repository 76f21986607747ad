/- Actions in a row: read. -/
import Derived.Test.YtcccfbjkcahgfaaGreatAf
import Derived.Test.YtcccfbjkcahgfaaGreatWk5
import Derived.Test.YtcccfbjkcahgfaaGreatWk2
import Derived.Test.YtcccfbjkcahgfaaGreatAe
import Derived.Test.YtcccfbjkcahgfaaGreatDa
set_option linter.all false
set_option linter.unnecessarySimpa false
namespace Go.Proofs.YtcccfbjkcahgfaaGreat
open Go Go.AI Go.Proofs
attribute [local irreducible] FnP FnO FnB FnT FnSeq WK RunQ RunQW RunX RunXW
def acGlue (acc : List Action) (r : List Action × Option Int) : List Action × Option Int := match r.2 with | none => (acc ++ r.1, none) | some c => ([], some c)
def acDecF : Nat → List (BitVec 8) → List Action × Option Int
 | 0, _ => ([], none)
 | f + 1, b => if b.length = 0 then ([], none) else match (aDec b).2.2 with
   | some c => ([], some c)
   | none => acGlue [(aDec b).1] (acDecF f (b.drop (aDec b).2.1.toNat))
def acDec (b : List (BitVec 8)) : List Action × Option Int :=
 if (acDecF b.length b).2 = none ∧ 100 < (acDecF b.length b).1.length then ([], some 7) else acDecF b.length b
theorem acGlue_glue (a b : List Action) (r : List Action × Option Int) : acGlue a (acGlue b r) = acGlue (a ++ b) r := by
 obtain ⟨l, c⟩ := r
 cases c <;> simp [acGlue]
theorem acGlue_nil (r : List Action × Option Int) (h : ∀ c, r.2 = some c → r.1 = []) : acGlue [] r = r := by
 obtain ⟨l, c⟩ := r
 cases c with
 | none => simp [acGlue]
 | some c => simp only at h; rw [h c rfl]; rfl
theorem acDecF_bad : ∀ (f : Nat) (b : List (BitVec 8)) (c : Int), (acDecF f b).2 = some c → (acDecF f b).1 = []
 | 0, b, c, h => rfl
 | f + 1, b, c, h => by
   rw [acDecF] at h ⊢
   split
   · rfl
   rename_i h0
   rw [if_neg h0] at h
   cases hd : (aDec b).2.2 with
   | some c => rfl
   | none =>
     simp only [hd] at h ⊢
     cases hr : (acDecF f (b.drop (aDec b).2.1.toNat)).2 with
     | none => simp [acGlue, hr] at h
     | some c => simp [acGlue, hr]
theorem acDecF_stop {f : Nat} {b : List (BitVec 8)} (h : b.length = 0) : acDecF f b = ([], none) := by
 cases f with
 | zero => rfl
 | succ f => rw [acDecF, if_pos h]
structure AcAt (b : List (BitVec 8)) (x : Nat × Nat × List Action) : Prop where
 le : x.2.1 ≤ b.length
 fuel : b.length - x.2.1 ≤ x.1
 eq : acDecF b.length b = acGlue x.2.2 (acDecF x.1 (b.drop x.2.1))
 small : x.2.2.length * 8 ≤ x.2.1
theorem AcAt.start (b : List (BitVec 8)) : AcAt b (b.length, 0, []) := ⟨Nat.zero_le _, Nat.le_refl _, (acGlue_nil _ (acDecF_bad _ _)).symm, Nat.le_refl _⟩
theorem AcAt.bad {b : List (BitVec 8)} {x : Nat × Nat × List Action} (h : AcAt b x) (hp : x.2.1 < b.length) {y : Action} {n c : Int} (hd : aDec (b.drop x.2.1) = (y, n, some c)) : acDec b = ([], some c) := by
 have e : acDecF b.length b = ([], some c) := by
   rw [h.eq]
   have hf : ∃ f, x.1 = f + 1 := ⟨x.1 - 1, by have := h.fuel; omega⟩
   obtain ⟨f, hf⟩ := hf
   rw [hf, acDecF, if_neg (by rw [List.length_drop]; omega), hd]; rfl
 unfold acDec; rw [e]; rfl
theorem AcAt.next {b : List (BitVec 8)} {x : Nat × Nat × List Action} (h : AcAt b x) (hp : x.2.1 < b.length) {y : Action} {n : Int} (hd : aDec (b.drop x.2.1) = (y, n, none)) : ∃ k : Nat, n = k ∧ x.2.1 + k ≤ b.length ∧ 0 < k ∧
   AcAt b (x.1 - 1, x.2.1 + k, x.2.2 ++ [y]) := by
 obtain ⟨_, k, hk, h8, hkl, _, _⟩ := aDec_back hd
 rw [List.length_drop] at hkl
 have hf : ∃ f, x.1 = f + 1 := ⟨x.1 - 1, by have := h.fuel; omega⟩
 obtain ⟨f, hf⟩ := hf
 refine ⟨k, hk, by omega, by omega, ⟨by simp only; omega, by have := h.fuel; simp only; omega, ?_, by have := h.small; simp only [List.length_append, List.length_singleton]; omega⟩⟩
 rw [h.eq, hf, acDecF, if_neg (by rw [List.length_drop]; omega), hd]
 simp only [Nat.add_sub_cancel]
 rw [acGlue_glue, hk, Int.toNat_natCast, List.drop_drop]
theorem AcAt.stop {b : List (BitVec 8)} {x : Nat × Nat × List Action} (h : AcAt b x) (hp : ¬ x.2.1 < b.length) : acDecF b.length b = (x.2.2, none) := by
 rw [h.eq, acDecF_stop (by rw [List.length_drop]; omega)]; simp [acGlue]
set_option maxHeartbeats 4000000 in
theorem acdec_c (b : List (BitVec 8)) (hb : b.length ≤ 1000000) : FnT Tryz.prog 168 [byS b] (acDec b).1.length 11 (actL (acDec b).1) [.agg (aF (acDec b).2)] := by
 unfold byS
 refine FnT.intro Tryz.func168 rfl rfl fun G w => ?_
 repeat' (first | apply WK.s | apply WK.b | (refine hQ.h _ _ ?_; clear hQ hA) | (refine WK.rH Tryz.ntmps168 (by kernel_rfl) ?_; intro A hA Q hQ; simp [*]))
 refine WK.ghost (Ghost.own 4 900 11 rfl rfl) ?_
 refine WK.lI (fun n => if n = 60 then 900 else n) (fun x : Nat × Nat × List Action => (⟨(upd (upd (upd (upd J 0 (.sl false (b.length - x.2.1) (byL (b.drop x.2.1)))) 2 (.sl true 0 [])) 3 (.ptr 1 0)) 4 (.msl 60 0 x.2.2.length)), (upd (upd B0 1 (.var (aF none))) 60 (.buf 11 (actL x.2.2))), 0⟩ : St)) (fun x => AcAt b x) (fun x => b.length - x.2.1) ((b.length, 0, [])) (by repeat (first | exact TmW.nil | refine TmW.upd ?_ (by simp (maxDischargeDepth := 120) [aF]))) (by repeat (first | exact BxW.nil | refine BxW.upd ?_ (by simp (maxDischargeDepth := 120) [aF]))) (by first | exact InjW.id | exact InjW.nil | exact InjW.one | exact InjW.two (by simp) | exact InjW.three (by simp) (by simp) (by simp)) (AcAt.start b) (fun i hi IH => ?_)
 obtain ⟨f, p, acc⟩ := i
 have hsm := hi.small
 simp only at hsm hi ⊢
 by_cases h1 : p < b.length
 · have hc := adec_c (b.drop p) (by rw [List.length_drop]; omega)
   obtain ⟨⟨y, n, c⟩, hd⟩ : ∃ R, aDec (b.drop p) = R := ⟨_, rfl⟩
   rw [hd] at hc
   unfold byS at hc
   rw [List.length_drop] at hc
   have hpos : 0 < b.length - p := by omega
   have hpos' : (0 : Int) < ((b.length - p : Nat) : Int) := by omega
   obtain ⟨L, hL⟩ : ∃ L, b.length - p = L := ⟨_, rfl⟩
   cases c with
   | some c =>
     have e := AcAt.bad hi h1 hd
     rw [hL] at hc hpos hpos' ⊢
     rw [e]
     clear hL
     repeat' (first | apply WK.s | apply WK.b | apply WK.k | refine WK.cT rfl ?_ | (refine hQ.h _ _ ?_; clear hQ hA) | (refine WK.rH Tryz.ntmps168 (by kernel_rfl) ?_; intro A hA Q hQ; simp [aRes, aF, *]) | (refine WK.rX (by kernel_rfl) Tryz.ntmps168 (by kernel_rfl) ?_; intro A hA Q hQ; simp [aRes, aF, *]) | (refine hQ.h _ _ _ (by decide +kernel) ?_; clear hQ hA) | (refine RunQ.k rfl rfl rfl rfl rfl ?_ (hc) ?_ ?_ <;> simp (maxDischargeDepth := 120) [aRes, aF, *] <;> refine ⟨?_⟩))
     refine WK.ghost (Ghost.own 2 901 11 rfl rfl) ?_
     refine WK.retT2 Tryz.func168 ?_ ?_ ?_ <;> simp (maxDischargeDepth := 120) [Tryz.results168, actL_nil, aF]
   | none =>
     obtain ⟨k, rfl, hk1, hk2, hn⟩ := AcAt.next hi h1 hd
     simp only at hk1 hn
     have hkL : (k : Int) ≤ ((b.length - p : Nat) : Int) := by omega
     have hdd : ((byL (b.drop p)).drop k).take (b.length - p - k) = byL (b.drop (p + k)) := by
       rw [byL_drop, List.drop_drop]; exact by_full _ _ (by rw [List.length_drop]; omega)
     have hll : b.length - (p + k) = b.length - p - k := by omega
     have hbd : (acc.length + 1) * 88 ≤ 140737488355328 := by omega
     have hsn : actL acc ++ y.enc = actL (acc ++ [y]) := by rw [actL_app]; simp [actL]
     rw [hL] at hc hpos hpos' hkL hdd hll ⊢
     clear hL hd
     repeat' (first | apply WK.s | apply WK.b | apply WK.n | apply WK.k | refine WK.cT rfl ?_ | refine WK.cF rfl ?_ | (refine hQ.h _ _ ?_; clear hQ hA) | (refine WK.rH Tryz.ntmps168 (by kernel_rfl) ?_; intro A hA Q hQ; simp [aRes, aF, *]) | (refine WK.rX (by kernel_rfl) Tryz.ntmps168 (by kernel_rfl) ?_; intro A hA Q hQ; simp [aRes, aF, *]) | (refine hQ.h _ _ _ (by decide +kernel) ?_; clear hQ hA) | (refine RunX.append 902 appAct rfl rfl rfl rfl rfl rfl rfl rfl ?_ ?_ ?_ ?_ ?_; (focus (first | omega | (simp [aRes, aF, *]; done); done)); (focus (first | omega | (simp [aRes, aF, *]; done); done)); (focus (first | omega | (simp [aRes, aF, *]; done); done)); (focus (first | omega | (simp [aRes, aF, *]; done); done)); refine RunX.e ?_; simp [aRes, aF, *]) | (refine RunQ.k rfl rfl rfl rfl rfl ?_ (hc) ?_ ?_ <;> simp (maxDischargeDepth := 120) [aRes, aF, *] <;> refine ⟨?_⟩))
     refine WK.next (fun n => if n = 60 then 902 else n) (IH ((f - 1, p + k, acc ++ [y])) (hn) (by first | omega | (dsimp only; omega))) (by repeat (first | exact TmW.nil | refine TmW.upd ?_ (by simp (maxDischargeDepth := 120) [hsn, hll, aF]))) (by repeat (first | exact BxW.nil | refine BxW.upd ?_ (by simp (maxDischargeDepth := 120) [hsn, hll, aF]))) (by first | exact InjW.id | exact InjW.nil | exact InjW.one | exact InjW.two (by simp) | exact InjW.three (by simp) (by simp) (by simp))
 · have hstop := AcAt.stop hi h1
   simp only at hstop
   have hpos : ¬ 0 < b.length - p := by omega
   have hpos' : ¬ (0 : Int) < ((b.length - p : Nat) : Int) := by omega
   obtain ⟨L, hL⟩ : ∃ L, b.length - p = L := ⟨_, rfl⟩
   rw [hL] at hpos hpos' ⊢
   clear hL
   by_cases h100 : 100 < acc.length
   · have e : acDec b = ([], some 7) := by unfold acDec; rw [hstop, if_pos ⟨rfl, h100⟩]
     have h100' : (100 : Int) < acc.length := by omega
     rw [e]
     repeat' (first | apply WK.s | refine WK.exit rfl ?_ | refine WK.cT rfl ?_ | refine WK.cF rfl ?_ | (refine hQ.h _ _ ?_; clear hQ hA) | (refine WK.rH Tryz.ntmps168 (by kernel_rfl) ?_; intro A hA Q hQ; simp [aF, *]))
     refine WK.ghost (Ghost.own 2 901 11 rfl rfl) ?_
     refine WK.retT2 Tryz.func168 ?_ ?_ ?_ <;> simp (maxDischargeDepth := 120) [Tryz.results168, actL_nil, aF]
   · have e : acDec b = (acc, none) := by unfold acDec; rw [hstop, if_neg (fun h => h100 h.2)]
     have h100' : ¬ (100 : Int) < acc.length := by omega
     rw [e]
     repeat' (first | apply WK.s | apply WK.k | refine WK.exit rfl ?_ | refine WK.cF rfl ?_ | (refine hQ.h _ _ ?_; clear hQ hA) | (refine WK.rH Tryz.ntmps168 (by kernel_rfl) ?_; intro A hA Q hQ; simp [aF, *]) | (refine WK.retT2 Tryz.func168 ?_ ?_ ?_ <;> simp (maxDischargeDepth := 120) [Tryz.results168, aF, *]))

theorem acencP_c (l : List Action) (hl : l.length ≤ 1000000) : FnP Tryz.prog 242 [actS l] (.tup [byS (acEnc l).1, .int .i64 (acEnc l).2]) := by
 have h := (acenc_c l hl).toP (by simp [byL_take]) (by rfl)
 rwa [Nat.mul_one, by_full _ _ rfl] at h
theorem acdecP_c (b : List (BitVec 8)) (hb : b.length ≤ 1000000) : FnP Tryz.prog 168 [byS b] (.tup [actS (acDec b).1, .agg (aF (acDec b).2)]) := by
 have h := (acdec_c b hb).toP (by simp) (by simp [ClL, Cl])
 rwa [actL_take] at h
theorem acEnc_len (l : List Action) : (acEnc l).1.length ≤ 6000 := by
 have h := acFlat_len l
 unfold acEnc
 split
 · simp
 split
 · simp only; omega
 · simp
end Go.Proofs.YtcccfbjkcahgfaaGreat

namespace Go.Proofs.YtcccfbjkcahgfaaGreat
open Go Go.AI Go.Proofs
theorem acFlat_cons (a : Action) (l : List Action) : acFlat (a :: l) = (aEnc a).1 ++ acFlat l := rfl
theorem acEnc_ok {l : List Action} (h1 : l.length ≤ 100) (h2 : l.all Action.right = true) : acEnc l = (acFlat l, 0) := by
 unfold acEnc; rw [if_neg (by omega), if_pos h2]
theorem acDecF_back : ∀ (f : Nat) (b : List (BitVec 8)), b.length ≤ f → (acDecF f b).2 = none → (∀ a, a ∈ (acDecF f b).1 → Action.right a = true) ∧ acFlat (acDecF f b).1 = b
 | 0, b, hb, _ => by
   have : b = [] := List.eq_nil_of_length_eq_zero (by omega)
   subst this
   exact ⟨fun a ha => by simp [acDecF] at ha, rfl⟩
 | f + 1, b, hb, h => by
   rw [acDecF] at h ⊢
   by_cases h0 : b.length = 0
   · rw [if_pos h0] at *
     have : b = [] := List.eq_nil_of_length_eq_zero h0
     subst this
     exact ⟨fun a ha => by simp at ha, rfl⟩
   · rw [if_neg h0] at h ⊢
     obtain ⟨y, n, c, hd⟩ : ∃ y n c, aDec b = (y, n, c) := ⟨_, _, _, rfl⟩
     rw [hd] at h ⊢
     cases c with
     | some c => simp at h
     | none =>
       obtain ⟨hr, k, hk, h8, hkl, _, he⟩ := aDec_back hd
       subst hk
       simp only [Int.toNat_natCast] at h ⊢
       obtain ⟨R, hR⟩ : ∃ R, acDecF f (b.drop k) = R := ⟨_, rfl⟩
       rw [hR] at h ⊢
       obtain ⟨m, c⟩ := R
       cases c with
       | some c => simp [acGlue] at h
       | none =>
         obtain ⟨h1, h2⟩ := acDecF_back f (b.drop k) (by rw [List.length_drop]; omega) (by rw [hR])
         rw [hR] at h1 h2
         simp only at h1 h2
         refine ⟨fun a ha => ?_, ?_⟩
         · simp only [acGlue, List.cons_append, List.nil_append, List.mem_cons] at ha
           rcases ha with rfl | ha
           · exact hr
           · exact h1 a ha
         · simp only [acGlue, List.cons_append, List.nil_append]
           rw [acFlat_cons, he, h2, List.take_append_drop]
theorem acDec_back {b : List (BitVec 8)} {k : List Action} (h : acDec b = (k, none)) : acEnc k = (b, 0) := by
 unfold acDec at h
 split at h
 · cases h
 · rename_i hn
   obtain ⟨h1, h2⟩ := acDecF_back b.length b (Nat.le_refl _) (by rw [h])
   rw [h] at h1 h2 hn
   simp only at h1 h2 hn
   rw [acEnc_ok (by simp only [true_and] at hn; omega) (List.all_eq_true.2 h1), h2]
theorem acDec_bad {b : List (BitVec 8)} {k : List Action} {c : Int} (h : acDec b = (k, some c)) : k = [] := by
 unfold acDec at h
 split at h
 · cases h; rfl
 · have := acDecF_bad b.length b c (by rw [h])
   rw [h] at this
   exact this
end Go.Proofs.YtcccfbjkcahgfaaGreat

section
namespace Go.Proofs.YtcccfbjkcahgfaaGreat
open Go Go.AI Go.Proofs
section
variable {α φ : Type}
def rwGlue (acc : List α) (r : List α × Option φ) : List α × Option φ := match r.2 with | none => (acc ++ r.1, none) | some c => ([], some c)
def rwF (rd : List (BitVec 8) → α × Int × Option φ) : Nat → List (BitVec 8) → List α × Option φ
 | 0, _ => ([], none)
 | f + 1, b => if b.length = 0 then ([], none) else match (rd b).2.2 with
   | some c => ([], some c)
   | none => rwGlue [(rd b).1] (rwF rd f (b.drop (rd b).2.1.toNat))
def rwDec (rd : List (BitVec 8) → α × Int × Option φ) (b : List (BitVec 8)) : List α × Option φ := rwF rd b.length b
theorem rwGlue_glue (a b : List α) (r : List α × Option φ) : rwGlue a (rwGlue b r) = rwGlue (a ++ b) r := by
 obtain ⟨l, c⟩ := r
 cases c <;> simp [rwGlue]
theorem rwGlue_nil (r : List α × Option φ) (h : ∀ c, r.2 = some c → r.1 = []) : rwGlue [] r = r := by
 obtain ⟨l, c⟩ := r
 cases c with
 | none => simp [rwGlue]
 | some c => simp only at h; rw [h c rfl]; rfl
theorem rwF_bad {rd : List (BitVec 8) → α × Int × Option φ} : ∀ (f : Nat) (b : List (BitVec 8)) (c : φ), (rwF rd f b).2 = some c → (rwF rd f b).1 = []
 | 0, b, c, h => rfl
 | f + 1, b, c, h => by
   rw [rwF] at h ⊢
   split
   · rfl
   rename_i h0
   rw [if_neg h0] at h
   cases hd : (rd b).2.2 with
   | some c => rfl
   | none =>
     simp only [hd] at h ⊢
     cases hr : (rwF rd f (b.drop (rd b).2.1.toNat)).2 with
     | none => simp [rwGlue, hr] at h
     | some c => simp [rwGlue, hr]
theorem rwF_stop {rd : List (BitVec 8) → α × Int × Option φ} {f : Nat} {b : List (BitVec 8)} (h : b.length = 0) : rwF rd f b = ([], none) := by
 cases f with
 | zero => rfl
 | succ f => rw [rwF, if_pos h]
def RdKeeps (rd : List (BitVec 8) → α × Int × Option φ) (m : Nat) : Prop := ∀ b y n, rd b = (y, n, none) → ∃ k : Nat, n = (k : Int) ∧ m ≤ k ∧ k ≤ b.length
structure RwAt (rd : List (BitVec 8) → α × Int × Option φ) (m : Nat) (b : List (BitVec 8)) (x : Nat × Nat × List α) : Prop where
 le : x.2.1 ≤ b.length
 fuel : b.length - x.2.1 ≤ x.1
 eq : rwDec rd b = rwGlue x.2.2 (rwF rd x.1 (b.drop x.2.1))
 small : x.2.2.length * m ≤ x.2.1
theorem RwAt.start (rd : List (BitVec 8) → α × Int × Option φ) (m : Nat) (b : List (BitVec 8)) : RwAt rd m b (b.length, 0, []) := ⟨Nat.zero_le _, Nat.le_refl _, (rwGlue_nil _ (rwF_bad _ _)).symm, by simp⟩
theorem RwAt.bad {rd : List (BitVec 8) → α × Int × Option φ} {m : Nat} {b : List (BitVec 8)} {x : Nat × Nat × List α} (h : RwAt rd m b x) (hp : x.2.1 < b.length) {y : α} {n : Int} {c : φ} (hd : rd (b.drop x.2.1) = (y, n, some c)) : rwDec rd b = ([], some c) := by
 rw [h.eq]
 obtain ⟨f, hf⟩ : ∃ f, x.1 = f + 1 := ⟨x.1 - 1, by have := h.fuel; omega⟩
 rw [hf, rwF, if_neg (by rw [List.length_drop]; omega), hd]; rfl
theorem RwAt.next {rd : List (BitVec 8) → α × Int × Option φ} {m : Nat} (hm : 0 < m) (hk : RdKeeps rd m) {b : List (BitVec 8)} {x : Nat × Nat × List α} (h : RwAt rd m b x) (hp : x.2.1 < b.length) {y : α} {n : Int} (hd : rd (b.drop x.2.1) = (y, n, none)) : ∃ k : Nat, n = k ∧ x.2.1 + k ≤ b.length ∧ 0 < k ∧
   RwAt rd m b (x.1 - 1, x.2.1 + k, x.2.2 ++ [y]) := by
 obtain ⟨k, hk, h8, hkl⟩ := hk _ _ _ hd
 rw [List.length_drop] at hkl
 obtain ⟨f, hf⟩ : ∃ f, x.1 = f + 1 := ⟨x.1 - 1, by have := h.fuel; omega⟩
 refine ⟨k, hk, by omega, by omega, ⟨by simp only; omega, by have := h.fuel; simp only; omega, ?_, ?_⟩⟩
 · rw [h.eq, hf, rwF, if_neg (by rw [List.length_drop]; omega), hd]
   simp only [Nat.add_sub_cancel]
   rw [rwGlue_glue, hk, Int.toNat_natCast, List.drop_drop]
 · have := h.small
   simp only [List.length_append, List.length_singleton, Nat.add_mul, Nat.one_mul]; omega
theorem RwAt.stop {rd : List (BitVec 8) → α × Int × Option φ} {m : Nat} {b : List (BitVec 8)} {x : Nat × Nat × List α} (h : RwAt rd m b x) (hp : ¬ x.2.1 < b.length) : rwDec rd b = (x.2.2, none) := by
 rw [h.eq, rwF_stop (by rw [List.length_drop]; omega)]; simp [rwGlue]
def rwFlat (en : α → List (BitVec 8)) (l : List α) : List (BitVec 8) := l.flatMap en
theorem rwFlat_app (en : α → List (BitVec 8)) (l m : List α) : rwFlat en (l ++ m) = rwFlat en l ++ rwFlat en m := by unfold rwFlat; rw [List.flatMap_append]
theorem rwF_back {rd : List (BitVec 8) → α × Int × Option φ} {en : α → List (BitVec 8)} {ok : α → Prop} (hb : ∀ b y n, rd b = (y, n, none) → ok y ∧ ∃ k : Nat, n = (k : Int) ∧ 0 < k ∧ k ≤ b.length ∧ en y = b.take k) :
   ∀ (f : Nat) (b : List (BitVec 8)), b.length ≤ f → (rwF rd f b).2 = none → (∀ a, a ∈ (rwF rd f b).1 → ok a) ∧ rwFlat en (rwF rd f b).1 = b
 | 0, b, hl, _ => by
   have : b = [] := List.eq_nil_of_length_eq_zero (by omega)
   subst this
   exact ⟨fun a ha => by simp [rwF] at ha, rfl⟩
 | f + 1, b, hl, h => by
   rw [rwF] at h ⊢
   by_cases h0 : b.length = 0
   · rw [if_pos h0] at *
     have : b = [] := List.eq_nil_of_length_eq_zero h0
     subst this
     exact ⟨fun a ha => by simp at ha, rfl⟩
   · rw [if_neg h0] at h ⊢
     obtain ⟨y, n, c, hd⟩ : ∃ y n c, rd b = (y, n, c) := ⟨_, _, _, rfl⟩
     rw [hd] at h ⊢
     cases c with
     | some c => simp at h
     | none =>
       obtain ⟨hr, k, hk, h8, hkl, he⟩ := hb _ _ _ hd
       subst hk
       simp only [Int.toNat_natCast] at h ⊢
       obtain ⟨R, hR⟩ : ∃ R, rwF rd f (b.drop k) = R := ⟨_, rfl⟩
       rw [hR] at h ⊢
       obtain ⟨m, c⟩ := R
       cases c with
       | some c => simp [rwGlue] at h
       | none =>
         obtain ⟨h1, h2⟩ := rwF_back hb f (b.drop k) (by rw [List.length_drop]; omega) (by rw [hR])
         rw [hR] at h1 h2
         simp only at h1 h2
         refine ⟨fun a ha => ?_, ?_⟩
         · simp only [rwGlue, List.cons_append, List.nil_append, List.mem_cons] at ha
           rcases ha with rfl | ha
           · exact hr
           · exact h1 a ha
         · simp only [rwGlue, List.cons_append, List.nil_append]
           show en y ++ rwFlat en m = b
           rw [he, h2, List.take_append_drop]
theorem rwDec_back {rd : List (BitVec 8) → α × Int × Option φ} {en : α → List (BitVec 8)} {ok : α → Prop} (hb : ∀ b y n, rd b = (y, n, none) → ok y ∧ ∃ k : Nat, n = (k : Int) ∧ 0 < k ∧ k ≤ b.length ∧ en y = b.take k) {b : List (BitVec 8)} {l : List α} (h : rwDec rd b = (l, none)) : (∀ a, a ∈ l → ok a) ∧ rwFlat en l = b := by
 have := rwF_back hb b.length b (Nat.le_refl _) (by show (rwDec rd b).2 = none; rw [h])
 change (∀ a, a ∈ (rwDec rd b).1 → ok a) ∧ rwFlat en (rwDec rd b).1 = b at this
 rwa [h] at this
end
end Go.Proofs.YtcccfbjkcahgfaaGreat
end

namespace Go.Proofs.YtcccfbjkcahgfaaGreat
open Go Go.AI Go.Proofs
structure Bucket where
 weight : Int
 watch : Int
 wgroup : Int
 acts : List Action
 deriving DecidableEq, Inhabited
def Bucket.enc (x : Bucket) : List AV := [.int .i64 x.weight, .int .i64 x.watch, .int .i64 x.wgroup, .sl false x.acts.length (actL x.acts)]
@[simp] theorem Bucket.len (x : Bucket) : x.enc.length = 4 := rfl
@[simp] theorem Bucket.cl (x : Bucket) : ClL x.enc = true := by simp [Bucket.enc, ClL, Cl]
def bukL (l : List Bucket) : List AV := l.flatMap Bucket.enc
def bukS (l : List Bucket) : AV := .sl false l.length (bukL l)
@[simp] theorem bukL_len (l : List Bucket) : (bukL l).length = l.length * 4 := fm_length Bucket.len l
@[simp] theorem bukL_cl (l : List Bucket) : ClL (bukL l) = true := ClL_flatMap _ Bucket.cl l
theorem buk_sub (l : List Bucket) (i : Nat) (h : i < l.length) : ((bukL l).drop (i * 4)).take 4 = (nth l i).enc := fm_nth Bucket.len l i h
theorem buk_load (l : List Bucket) (i : Nat) (h : i < l.length) : ((bukL l).drop (i * 4)).take 4 = (nth l i).enc ∧ 4 ≤ l.length * 4 - i * 4 := ⟨buk_sub l i h, by omega⟩
@[simp] theorem bukS_cl (l : List Bucket) : Cl (bukS l) = true := by simp [bukS, Cl]
@[simp] theorem bukL_take (l : List Bucket) : (bukL l).take (l.length * 4) = bukL l := List.take_of_length_le (by simp)
@[simp] theorem bukL_nil : bukL [] = [] := rfl
theorem bukL_app (l m : List Bucket) : bukL (l ++ m) = bukL l ++ bukL m := List.flatMap_append
@[simp] theorem Bucket.take (x : Bucket) : x.enc.take 4 = x.enc := rfl
@[simp] theorem Bucket.drop (x : Bucket) : x.enc.drop 4 = [] := rfl
theorem bukL_one (x : Bucket) : bukL [x] = x.enc := by simp [bukL]
theorem bukL_snoc (l : List Bucket) (x : Bucket) : bukL l ++ x.enc = bukL (l ++ [x]) := by rw [bukL_app, bukL_one]
theorem buk_get (l : List Bucket) (i k : Nat) (h : i < l.length) (hk : k < 4) (h' : i * 4 + k < (bukL l).length) : (bukL l)[i * 4 + k] = ((nth l i).enc)[k]'(by rw [Bucket.len]; exact hk) := fm_get Bucket.len l i k h hk h'
def bkRight (x : Bucket) : Bool := (acEnc x.acts).2 == 0 && (numOk x.weight 2 && (numOk x.watch 4 && numOk x.wgroup 4))
def bkOne (x : Bucket) : List (BitVec 8) := beN (16 + (acEnc x.acts).1.length : Nat) 2 ++ (beN x.weight 2 ++ (beN x.watch 4 ++ (beN x.wgroup 4 ++ (List.replicate 4 0#8 ++ (acEnc x.acts).1))))
def buk0 : Bucket := ⟨0, 0, 0, []⟩
def bkRead (b : List (BitVec 8)) : Bucket × Int × Option (Int × Int) :=
 if b.length < 16 ∨ (getN b 0 2).1 < 16 ∨ ¬ (getN b 0 2).1 % 8 = 0 ∨ (b.length : Int) < (getN b 0 2).1 ∨ allZ ((b.drop 12).take 4) = false then (buk0, 0, some (6, 12))
 else (⟨(getN b 2 2).1, (getN b 4 4).1, (getN b 8 4).1, (acDec ((b.drop 16).take ((getN b 0 2).1.toNat - 16))).1⟩, (getN b 0 2).1, (acDec ((b.drop 16).take ((getN b 0 2).1.toNat - 16))).2.map fun c => (2, c))
theorem bkOne_len (x : Bucket) : (bkOne x).length = 16 + (acEnc x.acts).1.length := by
 unfold bkOne; simp [beN_len]; omega
theorem getN_ok {b : List (BitVec 8)} {p s : Nat} (h : p + s ≤ b.length) : numOk (getN b p s).1 s = true ∧ beN (getN b p s).1 s = (b.drop p).take s := by
 have hl : ((b.drop p).take s).length = s := by rw [List.length_take, List.length_drop]; omega
 rw [getN_val h]
 exact ⟨numOk_valN hl, beN_valN s _ hl⟩
theorem bkRead_back {b : List (BitVec 8)} {y : Bucket} {n : Int} (h : bkRead b = (y, n, none)) : bkRight y = true ∧ ∃ k : Nat, n = (k : Int) ∧ 16 ≤ k ∧ k ≤ b.length ∧ k % 8 = 0 ∧ bkOne y = b.take k := by
 unfold bkRead at h
 split at h
 · cases h
 rename_i hc
 have c1 : ¬ b.length < 16 := fun h => hc (.inl h)
 have c2 : ¬ (getN b 0 2).1 < 16 := fun h => hc (.inr (.inl h))
 have c3 : (getN b 0 2).1 % 8 = 0 := Decidable.byContradiction fun h => hc (.inr (.inr (.inl h)))
 have c4 : ¬ (b.length : Int) < (getN b 0 2).1 := fun h => hc (.inr (.inr (.inr (.inl h))))
 have c5 : allZ ((b.drop 12).take 4) = true := by
   cases hz : allZ ((b.drop 12).take 4)
   · exact absurd hz fun h => hc (.inr (.inr (.inr (.inr h))))
   · rfl
 clear hc
 obtain ⟨k, hk⟩ : ∃ k : Nat, (getN b 0 2).1 = k := ⟨(getN b 0 2).1.toNat, by omega⟩
 obtain ⟨o0, e0⟩ := getN_ok (b := b) (p := 0) (s := 2) (by omega)
 obtain ⟨o1, e1⟩ := getN_ok (b := b) (p := 2) (s := 2) (by omega)
 obtain ⟨o2, e2⟩ := getN_ok (b := b) (p := 4) (s := 4) (by omega)
 obtain ⟨o3, e3⟩ := getN_ok (b := b) (p := 8) (s := 4) (by omega)
 rw [hk] at h c2 c3 c4 e0
 simp only [Int.toNat_natCast] at h
 obtain ⟨R, hR⟩ : ∃ R, acDec ((b.drop 16).take (k - 16)) = R := ⟨_, rfl⟩
 rw [hR] at h
 obtain ⟨l, c⟩ := R
 cases c with
 | some c => simp at h
 | none =>
   simp only [Option.map_none, Prod.mk.injEq, and_true] at h
   obtain ⟨rfl, rfl⟩ := h
   have hb := acDec_back hR
   have hsl : ((b.drop 16).take (k - 16)).length = k - 16 := by rw [List.length_take, List.length_drop]; omega
   refine ⟨?_, k, rfl, by omega, by omega, by omega, ?_⟩
   · unfold bkRight
     simp only [hb, o1, o2, o3]
     rfl
   · unfold bkOne
     simp only [hb]
     rw [hsl, show 16 + (k - 16) = k by omega, e0, e1, e2, e3, List.drop_zero]
     have hz : List.replicate 4 0#8 = (b.drop 12).take 4 := by
       rw [allZ_iff] at c5
       rw [c5, List.length_take, List.length_drop, show min 4 (b.length - 12) = 4 by omega]
     rw [hz]
     have ta : ∀ p q : Nat, (b.drop p).take q ++ (b.drop (p + q)).take (k - (p + q)) = (b.drop p).take (q + (k - (p + q))) := fun p q => by rw [List.take_add, List.drop_drop]
     have t1 := ta 12 4
     have t2 := ta 8 4
     have t3 := ta 4 4
     have t4 := ta 2 2
     have t5 := ta 0 2
     simp only [Nat.reduceAdd, List.drop_zero] at t1 t2 t3 t4 t5
     rw [t1, show 4 + (k - 16) = k - 12 by omega, t2, show 4 + (k - 12) = k - 8 by omega, t3, show 4 + (k - 8) = k - 4 by omega, t4, show 2 + (k - 4) = k - 2 by omega, t5, show 2 + (k - 2) = k by omega]

def bkEnc (l : List Bucket) : List (BitVec 8) × Int := if l.length ≤ 100 ∧ l.all bkRight = true ∧ (rwFlat bkOne l).length ≤ 60000 then (rwFlat bkOne l, 0) else ([], 1)
def bkDec (b : List (BitVec 8)) : List Bucket × Option (Int × Int) :=
 if 60000 < b.length then ([], some (6, 12)) else if (rwDec bkRead b).2 = none ∧ 100 < (rwDec bkRead b).1.length then ([], some (6, 4)) else rwDec bkRead b
theorem bkKeeps : RdKeeps bkRead 16 := fun b y n h => by
 obtain ⟨_, k, hk, h16, hl, _⟩ := bkRead_back h
 exact ⟨k, hk, h16, hl⟩
theorem bkEnc_len (l : List Bucket) : (bkEnc l).1.length ≤ 60000 := by
 unfold bkEnc
 split
 · rename_i h; exact h.2.2
 · simp
theorem bkDec_bad {b : List (BitVec 8)} {l : List Bucket} {c : Int × Int} (h : bkDec b = (l, some c)) : l = [] := by
 unfold bkDec at h
 split at h
 · cases h; rfl
 split at h
 · cases h; rfl
 · have := rwF_bad (rd := bkRead) b.length b c (by show (rwDec bkRead b).2 = some c; rw [h])
   change (rwDec bkRead b).1 = [] at this
   rw [h] at this
   exact this
structure GroupMod where
 command : Int
 kind : Int
 id : Int
 buckets : List Bucket
 deriving DecidableEq, Inhabited
def GroupMod.enc (g : GroupMod) : List AV := [.int .i64 g.command, .int .i64 g.kind, .int .i64 g.id, .sl false g.buckets.length (bukL g.buckets)]
def gm0 : GroupMod := ⟨0, 0, 0, []⟩
def gmIn (n top : Int) : Bool := decide (0 ≤ n) && decide (n ≤ top)
def gmRight (g : GroupMod) : Bool := (bkEnc g.buckets).2 == 0 && (gmIn g.command 2 && (gmIn g.kind 3 && numOk g.id 4))
def gmHead (g : GroupMod) : List (BitVec 8) := beN g.command 2 ++ (beN g.kind 1 ++ (beN 0 1 ++ beN g.id 4))
def gmEnc (g : GroupMod) : List (BitVec 8) × Int := if gmRight g = true then (gmHead g ++ (bkEnc g.buckets).1, 0) else ([], 1)
def gmDec (b : List (BitVec 8)) : GroupMod × Option (Int × Int) :=
 if b.length < 8 ∨ (getN b 3 1).1 ≠ 0 then (gm0, some (1, 6))
 else if gmIn (getN b 0 2).1 2 = false then (gm0, some (6, 11))
 else if gmIn (getN b 2 1).1 3 = false then (gm0, some (6, 10))
 else match (bkDec (b.drop 8)).2 with
   | some c => (gm0, some c)
   | none => (⟨(getN b 0 2).1, (getN b 2 1).1, (getN b 4 4).1, (bkDec (b.drop 8)).1⟩, none)
theorem gmIn_ok {n t : Int} {s : Nat} (h : gmIn n t = true) (ht : t < 256 ^ s) : numOk n s = true := by
 unfold gmIn at h
 rw [Bool.and_eq_true, decide_eq_true_eq, decide_eq_true_eq] at h
 rw [numOk_iff]
 exact ⟨h.1, Int.lt_of_le_of_lt h.2 ht⟩

structure Need where
 field : Int
 values : List Wide
 deriving DecidableEq, Inhabited
def w64 (x : BitVec 64) : Wide := ⟨0#64, x⟩
def nEth (vs : List (BitVec 64)) : Need := ⟨4, vs.map w64⟩
def nProto (x : BitVec 64) : Need := ⟨9, [w64 x]⟩
def needs (f : Int) : List Need :=
 if f = 6 then [⟨5, []⟩] else if f = 7 ∨ f = 8 ∨ f = 9 then [nEth [0x800#64, 0x86dd#64]] else if f = 10 ∨ f = 11 then [nEth [0x800#64]]
 else if f = 12 ∨ f = 13 then [nEth [0x800#64, 0x86dd#64], nProto 6#64] else if f = 14 ∨ f = 15 then [nEth [0x800#64, 0x86dd#64], nProto 17#64]
 else if f = 16 ∨ f = 17 then [nEth [0x800#64], nProto 1#64] else if f = 18 ∨ f = 19 ∨ f = 20 then [nEth [0x806#64]] else if f = 21 ∨ f = 22 then [nEth [0x86dd#64]]
 else if f = 23 then [nEth [0x8847#64, 0x8848#64]] else []
def mGives (o : Oxm) (n : Need) : Bool := o.field == n.field && (n.values.length == 0 || (!o.masked && n.values.any fun v => o.value == v))
def mMet (l : List Oxm) (f : Int) : Bool := (needs f).all fun n => l.any fun o => mGives o n
def mCheckF : List Oxm → List Oxm → Option Int
 | _, [] => none
 | acc, o :: r => if (acc.any fun p => p.field == o.field) = true then some 10 else if mMet acc o.field = false then some 9 else mCheckF (acc ++ [o]) r
def mCheck (l : List Oxm) : Option Int := mCheckF [] l
def mPad (n : Nat) : Nat := (n + 7) / 8 * 8
def oBytes (o : Oxm) : List (BitVec 8) := (oEnc o).1
def mWhole (l : List Oxm) : List (BitVec 8) := beN 1 2 ++ (beN (4 + (rwFlat oBytes l).length : Nat) 2 ++ (rwFlat oBytes l ++ List.replicate (mPad (4 + (rwFlat oBytes l).length) - (4 + (rwFlat oBytes l).length)) 0#8))
def mFit (l : List Oxm) : Bool := (mCheck l).isNone && l.all Oxm.right
def mEnc (l : List Oxm) : List (BitVec 8) × Int := if mFit l = true ∧ (rwFlat oBytes l).length ≤ 1000 then (mWhole l, 0) else ([], 1)
def oRd (b : List (BitVec 8)) : Oxm × Int × Option (Int × Int) := ((oDec b).1, (oDec b).2.1, if (oDec b).2.2 = 0 then none else some (4, (oDec b).2.2))
def mDec (b : List (BitVec 8)) : List Oxm × Nat × Option (Int × Int) :=
 if b.length < 4 then ([], 0, some (4, 1))
 else if valN ((b.drop 2).take 2) < 4 ∨ b.length < mPad (valN ((b.drop 2).take 2)) then ([], 0, some (4, 1))
 else if ¬ valN ((b.drop 0).take 2) = 1 then ([], 0, some (4, 0))
 else if 1004 < valN ((b.drop 2).take 2) then ([], 0, some (4, 1))
 else match (rwDec oRd ((b.drop 4).take (valN ((b.drop 2).take 2) - 4))).2 with
   | some c => ([], 0, some c)
   | none => match mCheck (rwDec oRd ((b.drop 4).take (valN ((b.drop 2).take 2) - 4))).1 with
     | some c => ([], 0, some (4, c))
     | none => if allZ ((b.drop (valN ((b.drop 2).take 2))).take (mPad (valN ((b.drop 2).take 2)) - valN ((b.drop 2).take 2))) = false then ([], 0, some (4, 1))
       else ((rwDec oRd ((b.drop 4).take (valN ((b.drop 2).take 2) - 4))).1, mPad (valN ((b.drop 2).take 2)), none)
theorem mPad_ge (n : Nat) : n ≤ mPad n ∧ mPad n < n + 8 ∧ mPad n % 8 = 0 := by unfold mPad; omega
theorem oRd_back {b : List (BitVec 8)} {y : Oxm} {n : Int} (h : oRd b = (y, n, none)) : Oxm.right y = true ∧ ∃ k : Nat, n = (k : Int) ∧ 4 ≤ k ∧ k ≤ b.length ∧ oBytes y = b.take k := by
 unfold oRd at h
 obtain ⟨o, m, c, hd⟩ : ∃ o m c, oDec b = (o, m, c) := ⟨_, _, _, rfl⟩
 rw [hd] at h
 simp only [Prod.mk.injEq] at h
 obtain ⟨rfl, rfl, hc⟩ := h
 have h0 : c = 0 := Decidable.byContradiction fun e => by rw [if_neg e] at hc; cases hc
 subst h0
 obtain ⟨hr, k, hk, h4, hl, he⟩ := oDec_back hd
 exact ⟨hr, k, hk, h4, hl, by unfold oBytes; rw [he]⟩
theorem oRd_bytes {o : Oxm} (h : Oxm.right o = true) : 0 < (oBytes o).length ∧ ∀ r, oRd (oBytes o ++ r) = (o, ((oBytes o).length : Int), none) := by
 have hb : ∀ r, oRd (oBytes o ++ r) = (o, ((oBytes o).length : Int), none) := fun r => by
   unfold oRd oBytes
   rw [oEnc_back h r]
   rfl
 refine ⟨?_, hb⟩
 obtain ⟨_, k, hk, h4, _⟩ := oRd_back (hb [])
 omega
theorem mFit_facts {l : List Oxm} (h : mFit l = true) : mCheck l = none ∧ ∀ o, o ∈ l → Oxm.right o = true := by
 unfold mFit at h
 rw [Bool.and_eq_true, List.all_eq_true] at h
 exact ⟨by simpa using h.1, h.2⟩
theorem mEnc_bad1 {l : List Oxm} (h : ¬ (mFit l = true ∧ (rwFlat oBytes l).length ≤ 1000)) : mEnc l = ([], 1) := by unfold mEnc; rw [if_neg h]
theorem mEnc_zero {l : List Oxm} (h : (mEnc l).2 = 0) : mFit l = true ∧ (rwFlat oBytes l).length ≤ 1000 ∧ mEnc l = (mWhole l, 0) := by
 by_cases hh : mFit l = true ∧ (rwFlat oBytes l).length ≤ 1000
 · exact ⟨hh.1, hh.2, by unfold mEnc; rw [if_pos hh]⟩
 · rw [mEnc_bad1 hh] at h; cases h
theorem mWhole_len (l : List Oxm) : (mWhole l).length = mPad (4 + (rwFlat oBytes l).length) := by
 have := mPad_ge (4 + (rwFlat oBytes l).length)
 unfold mWhole; simp [beN_len]; omega
theorem mEnc_len (l : List Oxm) : (mEnc l).1.length ≤ 1012 := by
 unfold mEnc
 split
 · rename_i h
   have := mPad_ge (4 + (rwFlat oBytes l).length)
   simp only [mWhole_len]; omega
 · simp
theorem mDec_back {b : List (BitVec 8)} {l : List Oxm} {n : Nat} (h : mDec b = (l, n, none)) : n ≤ b.length ∧ 8 ≤ n ∧ n % 8 = 0 ∧ mEnc l = (b.take n, 0) ∧ l.length * 4 ≤ b.length := by
 unfold mDec at h
 split at h
 · cases h
 rename_i c0
 have l0 : ((b.drop 0).take 2).length = 2 := by simp; omega
 have l1 : ((b.drop 2).take 2).length = 2 := by simp; omega
 have e0 := beN_valN 2 _ l0
 have e1 := beN_valN 2 _ l1
 obtain ⟨m, hm⟩ : ∃ m, valN ((b.drop 2).take 2) = m := ⟨_, rfl⟩
 rw [hm] at h e1
 split at h
 · cases h
 rename_i c1
 split at h
 · cases h
 rename_i c2
 rw [Decidable.not_not] at c2
 rw [c2] at e0
 split at h
 · cases h
 rename_i c3
 split at h
 · cases h
 split at h
 · cases h
 rename_i hck
 split at h
 · cases h
 rename_i hz
 rw [Bool.not_eq_false] at hz
 simp only [Prod.mk.injEq, and_true] at h
 obtain ⟨hl, rfl⟩ := h
 rename_i hnone _
 have hp := mPad_ge m
 obtain ⟨R, hR⟩ : ∃ R, rwDec oRd ((b.drop 4).take (m - 4)) = R := ⟨_, rfl⟩
 rw [hR] at hl hck hnone
 obtain ⟨l', c⟩ := R
 simp only at hl hck hnone
 subst hl
 subst hnone
 obtain ⟨hr, hf⟩ := rwDec_back (en := oBytes) (ok := fun o => Oxm.right o = true) (fun b y n h => by
   obtain ⟨hr, k, hk, h4, hl, he⟩ := oRd_back h
   exact ⟨hr, k, hk, by omega, hl, he⟩) hR
 have hsl : ((b.drop 4).take (m - 4)).length = m - 4 := by rw [List.length_take, List.length_drop]; omega
 have hfl : (rwFlat oBytes l').length = m - 4 := by rw [hf, hsl]
 have hcnt : l'.length * 4 ≤ (rwFlat oBytes l').length := by
   clear hf hfl hR hck
   induction l' with
   | nil => simp
   | cons o l ih =>
     have ih := ih (fun a ha => hr a (List.mem_cons_of_mem _ ha))
     obtain ⟨_, k, hk, h4, _⟩ := oRd_back ((oRd_bytes (hr o (by simp))).2 [])
     have e : rwFlat oBytes (o :: l) = oBytes o ++ rwFlat oBytes l := rfl
     rw [e, List.length_append, List.length_cons]; omega
 refine ⟨by omega, by omega, hp.2.2, ?_, by omega⟩
 have hfit : mFit l' = true := by
   unfold mFit
   rw [hck, Bool.and_eq_true, List.all_eq_true]
   exact ⟨rfl, hr⟩
 unfold mEnc
 rw [if_pos ⟨hfit, by omega⟩]
 refine Prod.ext ?_ rfl
 simp only
 unfold mWhole
 rw [hfl, show 4 + (m - 4) = m by omega, hf]
 have hzr : List.replicate (mPad m - m) 0#8 = (b.drop m).take (mPad m - m) := by
   rw [allZ_iff] at hz
   rw [hz, List.length_take, List.length_drop, Nat.min_eq_left (by omega)]
 rw [hzr, show beN 1 2 = (b.drop 0).take 2 from e0, e1, List.drop_zero]
 have ta : ∀ p q r s : Nat, r = p + q → (b.drop p).take q ++ (b.drop r).take s = (b.drop p).take (q + s) := fun p q r s e => by subst e; rw [List.take_add, List.drop_drop]
 have t0 : b.take 2 = (b.drop 0).take 2 := by rw [List.drop_zero]
 rw [ta 4 (m - 4) m (mPad m - m) (by omega), ta 2 2 4 _ rfl, t0, ta 0 2 2 _ rfl, List.drop_zero]
 congr 1
 omega

def firstI (p : Nat → Bool) (n : Nat) : Int := match (List.range n).find? p with | some i => i | none => -1
theorem firstI_some {p : Nat → Bool} {n i : Nat} (h : i < n) (hp : p i = true) (hn : ∀ j, j < i → p j = false) : firstI p n = i := by
 unfold firstI
 have : (List.range n).find? p = some i := by
   rw [List.find?_range_eq_some]
   exact ⟨hp, by simpa using h, fun j hj => by simp [hn j hj]⟩
 rw [this]
theorem firstI_none {p : Nat → Bool} {n : Nat} (hn : ∀ j, j < n → p j = false) : firstI p n = -1 := by
 unfold firstI
 have : (List.range n).find? p = none := by
   rw [List.find?_range_eq_none]
   exact fun i hi => by simp [hn i hi]
 rw [this]
theorem firstI_ge (p : Nat → Bool) (n : Nat) : decide (0 ≤ firstI p n) = (List.range n).any p := by
 unfold firstI
 cases h : (List.range n).find? p with
 | none =>
   rw [List.find?_range_eq_none] at h
   have : (List.range n).any p = false := by rw [List.any_eq_false]; intro x hx; have := h x (by simpa using hx); simpa using this
   simp [this]
 | some i =>
   rw [List.find?_range_eq_some] at h
   have : (List.range n).any p = true := List.any_eq_true.2 ⟨i, h.2.1, h.1⟩
   simp [this]
structure Tst (x : AV) (p : Flow → Bool) : Prop where
 f : ∃ fid caps, x = .fn fid caps ∧ ClL caps = true ∧ ∀ f, FPl f → FnP Tryz.prog fid (.agg f.enc :: caps) (.bool (p f))

theorem Tst.congr {x : AV} {p q : Flow → Bool} (h : Tst x p) (e : ∀ f, p f = q f) : Tst x q := by
 have : p = q := funext e
 rw [← this]; exact h

theorem intL_take {l : List Int} {i : Nat} (h : i < l.length) : intL (l.take (i + 1)) = intL (l.take i) ++ [.int .i64 (nth l i)] := by rw [take_nth h]; simp [intL]

def bare (m : FlowMod) : FlowMod := { m with cookieMask := 0#64, outPort := 4294967295, outGroup := 4294967295 }

theorem intL_nil : intL [] = [] := rfl
def hF : Header := fun i => if i = 0 then ⟨0#64, 1#64⟩ else wideZ
def ahead (k : Int → Int) (x y : Int) : Prop := k y < k x ∨ k x = k y ∧ x < y

def ro (f : Nat → Int) (n : Nat) : List Int := (List.range n).map f
@[simp] theorem ro_len (f : Nat → Int) (n : Nat) : (ro f n).length = n := by simp [ro]

def Srt (k : Int → Int) (f : Nat → Int) (a b : Nat) : Prop := ∀ x y, a ≤ x → x < y → y < b → ahead k (f x) (f y)

def Blk (k : Int → Int) (g : Nat → Int) (lo hi : Nat) : Prop := Srt k g lo hi ∧ ∀ x, lo ≤ x → x < hi → (lo : Int) ≤ g x ∧ g x < hi
theorem Blk.same {k : Int → Int} {g g' : Nat → Int} {lo hi : Nat} (h : Blk k g lo hi) (e : ∀ x, lo ≤ x → x < hi → g' x = g x) : Blk k g' lo hi :=
 ⟨fun x y i1 i2 i3 => by rw [e x i1 (by omega), e y (by omega) i3]; exact h.1 x y i1 i2 i3, fun x i1 i2 => by rw [e x i1 i2]; exact h.2 x i1 i2⟩

structure F3 where
 is : Bool
 ty : Int
 code : Int
 deriving DecidableEq
def F3.enc (f : F3) : List AV := [.bool f.is, .int .i64 f.ty, .int .i64 f.code]
def F3.zero : F3 := ⟨false, 0, 0⟩
@[simp] theorem F3.len (f : F3) : f.enc.length = 3 := rfl
@[simp] theorem F3.cl (f : F3) : ClL f.enc = true := by simp [F3.enc, ClL, Cl]
@[simp] theorem F3.ne (f : F3) : (f.enc = []) = False := by simp [F3.enc]
@[simp] theorem F3.take (f : F3) : f.enc.take 3 = f.enc := rfl
@[simp] theorem F3.drop (f : F3) : f.enc.drop 3 = [] := rfl

theorem takenF (n : Nat) : taken (fun _ => false) n = if n = 0 then 0 else 1 := by cases n <;> rfl

theorem eqBy_refl {α : Type} [Inhabited α] {p : α → α → Bool} (h : ∀ x, p x x = true) (l : List α) : eqBy p l l = true := by unfold eqBy; simp [h]
end Go.Proofs.YtcccfbjkcahgfaaGreat

namespace Go.Proofs.YtcccfbjkcahgfaaGreat
open Go Go.AI Go.Proofs
attribute [local irreducible] FnP FnO FnB FnT FnSeq WK RunQ RunQW RunX RunXW
set_option maxHeartbeats 4000000 in
theorem racdec_c (b : List (BitVec 8)) (hb : b.length ≤ 1000000) : FnT Tryz.prog 117 [byS b] (acDec b).1.length 11 (actL (acDec b).1) [.agg (aF (acDec b).2)] := by
 unfold byS
 refine FnT.intro Tryz.func117 rfl rfl fun G w => ?_
 repeat' (first | apply WK.s | apply WK.b | (refine hQ.h _ _ ?_; clear hQ hA) | (refine WK.rH Tryz.ntmps117 (by kernel_rfl) ?_; intro A hA Q hQ; simp [*]))
 refine WK.ghost (Ghost.own 4 900 11 rfl rfl) ?_
 refine WK.lI (fun n => if n = 60 then 900 else n) (fun x : Nat × Nat × List Action => (⟨(upd (upd (upd (upd (upd J 0 (.sl false b.length (byL b))) 2 (.sl true 0 [])) 3 (.ptr 1 0)) 4 (.msl 60 0 x.2.2.length)) 5 (.int .i64 x.2.1)), (upd (upd B0 1 (.var (aF none))) 60 (.buf 11 (actL x.2.2))), 0⟩ : St)) (fun x => AcAt b x) (fun x => b.length - x.2.1) ((b.length, 0, [])) (by repeat (first | exact TmW.nil | refine TmW.upd ?_ (by simp (maxDischargeDepth := 120) [aF]))) (by repeat (first | exact BxW.nil | refine BxW.upd ?_ (by simp (maxDischargeDepth := 120) [aF]))) (by first | exact InjW.id | exact InjW.nil | exact InjW.one | exact InjW.two (by simp) | exact InjW.three (by simp) (by simp) (by simp)) (AcAt.start b) (fun i hi IH => ?_)
 obtain ⟨f, p, acc⟩ := i
 have hsm := hi.small
 have hle := hi.le
 simp only at hsm hle hi ⊢
 by_cases h1 : p < b.length
 · have hc := radec_c (b.drop p) (by rw [List.length_drop]; omega)
   obtain ⟨⟨y, n, c⟩, hd⟩ : ∃ R, aDec (b.drop p) = R := ⟨_, rfl⟩
   rw [hd] at hc
   unfold byS at hc
   rw [List.length_drop] at hc
   have h1' : (p : Int) < b.length := by omega
   have hple : (p : Int) ≤ b.length := by omega
   have hdt : ((byL b).drop p).take (b.length - p) = byL (b.drop p) := by rw [byL_drop]; exact by_full _ _ (by rw [List.length_drop])
   cases c with
   | some c =>
     have e := AcAt.bad hi h1 hd
     rw [e]
     clear hd
     repeat' (first | apply WK.s | apply WK.b | apply WK.k | refine WK.cT rfl ?_ | (refine hQ.h _ _ ?_; clear hQ hA) | (refine WK.rH Tryz.ntmps117 (by kernel_rfl) ?_; intro A hA Q hQ; simp [aRes, aF, *]) | (refine WK.rX (by kernel_rfl) Tryz.ntmps117 (by kernel_rfl) ?_; intro A hA Q hQ; simp [aRes, aF, *]) | (refine hQ.h _ _ _ (by decide +kernel) ?_; clear hQ hA) | (refine RunQ.k rfl rfl rfl rfl rfl ?_ (hc) ?_ ?_ <;> simp (maxDischargeDepth := 120) [aRes, aF, *] <;> refine ⟨?_⟩))
     refine WK.ghost (Ghost.own 2 901 11 rfl rfl) ?_
     refine WK.retT2 Tryz.func117 ?_ ?_ ?_ <;> simp (maxDischargeDepth := 120) [Tryz.results117, actL_nil, aF]
   | none =>
     obtain ⟨k, rfl, hk1, hk2, hn⟩ := AcAt.next hi h1 hd
     simp only at hk1 hn
     have h6 : IntKind.i64.wrap ((p : Int) + (k : Int)) = (p : Int) + (k : Int) := wrap_i64 (by omega) (by omega)
     have hbd : (acc.length + 1) * 88 ≤ 140737488355328 := by omega
     have hsn : actL acc ++ y.enc = actL (acc ++ [y]) := by rw [actL_app]; simp [actL]
     clear hd
     repeat' (first | apply WK.s | apply WK.b | apply WK.n | apply WK.k | refine WK.cT rfl ?_ | refine WK.cF rfl ?_ | (refine hQ.h _ _ ?_; clear hQ hA) | (refine WK.rH Tryz.ntmps117 (by kernel_rfl) ?_; intro A hA Q hQ; simp [aRes, aF, *]) | (refine RunQ.append 902 appAct rfl rfl rfl rfl rfl rfl rfl rfl rfl ?_ ?_ ?_ ?_ ?_; (focus (first | omega | (simp [aRes, aF, *]; done); done)); (focus (first | omega | (simp [aRes, aF, *]; done); done)); (focus (first | omega | (simp [aRes, aF, *]; done); done)); (focus (first | omega | (simp [aRes, aF, *]; done); done)); refine RunQ.e ?_; simp [aRes, aF, *]) | (refine RunQ.k rfl rfl rfl rfl rfl ?_ (hc) ?_ ?_ <;> simp (maxDischargeDepth := 120) [aRes, aF, *] <;> refine ⟨?_⟩))
     refine WK.next (fun n => if n = 60 then 902 else n) (IH ((f - 1, p + k, acc ++ [y])) (hn) (by first | omega | (dsimp only; omega))) (by repeat (first | exact TmW.nil | refine TmW.upd ?_ (by simp (maxDischargeDepth := 120) [hsn, aF]))) (by repeat (first | exact BxW.nil | refine BxW.upd ?_ (by simp (maxDischargeDepth := 120) [hsn, aF]))) (by first | exact InjW.id | exact InjW.nil | exact InjW.one | exact InjW.two (by simp) | exact InjW.three (by simp) (by simp) (by simp))
 · have hstop := AcAt.stop hi h1
   simp only at hstop
   have h1' : ¬ (p : Int) < b.length := by omega
   by_cases h100 : 100 < acc.length
   · have e : acDec b = ([], some 7) := by unfold acDec; rw [hstop, if_pos ⟨rfl, h100⟩]
     have h100' : (100 : Int) < acc.length := by omega
     rw [e]
     repeat' (first | apply WK.s | refine WK.exit rfl ?_ | refine WK.cT rfl ?_ | refine WK.cF rfl ?_ | (refine hQ.h _ _ ?_; clear hQ hA) | (refine WK.rH Tryz.ntmps117 (by kernel_rfl) ?_; intro A hA Q hQ; simp [aF, *]))
     refine WK.ghost (Ghost.own 2 901 11 rfl rfl) ?_
     refine WK.retT2 Tryz.func117 ?_ ?_ ?_ <;> simp (maxDischargeDepth := 120) [Tryz.results117, actL_nil, aF]
   · have e : acDec b = (acc, none) := by unfold acDec; rw [hstop, if_neg (fun h => h100 h.2)]
     have h100' : ¬ (100 : Int) < acc.length := by omega
     rw [e]
     repeat' (first | apply WK.s | apply WK.k | refine WK.exit rfl ?_ | refine WK.cF rfl ?_ | (refine hQ.h _ _ ?_; clear hQ hA) | (refine WK.rH Tryz.ntmps117 (by kernel_rfl) ?_; intro A hA Q hQ; simp [aF, *]) | (refine WK.retT2 Tryz.func117 ?_ ?_ ?_ <;> simp (maxDischargeDepth := 120) [Tryz.results117, aF, *]))
theorem racdecP_c (b : List (BitVec 8)) (hb : b.length ≤ 1000000) : FnP Tryz.prog 117 [byS b] (.tup [actS (acDec b).1, .agg (aF (acDec b).2)]) := by
 have h := (racdec_c b hb).toP (by simp) (by simp [ClL, Cl])
 rwa [actL_take] at h
theorem acDec_small {b : List (BitVec 8)} {l : List Action} {c : Option Int} (h : acDec b = (l, c)) : l.length * 8 ≤ b.length := by
 cases c with
 | some c => rw [acDec_bad h]; simp
 | none =>
   unfold acDec at h
   split at h
   · cases h
   · obtain ⟨h1, h2⟩ := acDecF_back b.length b (Nat.le_refl _) (by rw [h])
     rw [h] at h1 h2
     simp only at h1 h2
     rw [← h2]
     clear h h2
     induction l with
     | nil => simp [acFlat]
     | cons a l ih =>
       have ih := ih (fun x hx => h1 x (List.mem_cons_of_mem _ hx))
       obtain ⟨_, k, hk, h8, _⟩ := aDec_back (aEnc_back (h1 a (by simp)) [])
       rw [acFlat_cons, List.length_append, List.length_cons]
       omega
theorem eqBy_selfA (l : List Action) : eqBy (fun x y : Action => x == y) l l = true := by unfold eqBy; simp

theorem app_buk : AppOk Tryz.prog 27 83 4 48 := ⟨by simp, by simp, by simp, by simp, by simp, by simp, by omega, by omega⟩
theorem eqf_buk (fid : Nat) (caps : List AV) (p : Bucket → Bucket → Bool) (l m : List Bucket) (hcl : ClL caps = true) (hl : l.length ≤ 1000000)
   (hf : ∀ x, x ∈ l → ∀ y, y ∈ m → FnP Tryz.prog fid (.agg x.enc :: .agg y.enc :: caps) (.bool (p x y))) :
   FnP Tryz.prog 96 [bukS l, bukS m, .fn fid caps] (.bool (eqBy p l m)) := by
 unfold bukS
 refine FnP.i Tryz.func96 rfl rfl fun G w => ?_
 repeat apply WK.s
 refine WK.g 100 Tryz.ntmps96 (by kernel_rfl) ?_
 intro A hA Q hQ
 simp
 apply hQ
 clear hQ hA
 repeat apply WK.s
 refine WK.g 200 Tryz.ntmps96 (by kernel_rfl) ?_
 intro A hA Q hQ
 simp
 apply hQ
 clear hQ hA
 refine WK.c2 rfl (fun h => ?_) (fun h => ?_)
 · simp at h
   have e : eqBy p l m = false := by unfold eqBy; simp; intro e; omega
   repeat apply WK.s
   refine WK.g 300 Tryz.ntmps96 (by kernel_rfl) ?_
   intro A hA Q hQ
   simp
   apply hQ
   clear hQ hA
   refine WK.t Tryz.func96 (by simp (maxDischargeDepth := 120) [Tryz.results96, e]) (by simp [e])
 · simp at h
   have hlm : l.length = m.length := by omega
   repeat (first | apply WK.s | apply WK.k)
   refine WK.g 400 Tryz.ntmps96 (by kernel_rfl) ?_
   intro A hA Q hQ
   simp
   apply hQ
   clear hQ hA
   repeat (apply WK.b)
   refine WK.lI (fun n => n) (fun i : Nat => (⟨(upd (upd (upd (upd (upd (upd J 0 (.sl false l.length (bukL l))) 1 (.sl false m.length (bukL m))) 2 (.fn fid caps)) 15 (.sl false l.length (bukL l))) 16 (.int .i64 l.length)) 17 (.int .i64 i)), B0, 0⟩ : St)) (fun i => i ≤ l.length ∧ ∀ j, j < i → p (nth l j) (nth m j) = true) (fun i => l.length - i) (0) (by repeat (first | exact TmW.nil | refine TmW.upd ?_ (by simp (maxDischargeDepth := 120) [hcl]))) (by repeat (first | exact BxW.nil | refine BxW.upd ?_ (by simp (maxDischargeDepth := 120) [hcl]))) InjW.id (⟨by omega, by simp⟩) (fun i hi IH => ?_)
   repeat apply WK.s
   refine WK.g 500 Tryz.ntmps96 (by kernel_rfl) ?_
   intro A hA Q hQ
   simp
   apply hQ
   clear hQ hA
   repeat apply WK.s
   refine WK.c2 rfl (fun h1 => ?_) (fun h1 => ?_)
   · simp at h1
     have h2 : i < l.length := by omega
     have h2' : i < m.length := by omega
     have h3 : 4 ≤ l.length * 4 - i * 4 := by omega
     have h3' : 4 ≤ m.length * 4 - i * 4 := by omega
     have h4 := buk_sub l i h2
     have h4' := buk_sub m i h2'
     have h6 : IntKind.i64.wrap ((i : Int) + 1) = i + 1 := wrap_i64 (by omega) (by omega)
     repeat (first | apply WK.s | apply WK.b | apply WK.k)
     refine WK.g 600 Tryz.ntmps96 (by kernel_rfl) ?_
     intro A hA Q hQ
     simp [h2, h3, h4]
     apply hQ
     clear hQ hA
     repeat apply WK.s
     refine WK.g 700 Tryz.ntmps96 (by kernel_rfl) ?_
     intro A hA Q hQ
     simp [h2', h3', h4']
     apply hQ
     clear hQ hA
     repeat apply WK.s
     refine WK.g 800 Tryz.ntmps96 (by kernel_rfl) ?_
     intro A hA Q hQ
     simp
     refine RunQ.call rfl rfl rfl rfl (by rfl) (by simp (maxDischargeDepth := 120) [hcl]) (hf (nth l i) (nth_mem h2) (nth m i) (nth_mem h2')) (by simp [hcl]) ?_
     refine RunQ.eval ?_
     simp [hcl]
     apply hQ
     clear hQ hA
     refine WK.c2 rfl (fun h5 => ?_) (fun h5 => ?_)
     · simp at h5
       have e : eqBy p l m = false := by unfold eqBy; rw [all_range_false (p := fun i => p (nth l i) (nth m i)) h2 h5]; simp
       repeat apply WK.s
       refine WK.g 900 Tryz.ntmps96 (by kernel_rfl) ?_
       intro A hA Q hQ
       simp
       apply hQ
       clear hQ hA
       refine WK.t Tryz.func96 (by simp (maxDischargeDepth := 120) [Tryz.results96, e]) (by simp [e])
     · simp at h5
       repeat (first | apply WK.n | apply WK.k)
       refine WK.g 1000 Tryz.ntmps96 (by kernel_rfl) ?_
       intro A hA Q hQ
       simp [h6]
       apply hQ
       clear hQ hA
       refine WK.next (fun n => n) (IH (i + 1) (⟨by omega, fun j hj => by by_cases h7 : j = i; (subst h7; exact h5); exact hi.2 j (by omega)⟩) (by first | omega | (dsimp only; omega))) (by repeat (first | exact TmW.nil | refine TmW.upd ?_ (by simp (maxDischargeDepth := 120) [hcl]))) (by repeat (first | exact BxW.nil | refine BxW.upd ?_ (by simp (maxDischargeDepth := 120) [hcl]))) InjW.id
   · simp at h1
     have e : eqBy p l m = true := by unfold eqBy; rw [all_range_true (p := fun i => p (nth l i) (nth m i)) (fun j hj => hi.2 j (by omega))]; simp [hlm]
     repeat (first | apply WK.s | refine WK.exit rfl ?_)
     refine WK.g 1100 Tryz.ntmps96 (by kernel_rfl) ?_
     intro A hA Q hQ
     simp
     apply hQ
     clear hQ hA
     refine WK.t Tryz.func96 (by simp (maxDischargeDepth := 120) [Tryz.results96, e]) (by simp [e])
theorem indexf_buk (fid : Nat) (caps : List AV) (p : Bucket → Bool) (l : List Bucket) (hcl : ClL caps = true) (hl : l.length ≤ 1000000)
   (hf : ∀ x, x ∈ l → FnP Tryz.prog fid (.agg x.enc :: caps) (.bool (p x))) :
   FnP Tryz.prog 83 [bukS l, .fn fid caps] (.int .i64 (idxI p l)) := by
 unfold bukS
 refine FnP.i Tryz.func83 rfl rfl fun G w => ?_
 repeat apply WK.s
 refine WK.g 100 Tryz.ntmps83 (by kernel_rfl) ?_
 intro A hA Q hQ
 simp
 apply hQ
 clear hQ hA
 repeat apply WK.s
 refine WK.g 200 Tryz.ntmps83 (by kernel_rfl) ?_
 intro A hA Q hQ
 simp
 apply hQ
 clear hQ hA
 repeat (apply WK.b)
 refine WK.lI (fun n => n) (fun i : Nat => (⟨(upd (upd (upd (upd J 0 (.sl false l.length (bukL l))) 1 (.fn fid caps)) 7 (.int .i64 l.length)) 8 (.int .i64 i)), B0, 0⟩ : St)) (fun i => i ≤ l.length ∧ ∀ j, j < i → p (nth l j) = false) (fun i => l.length - i) (0) (by repeat (first | exact TmW.nil | refine TmW.upd ?_ (by simp (maxDischargeDepth := 120) [hcl]))) (by repeat (first | exact BxW.nil | refine BxW.upd ?_ (by simp (maxDischargeDepth := 120) [hcl]))) InjW.id (⟨by omega, by simp⟩) (fun i hi IH => ?_)
 repeat apply WK.s
 refine WK.g 300 Tryz.ntmps83 (by kernel_rfl) ?_
 intro A hA Q hQ
 simp
 apply hQ
 clear hQ hA
 repeat apply WK.s
 refine WK.c2 rfl (fun h1 => ?_) (fun h1 => ?_)
 · simp at h1
   have h2 : i < l.length := by omega
   have h3 : 4 ≤ l.length * 4 - i * 4 := by omega
   have h4 := buk_sub l i h2
   have h6 : IntKind.i64.wrap ((i : Int) + 1) = i + 1 := wrap_i64 (by omega) (by omega)
   repeat (first | apply WK.s | apply WK.b | apply WK.k)
   refine WK.g 400 Tryz.ntmps83 (by kernel_rfl) ?_
   intro A hA Q hQ
   simp
   apply hQ
   clear hQ hA
   repeat apply WK.s
   refine WK.g 500 Tryz.ntmps83 (by kernel_rfl) ?_
   intro A hA Q hQ
   simp [h2, h3, h4]
   refine RunQ.call rfl rfl rfl rfl (by rfl) (by simp (maxDischargeDepth := 120) [hcl]) (hf (nth l i) (nth_mem h2)) (by simp [hcl]) ?_
   refine RunQ.eval ?_
   simp [hcl]
   apply hQ
   clear hQ hA
   refine WK.c2 rfl (fun h5 => ?_) (fun h5 => ?_)
   · have e := idxI_some h2 h5 hi.2
     repeat apply WK.s
     refine WK.g 600 Tryz.ntmps83 (by kernel_rfl) ?_
     intro A hA Q hQ
     simp
     apply hQ
     clear hQ hA
     refine WK.t Tryz.func83 (by simp (maxDischargeDepth := 120) [Tryz.results83, e]) (by simp [e])
   · repeat (first | apply WK.n | apply WK.k)
     refine WK.g 700 Tryz.ntmps83 (by kernel_rfl) ?_
     intro A hA Q hQ
     simp [h6]
     apply hQ
     clear hQ hA
     refine WK.next (fun n => n) (IH (i + 1) (⟨by omega, fun j hj => by by_cases h7 : j = i; (subst h7; exact h5); exact hi.2 j (by omega)⟩) (by first | omega | (dsimp only; omega))) (by repeat (first | exact TmW.nil | refine TmW.upd ?_ (by simp (maxDischargeDepth := 120) [hcl]))) (by repeat (first | exact BxW.nil | refine BxW.upd ?_ (by simp (maxDischargeDepth := 120) [hcl]))) InjW.id
 · simp at h1
   have e := idxI_none (p := p) (l := l) (fun j hj => hi.2 j (by omega))
   repeat (first | apply WK.s | refine WK.exit rfl ?_)
   refine WK.g 800 Tryz.ntmps83 (by kernel_rfl) ?_
   intro A hA Q hQ
   simp
   apply hQ
   clear hQ hA
   refine WK.t Tryz.func83 (by simp (maxDischargeDepth := 120) [Tryz.results83, e]) (by simp [e])
theorem containsf_buk (fid : Nat) (caps : List AV) (p : Bucket → Bool) (l : List Bucket) (hcl : ClL caps = true) (hl : l.length ≤ 1000000)
   (hf : ∀ x, x ∈ l → FnP Tryz.prog fid (.agg x.enc :: caps) (.bool (p x))) :
   FnP Tryz.prog 49 [bukS l, .fn fid caps] (.bool (l.any p)) := by
 have e := idxI_ge p l
 simp only [ge_iff_le] at e
 refine FnP.i Tryz.func49 rfl rfl fun G w => ?_
 repeat apply WK.s
 refine WK.g 100 Tryz.ntmps49 (by kernel_rfl) ?_
 intro A hA Q hQ
 simp
 apply hQ
 clear hQ hA
 repeat apply WK.s
 refine WK.g 200 Tryz.ntmps49 (by kernel_rfl) ?_
 intro A hA Q hQ
 simp
 refine RunQ.call rfl rfl rfl rfl (by rfl) (by simp (maxDischargeDepth := 120) [hcl]) (indexf_buk fid caps p l hcl hl hf) (by simp [hcl]) ?_
 refine RunQ.eval ?_
 simp [hcl]
 apply hQ
 clear hQ hA
 refine WK.t Tryz.func49 (by simp (maxDischargeDepth := 120) [Tryz.results49, e]) (by simp [e])
def gF : Option (Int × Int) → List AV
 | none => [.bool false, .int .i64 0, .int .i64 0]
 | some x => [.bool true, .int .i64 x.1, .int .i64 x.2]
@[simp] theorem gFault_cl (c : Option (Int × Int)) : ClL (gF c) = true := by cases c <;> rfl
theorem aFault_g (c : Option Int) : aF c = gF (c.map fun c => (2, c)) := by cases c <;> rfl
theorem bbad_c (c : Int) : FnP Tryz.prog 140 [.int .i64 c] (.agg (gF (some (6, c)))) := by
 refine FnP.i Tryz.func140 rfl rfl fun G w => ?_
 repeat' (first | apply WK.s | (refine hQ.h _ _ ?_; clear hQ hA) | (refine WK.rH Tryz.ntmps140 (by kernel_rfl) ?_; intro A hA Q hQ; simp [*]) | (refine WK.t Tryz.func140 ?_ ?_ <;> simp (maxDischargeDepth := 120) [Tryz.results140, gF, *]))
theorem bone1_c (x : BitVec 8) : FnP Tryz.prog 169 [.int .u8 (bI x)] (.bool (!(x == 0#8))) := by
 have e := bI_zero x
 refine FnP.i Tryz.func169 rfl rfl fun G w => ?_
 repeat' (first | apply WK.s | (refine hQ.h _ _ ?_; clear hQ hA) | (refine WK.rH Tryz.ntmps169 (by kernel_rfl) ?_; intro A hA Q hQ; simp [bne, *]) | (refine WK.t Tryz.func169 ?_ ?_ <;> simp (maxDischargeDepth := 120) [Tryz.results169, bne, *]))
theorem any_allZ (l : List (BitVec 8)) : (l.any fun x => !(x == 0#8)) = !allZ l := by unfold allZ; rw [List.any_eq_not_all_not]; simp
set_option maxHeartbeats 4000000 in
theorem bone_c (b : List (BitVec 8)) (hb : b.length ≤ 1000000) : FnP Tryz.prog 141 [byS b] (.tup [.agg (bkRead b).1.enc, .int .i64 (bkRead b).2.1, .agg (gF (bkRead b).2.2)]) := by
 have g0 := nget_c b 0 2 Sz2 (by omega) (by omega)
 have bb := bbad_c 12
 have hz := containsf_by 169 [] (fun x => !(x == 0#8)) ((b.drop 12).take 4) rfl (by rw [List.length_take, List.length_drop]; omega) (fun x _ => bone1_c x)
 rw [any_allZ] at hz
 by_cases c0 : b.length < 16
 · have e : bkRead b = (buk0, 0, some (6, 12)) := by unfold bkRead; rw [if_pos (.inl c0)]
   rw [e]
   have c0' : (b.length : Int) < 16 := by omega
   obtain ⟨q, hq⟩ : ∃ q, getN b 0 2 = q := ⟨_, rfl⟩
   rw [hq] at g0
   unfold byS at *
   clear hz hq
   refine FnP.i Tryz.func141 rfl rfl fun G w => ?_
   repeat' (first | apply WK.s | refine WK.cT rfl ?_ | (refine hQ.h _ _ ?_; clear hQ hA) | (refine WK.rH Tryz.ntmps141 (by kernel_rfl) ?_; intro A hA Q hQ; simp [gF, buk0, Bucket.enc, *]) | (refine RunQ.g rfl (by rw [hA.h]; rfl) ?_; simp [gF, buk0, Bucket.enc, *]) | (refine RunQ.k rfl rfl rfl rfl rfl ?_ (g0) ?_ ?_ <;> simp (maxDischargeDepth := 120) [gF, buk0, Bucket.enc, *] <;> refine ⟨?_⟩) | (refine RunQ.k rfl rfl rfl rfl rfl ?_ (bb) ?_ ?_ <;> simp (maxDischargeDepth := 120) [gF, buk0, Bucket.enc, *] <;> refine ⟨?_⟩) | (refine WK.t Tryz.func141 ?_ ?_ <;> simp (maxDischargeDepth := 120) [Tryz.results141, gF, buk0, Bucket.enc, *]))
 have c0' : ¬ (b.length : Int) < 16 := by omega
 have hdef : bkRead b = if (getN b 0 2).1 < 16 ∨ ¬ (getN b 0 2).1 % 8 = 0 ∨ (b.length : Int) < (getN b 0 2).1 ∨ allZ ((b.drop 12).take 4) = false then (buk0, 0, some (6, 12))
   else (⟨(getN b 2 2).1, (getN b 4 4).1, (getN b 8 4).1, (acDec ((b.drop 16).take ((getN b 0 2).1.toNat - 16))).1⟩, (getN b 0 2).1, (acDec ((b.drop 16).take ((getN b 0 2).1.toNat - 16))).2.map fun c => (2, c)) := by
   unfold bkRead
   by_cases hh : (getN b 0 2).1 < 16 ∨ ¬ (getN b 0 2).1 % 8 = 0 ∨ (b.length : Int) < (getN b 0 2).1 ∨ allZ ((b.drop 12).take 4) = false
   · rw [if_pos hh, if_pos (.inr hh)]
   · rw [if_neg hh, if_neg fun h => hh (h.resolve_left c0)]
 have hlt : valN ((b.drop 0).take 2) < 65536 := valN_lt 2 _ (by simp; omega)
 rw [getN_val (by omega)] at g0 hdef
 obtain ⟨n, hn⟩ : ∃ n, valN ((b.drop 0).take 2) = n := ⟨_, rfl⟩
 rw [hn] at g0 hdef hlt
 simp only [Int.toNat_natCast] at hdef
 have m7 := bAnd7 n hlt
 have z7 : (((n % 8 : Nat) : Int) == 0) = (n % 8 == 0) := by rw [Bool.eq_iff_iff, beq_iff_eq, beq_iff_eq]; omega
 have hz4 : ((byL b).drop 12).take 4 = byL ((b.drop 12).take 4) := by rw [byL_drop, byL_take]
 have hl4 : ((b.drop 12).take 4).length = 4 := by rw [List.length_take, List.length_drop]; omega
 obtain ⟨Z, hZ⟩ : ∃ Z, (b.drop 12).take 4 = Z := ⟨_, rfl⟩
 rw [hZ] at hz hz4 hdef hl4
 have c0b : (16 : Int) ≤ b.length := by omega
 have c0c : (12 : Int) ≤ b.length := by omega
 clear hn hZ
 obtain ⟨z, hz0⟩ : ∃ z, allZ Z = z := ⟨_, rfl⟩
 rw [hz0] at hz hdef
 clear hz0
 by_cases c1 : n < 16
 · have e : bkRead b = (buk0, 0, some (6, 12)) := by rw [hdef, if_pos (.inl (by omega))]
   have d1 : (n : Int) < 16 := by omega
   rw [e]
   unfold byS at *
   clear hdef hz
   refine FnP.i Tryz.func141 rfl rfl fun G w => ?_
   repeat' (first | apply WK.s | refine WK.cT rfl ?_ | (refine hQ.h _ _ ?_; clear hQ hA) | (refine WK.rH Tryz.ntmps141 (by kernel_rfl) ?_; intro A hA Q hQ; simp [gF, buk0, Bucket.enc, *]) | (refine RunQ.g rfl (by rw [hA.h]; rfl) ?_; simp [gF, buk0, Bucket.enc, *]) | (refine RunQ.k rfl rfl rfl rfl rfl ?_ (g0) ?_ ?_ <;> simp (maxDischargeDepth := 120) [gF, buk0, Bucket.enc, *] <;> refine ⟨?_⟩) | (refine RunQ.k rfl rfl rfl rfl rfl ?_ (bb) ?_ ?_ <;> simp (maxDischargeDepth := 120) [gF, buk0, Bucket.enc, *] <;> refine ⟨?_⟩) | (refine WK.t Tryz.func141 ?_ ?_ <;> simp (maxDischargeDepth := 120) [Tryz.results141, gF, buk0, Bucket.enc, *]))
 have d1 : ¬ (n : Int) < 16 := by omega
 by_cases c2 : n % 8 = 0
 case neg =>
   have e : bkRead b = (buk0, 0, some (6, 12)) := by rw [hdef, if_pos (.inr (.inl (by omega)))]
   have d2 : (n % 8 == 0) = false := by simpa using c2
   rw [d2] at z7
   rw [e]
   unfold byS at *
   obtain ⟨r, hr⟩ : ∃ r, n % 8 = r := ⟨_, rfl⟩
   rw [hr] at m7 z7
   clear hdef hz hr c2 d2
   refine FnP.i Tryz.func141 rfl rfl fun G w => ?_
   repeat' (first | apply WK.s | refine WK.cT rfl ?_ | (refine hQ.h _ _ ?_; clear hQ hA) | (refine WK.rH Tryz.ntmps141 (by kernel_rfl) ?_; intro A hA Q hQ; simp [gF, buk0, Bucket.enc, bne, *]) | (refine RunQ.g rfl (by rw [hA.h]; rfl) ?_; simp [gF, buk0, Bucket.enc, bne, *]) | (refine RunQ.k rfl rfl rfl rfl rfl ?_ (g0) ?_ ?_ <;> simp (maxDischargeDepth := 120) [gF, buk0, Bucket.enc, bne, *] <;> refine ⟨?_⟩) | (refine RunQ.k rfl rfl rfl rfl rfl ?_ (bb) ?_ ?_ <;> simp (maxDischargeDepth := 120) [gF, buk0, Bucket.enc, bne, *] <;> refine ⟨?_⟩) | (refine WK.t Tryz.func141 ?_ ?_ <;> simp (maxDischargeDepth := 120) [Tryz.results141, gF, buk0, Bucket.enc, bne, *]))
 have d2 : (n % 8 == 0) = true := by simpa using c2
 rw [d2] at z7
 by_cases c3 : b.length < n
 · have e : bkRead b = (buk0, 0, some (6, 12)) := by rw [hdef, if_pos (.inr (.inr (.inl (by omega))))]
   have d3 : (b.length : Int) < n := by omega
   rw [e]
   unfold byS at *
   obtain ⟨r, hr⟩ : ∃ r, n % 8 = r := ⟨_, rfl⟩
   rw [hr] at m7 z7
   clear hdef hz hr c2 d2
   refine FnP.i Tryz.func141 rfl rfl fun G w => ?_
   repeat' (first | apply WK.s | refine WK.cT rfl ?_ | (refine hQ.h _ _ ?_; clear hQ hA) | (refine WK.rH Tryz.ntmps141 (by kernel_rfl) ?_; intro A hA Q hQ; simp [gF, buk0, Bucket.enc, bne, *]) | (refine RunQ.g rfl (by rw [hA.h]; rfl) ?_; simp [gF, buk0, Bucket.enc, bne, *]) | (refine RunQ.k rfl rfl rfl rfl rfl ?_ (g0) ?_ ?_ <;> simp (maxDischargeDepth := 120) [gF, buk0, Bucket.enc, bne, *] <;> refine ⟨?_⟩) | (refine RunQ.k rfl rfl rfl rfl rfl ?_ (bb) ?_ ?_ <;> simp (maxDischargeDepth := 120) [gF, buk0, Bucket.enc, bne, *] <;> refine ⟨?_⟩) | (refine WK.t Tryz.func141 ?_ ?_ <;> simp (maxDischargeDepth := 120) [Tryz.results141, gF, buk0, Bucket.enc, bne, *]))
 have d3 : ¬ (b.length : Int) < n := by omega
 obtain ⟨r, hr⟩ : ∃ r, n % 8 = r := ⟨_, rfl⟩
 rw [hr] at m7 z7
 cases z
 · have e : bkRead b = (buk0, 0, some (6, 12)) := by rw [hdef, if_pos (.inr (.inr (.inr rfl)))]
   rw [e]
   unfold byS at *
   rw [hl4] at hz
   clear hdef hr c2 d2
   refine FnP.i Tryz.func141 rfl rfl fun G w => ?_
   repeat' (first | apply WK.s | refine WK.cT rfl ?_ | (refine hQ.h _ _ ?_; clear hQ hA) | (refine WK.rH Tryz.ntmps141 (by kernel_rfl) ?_; intro A hA Q hQ; simp [gF, buk0, Bucket.enc, bne, *]) | (refine RunQ.g rfl (by rw [hA.h]; rfl) ?_; simp [gF, buk0, Bucket.enc, bne, *]) | (refine RunQ.k rfl rfl rfl rfl rfl ?_ (g0) ?_ ?_ <;> simp (maxDischargeDepth := 120) [gF, buk0, Bucket.enc, bne, *] <;> refine ⟨?_⟩) | (refine RunQ.k rfl rfl rfl rfl rfl ?_ (bb) ?_ ?_ <;> simp (maxDischargeDepth := 120) [gF, buk0, Bucket.enc, bne, *] <;> refine ⟨?_⟩) | (refine RunQW.k rfl rfl rfl rfl ?_ (hz) ?_ ?_ <;> simp (maxDischargeDepth := 120) [gF, buk0, Bucket.enc, bne, *] <;> refine ⟨?_⟩) | (refine WK.t Tryz.func141 ?_ ?_ <;> simp (maxDischargeDepth := 120) [Tryz.results141, gF, buk0, Bucket.enc, bne, *]))
 have g1 := nget_c b 2 2 Sz2 (by omega) (by omega)
 have g2 := nget_c b 4 4 Sz4 (by omega) (by omega)
 have g3 := nget_c b 8 4 Sz4 (by omega) (by omega)
 have hac := acdecP_c ((b.drop 16).take (n - 16)) (by rw [List.length_take, List.length_drop]; omega)
 rw [if_neg (by rintro (h | h | h | h); omega; omega; omega; cases h)] at hdef
 have hs : ((byL b).drop 16).take (n - 16) = byL ((b.drop 16).take (n - 16)) := by rw [byL_drop, byL_take]
 have hsl : ((b.drop 16).take (n - 16)).length = n - 16 := by rw [List.length_take, List.length_drop]; omega
 obtain ⟨S, hS⟩ : ∃ S, (b.drop 16).take (n - 16) = S := ⟨_, rfl⟩
 rw [hS] at hac hs hsl hdef
 obtain ⟨R, hR⟩ : ∃ R, acDec S = R := ⟨_, rfl⟩
 rw [hR] at hac hdef
 obtain ⟨l, f⟩ := R
 obtain ⟨q1, h1⟩ : ∃ q, getN b 2 2 = q := ⟨_, rfl⟩
 obtain ⟨q2, h2⟩ : ∃ q, getN b 4 4 = q := ⟨_, rfl⟩
 obtain ⟨q3, h3⟩ : ∃ q, getN b 8 4 = q := ⟨_, rfl⟩
 rw [h1] at g1 hdef
 rw [h2] at g2 hdef
 rw [h3] at g3 hdef
 rw [hdef]
 unfold byS actS at *
 rw [hl4] at hz
 rw [hsl] at hac
 rw [aFault_g] at hac
 have d4 : (n : Int) ≤ b.length := by omega
 have d5 : (16 : Int) ≤ n := by omega
 clear hdef hr c2 d2 hS hR h1 h2 h3
 refine FnP.i Tryz.func141 rfl rfl fun G w => ?_
 cases f <;>
 · repeat' (first | apply WK.s | apply WK.k | refine WK.cF rfl ?_ | (refine hQ.h _ _ ?_; clear hQ hA) | (refine WK.rH Tryz.ntmps141 (by kernel_rfl) ?_; intro A hA Q hQ; simp [gF, buk0, Bucket.enc, bne, *]) | (refine WK.rX (by kernel_rfl) Tryz.ntmps141 (by kernel_rfl) ?_; intro A hA Q hQ; simp [gF, buk0, Bucket.enc, bne, *]) | (refine hQ.h _ _ _ (by decide +kernel) ?_; clear hQ hA) | (refine RunQ.g rfl (by rw [hA.h]; rfl) ?_; simp [gF, buk0, Bucket.enc, bne, *]) | (refine RunQ.k rfl rfl rfl rfl rfl ?_ (g0) ?_ ?_ <;> simp (maxDischargeDepth := 120) [gF, buk0, Bucket.enc, bne, *] <;> refine ⟨?_⟩) | (refine RunQ.k rfl rfl rfl rfl rfl ?_ (g1) ?_ ?_ <;> simp (maxDischargeDepth := 120) [gF, buk0, Bucket.enc, bne, *] <;> refine ⟨?_⟩) | (refine RunQ.k rfl rfl rfl rfl rfl ?_ (g2) ?_ ?_ <;> simp (maxDischargeDepth := 120) [gF, buk0, Bucket.enc, bne, *] <;> refine ⟨?_⟩) | (refine RunQ.k rfl rfl rfl rfl rfl ?_ (g3) ?_ ?_ <;> simp (maxDischargeDepth := 120) [gF, buk0, Bucket.enc, bne, *] <;> refine ⟨?_⟩) | (refine RunQ.k rfl rfl rfl rfl rfl ?_ (hac) ?_ ?_ <;> simp (maxDischargeDepth := 120) [gF, buk0, Bucket.enc, bne, *] <;> refine ⟨?_⟩) | (refine RunQW.k rfl rfl rfl rfl ?_ (hz) ?_ ?_ <;> simp (maxDischargeDepth := 120) [gF, buk0, Bucket.enc, bne, *] <;> refine ⟨?_⟩) | (refine WK.t Tryz.func141 ?_ ?_ <;> simp (maxDischargeDepth := 120) [Tryz.results141, gF, buk0, Bucket.enc, bne, *]))
end Go.Proofs.YtcccfbjkcahgfaaGreat
