/- Buckets: the laws. -/
import Derived.Test.YteonfhnljphbpaaWk7
set_option linter.all false
set_option linter.unnecessarySimpa false
section
set_option linter.unusedVariables false
set_option linter.unusedSimpArgs false
namespace Go.Proofs.Yteonfhnljphbpaa
open Go Go.AI Go.Proofs
attribute [local irreducible] FnP FnO FnB FnT FnSeq WK RunQ RunQW RunX RunXW

def Bucket.same (a b : Bucket) : Bool := a.weight == b.weight && (a.watch == b.watch && (a.wgroup == b.wgroup && eqBy (· == ·) a.acts b.acts))
theorem bkSame_self (x : Bucket) : Bucket.same x x = true := by unfold Bucket.same; simp [eqBy_selfA]
theorem bsame_c (a b : Bucket) (ha : a.acts.length ≤ 1000000) : FnP Try.prog 68 [.agg a.enc, .agg b.enc] (.bool (Bucket.same a b)) := by
  have hsa := acsame_c a.acts b.acts ha
  unfold actS at hsa
  have e : Bucket.same a b = (a.weight == b.weight && (a.watch == b.watch && (a.wgroup == b.wgroup && eqBy (· == ·) a.acts b.acts))) := rfl
  obtain ⟨s, hs⟩ : ∃ s, eqBy (· == ·) a.acts b.acts = s := ⟨_, rfl⟩
  rw [hs] at hsa e
  refine FnP.intro Try.func68 rfl rfl fun G w => ?_
  repeat' (first
   | refine WK.seq ?_
   | refine WK.block ?_
   | refine WK.inBlock ?_
   | refine WK.skip ?_
   | refine WK.label ?_
   | refine WK.scope ?_
   | refine WK.inScope ?_
   | refine WK.exit rfl ?_
   | refine WK.condT rfl ?_
   | refine WK.condF rfl ?_
   | (refine Hid.h hQ _ _ ?_; clear hQ hA)
   | refine WK.condAny rfl ?_ ?_
   | ((first | refine WK.cond2 rfl (fun h => ?_) (fun h => ?_) | refine Fork.mk (fun h => ?_) (fun h => ?_)) <;> (first | (simp [*] at h; done) | (have h2 := h; simp at h2; exfalso; omega) | (have h2 := h; simp at h2; try simp only [Bool.not_eq_true', Bool.not_eq_false'] at h) | skip))
   | (refine WK.regH Try.ntmps68 (by kernel_rfl) ?_; intro A hA Q hQ; simp [Bucket.enc, *])
   | (refine RunQ.gd rfl (by rw [hA.h]; rfl) ?_; simp [Bucket.enc, *])
   | (((first | refine RunQ.call rfl rfl rfl rfl rfl ?_ (hsa) ?_ ?_ | refine RunQW.call rfl rfl rfl rfl ?_ (hsa) ?_ ?_); (focus (simp (maxDischargeDepth := 120) [Bucket.enc, *]; done))); (focus (simp [Bucket.enc, *]; done)); refine RunQ.evalH ?_; simp [Bucket.enc, *])
   | (refine WK.ret Try.func68 ?_ ?_ <;> simp (maxDischargeDepth := 120) [Try.results68, Bucket.enc, *])
   | fail)
theorem bsameL_c (l m : List Bucket) (hl : l.length ≤ 1000000) (ha : ∀ x, x ∈ l → x.acts.length ≤ 1000000) : FnP Try.prog 30 [bukS l, bukS m] (.bool (eqBy Bucket.same l m)) := by
  have h := eqf_buk 68 [] Bucket.same l m rfl hl (fun x hx y _ => bsame_c x y (ha x hx))
  unfold bukS at *
  refine FnP.intro Try.func30 rfl rfl fun G w => ?_
  repeat' (first
   | refine WK.seq ?_
   | refine WK.block ?_
   | refine WK.inBlock ?_
   | refine WK.skip ?_
   | refine WK.label ?_
   | refine WK.scope ?_
   | refine WK.inScope ?_
   | refine WK.exit rfl ?_
   | refine WK.condT rfl ?_
   | refine WK.condF rfl ?_
   | (refine Hid.h hQ _ _ ?_; clear hQ hA)
   | refine WK.condAny rfl ?_ ?_
   | ((first | refine WK.cond2 rfl (fun h => ?_) (fun h => ?_)) <;> (first | (simp [*] at h; done) | (have h2 := h; simp at h2; exfalso; omega) | (have h2 := h; simp at h2; try simp only [Bool.not_eq_true', Bool.not_eq_false'] at h) | skip))
   | (refine WK.regH Try.ntmps30 (by kernel_rfl) ?_; intro A hA Q hQ; simp [*])
   | ((refine RunQ.call rfl rfl rfl rfl rfl ?_ (h) ?_ ?_; (focus (simp (maxDischargeDepth := 120) [*]; done))); (focus (simp [*]; done)); refine RunQ.evalH ?_; simp [*])
   | (refine WK.ret Try.func30 ?_ ?_ <;> simp (maxDischargeDepth := 120) [Try.results30, *])
   | fail)
def bucketsPlain (l : List Bucket) (m : Int) : Bool := decide ((l.length : Int) ≤ m) && l.all fun x => actsPlain x.acts
theorem pbuk1_c (x : Bucket) : FnP Try.prog 61 [.agg x.enc] (.bool (!actsPlain x.acts)) := by
  have h := pacts_c x.acts
  unfold actS at h
  refine FnP.intro Try.func61 rfl rfl fun G w => ?_
  repeat' (first
   | refine WK.seq ?_
   | refine WK.block ?_
   | refine WK.inBlock ?_
   | refine WK.skip ?_
   | refine WK.label ?_
   | refine WK.scope ?_
   | refine WK.inScope ?_
   | refine WK.exit rfl ?_
   | refine WK.condT rfl ?_
   | refine WK.condF rfl ?_
   | (refine Hid.h hQ _ _ ?_; clear hQ hA)
   | refine WK.condAny rfl ?_ ?_
   | ((first | refine WK.cond2 rfl (fun h => ?_) (fun h => ?_)) <;> (first | (simp [*] at h; done) | (have h2 := h; simp at h2; exfalso; omega) | (have h2 := h; simp at h2; try simp only [Bool.not_eq_true', Bool.not_eq_false'] at h) | skip))
   | (refine WK.regH Try.ntmps61 (by kernel_rfl) ?_; intro A hA Q hQ; simp [Bucket.enc, *])
   | ((refine RunQ.call rfl rfl rfl rfl rfl ?_ (h) ?_ ?_; (focus (simp (maxDischargeDepth := 120) [Bucket.enc, *]; done))); (focus (simp [Bucket.enc, *]; done)); refine RunQ.evalH ?_; simp [Bucket.enc, *])
   | (refine WK.ret Try.func61 ?_ ?_ <;> simp (maxDischargeDepth := 120) [Try.results61, Bucket.enc, *])
   | fail)
theorem pbuckets_c (l : List Bucket) (m : Int) (hm : m ≤ 1000) : FnP Try.prog 27 [bukS l, .int .i64 m] (.bool (bucketsPlain l m)) := by
  unfold bucketsPlain
  by_cases h1 : (l.length : Int) ≤ m
  · have hco := containsf_buk 61 [] (fun x => !actsPlain x.acts) l rfl (by omega) (fun x _ => pbuk1_c x)
    rw [anyNot_all] at hco
    have e : decide ((l.length : Int) ≤ m) = true := by simpa using h1
    unfold bukS at *
    refine FnP.intro Try.func27 rfl rfl fun G w => ?_
    repeat' (first
     | refine WK.seq ?_
     | refine WK.block ?_
     | refine WK.inBlock ?_
     | refine WK.skip ?_
     | refine WK.label ?_
     | refine WK.scope ?_
     | refine WK.inScope ?_
     | refine WK.exit rfl ?_
     | refine WK.condT rfl ?_
     | refine WK.condF rfl ?_
     | (refine Hid.h hQ _ _ ?_; clear hQ hA)
     | refine WK.condAny rfl ?_ ?_
     | ((first | refine WK.cond2 rfl (fun h => ?_) (fun h => ?_) | refine Fork.mk (fun h => ?_) (fun h => ?_)) <;> (first | (simp [*] at h; done) | (have h2 := h; simp at h2; exfalso; omega) | (have h2 := h; simp at h2; try simp only [Bool.not_eq_true', Bool.not_eq_false'] at h) | skip))
     | (refine WK.regH Try.ntmps27 (by kernel_rfl) ?_; intro A hA Q hQ; simp [*])
     | (refine RunQ.gd rfl (by rw [hA.h]; rfl) ?_; simp [*])
     | (((first | refine RunQ.call rfl rfl rfl rfl rfl ?_ (hco) ?_ ?_ | refine RunQW.call rfl rfl rfl rfl ?_ (hco) ?_ ?_); (focus (simp (maxDischargeDepth := 120) [*]; done))); (focus (simp [*]; done)); refine RunQ.evalH ?_; simp [*])
     | (refine WK.ret Try.func27 ?_ ?_ <;> simp (maxDischargeDepth := 120) [Try.results27, *])
     | fail)
  · have e : decide ((l.length : Int) ≤ m) = false := by simpa using h1
    unfold bukS at *
    refine FnP.intro Try.func27 rfl rfl fun G w => ?_
    repeat' (first
     | refine WK.seq ?_
     | refine WK.block ?_
     | refine WK.inBlock ?_
     | refine WK.skip ?_
     | refine WK.label ?_
     | refine WK.scope ?_
     | refine WK.inScope ?_
     | refine WK.exit rfl ?_
     | refine WK.condT rfl ?_
     | refine WK.condF rfl ?_
     | (refine Hid.h hQ _ _ ?_; clear hQ hA)
     | refine WK.condAny rfl ?_ ?_
     | ((first | refine WK.cond2 rfl (fun h => ?_) (fun h => ?_) | refine Fork.mk (fun h => ?_) (fun h => ?_)) <;> (first | (simp [*] at h; done) | (have h2 := h; simp at h2; exfalso; omega) | (have h2 := h; simp at h2; try simp only [Bool.not_eq_true', Bool.not_eq_false'] at h) | skip))
     | (refine WK.regH Try.ntmps27 (by kernel_rfl) ?_; intro A hA Q hQ; simp [*])
     | (refine RunQ.gd rfl (by rw [hA.h]; rfl) ?_; simp [*])
     | (refine WK.ret Try.func27 ?_ ?_ <;> simp (maxDischargeDepth := 120) [Try.results27, *])
     | fail)
theorem bucketsPlain_facts {l : List Bucket} {m : Int} (h : bucketsPlain l m = true) : (l.length : Int) ≤ m ∧ ∀ x, x ∈ l → x.acts.length ≤ 12 := by
  unfold bucketsPlain at h
  rw [Bool.and_eq_true, decide_eq_true_eq, List.all_eq_true] at h
  exact ⟨h.1, fun x hx => by have := h.2 x hx; unfold actsPlain at this; simpa using this⟩
theorem bkencP_c (l : List Bucket) (hl : l.length ≤ 1000000) (ha : ∀ x, x ∈ l → x.acts.length ≤ 1000000) : FnP Try.prog 28 [bukS l] (.tup [byS (bkEnc l).1, .int .i64 (bkEnc l).2]) := by
  have h := (bkenc_c l hl ha).toP (by simp [byL_take]) (by rfl)
  rwa [Nat.mul_one, by_full _ _ rfl] at h
theorem bkdecP_c (b : List (BitVec 8)) (hb : b.length ≤ 1000000) : FnP Try.prog 24 [byS b] (.tup [bukS (bkDec b).1, .agg (gFault (bkDec b).2)]) := by
  have h := (bkdec_c b hb).toP (by simp) (by simp [ClL, Cl])
  rwa [bukL_take] at h
theorem bkRead_small {b : List (BitVec 8)} {y : Bucket} {n : Int} (h : bkRead b = (y, n, none)) : y.acts.length * 8 ≤ b.length := by
  unfold bkRead at h
  split at h
  · cases h
  · simp only [Prod.mk.injEq] at h
    obtain ⟨rfl, _, _⟩ := h
    obtain ⟨R, hR⟩ : ∃ R, acDec ((b.drop 16).take ((getN b 0 2).1.toNat - 16)) = R := ⟨_, rfl⟩
    obtain ⟨l, c⟩ := R
    have := acDec_small hR
    simp only [hR, List.length_take, List.length_drop] at this ⊢
    omega
theorem rwF_all {α φ : Type} {rd : List (BitVec 8) → α × Int × Option φ} {ok : Nat → α → Prop} (hm : ∀ {n m a}, n ≤ m → ok n a → ok m a) (hb : ∀ b y n, rd b = (y, n, none) → ok b.length y) :
    ∀ (f : Nat) (b : List (BitVec 8)), ∀ a, a ∈ (rwF rd f b).1 → ok b.length a
  | 0, b, a, ha => by simp [rwF] at ha
  | f + 1, b, a, ha => by
    rw [rwF] at ha
    split at ha
    · simp at ha
    obtain ⟨y, n, c, hd⟩ : ∃ y n c, rd b = (y, n, c) := ⟨_, _, _, rfl⟩
    rw [hd] at ha
    cases c with
    | some c => simp at ha
    | none =>
      simp only at ha
      obtain ⟨R, hR⟩ : ∃ R, rwF rd f (b.drop n.toNat) = R := ⟨_, rfl⟩
      obtain ⟨m, c⟩ := R
      cases c with
      | some c => simp [rwGlue, hR] at ha
      | none =>
        simp only [rwGlue, hR, List.cons_append, List.nil_append, List.mem_cons] at ha
        rcases ha with rfl | ha
        · exact hb _ _ _ hd
        · have := rwF_all (ok := ok) hm hb f (b.drop n.toNat) a (by rw [hR]; exact ha)
          exact hm (by rw [List.length_drop]; omega) this
theorem bkDec_small {b : List (BitVec 8)} {l : List Bucket} {c : Option (Int × Int)} (h : bkDec b = (l, c)) : l.length ≤ 100 ∧ ∀ x, x ∈ l → x.acts.length * 8 ≤ b.length := by
  cases c with
  | some c => rw [bkDec_bad h]; simp
  | none =>
    unfold bkDec at h
    split at h
    · cases h
    split at h
    · cases h
    · rename_i h2
      rw [h] at h2
      refine ⟨by simp only [true_and] at h2; omega, fun x hx => ?_⟩
      exact rwF_all (ok := fun n (x : Bucket) => x.acts.length * 8 ≤ n) (fun h1 h2 => by omega) (fun b y n hd => bkRead_small hd) b.length b x (by show x ∈ (rwDec bkRead b).1; rw [h]; exact hx)
def L15 : List Bucket := [⟨1, 4, 4294967295, [⟨0, 3, 0, 0, 0, oxm0⟩]⟩, ⟨0, 0, 0, []⟩]
theorem fL15a : (bkEnc L15).1.length = 48 := by kernel_rfl
theorem fL15b : (bkEnc L15).2 = 0 := by kernel_rfl
theorem fL15c : bkDec (bkEnc L15).1 = (L15, none) := by kernel_rfl
theorem fL15d : bkDec [1#8] = ([], some (6, 12)) := by kernel_rfl
theorem fL15e : bkRight (nth L15 0) = true := by kernel_rfl
set_option maxHeartbeats 4000000 in
theorem awake15_c : FnP Try.prog 23 [] (.bool true) := by
  have hl : L15.length ≤ 1000000 := by decide
  have ha : ∀ x, x ∈ L15 → x.acts.length ≤ 1000000 := by
    intro x hx; simp [L15] at hx; rcases hx with rfl | rfl <;> simp
  have p := bkencP_c L15 hl ha
  have d := bkdecP_c (bkEnc L15).1 (by rw [fL15a]; omega)
  have d1 := bkdecP_c [1#8] (by decide)
  have s := bsameL_c L15 L15 hl ha
  have r := bright_c (nth L15 0) (by decide)
  rw [fL15c] at d
  rw [fL15d] at d1
  rw [fL15b] at p
  rw [fL15e] at r
  rw [eqBy_refl bkSame_self] at s
  have hB := fL15a
  obtain ⟨B, hBB⟩ : ∃ B, (bkEnc L15).1 = B := ⟨_, rfl⟩
  rw [hBB] at p d hB
  clear hBB
  unfold byS at p d d1
  rw [hB] at p d
  simp only [nth, List.getD_cons_zero, gFault, bukS, bukL, L15, actL, List.flatMap_cons, List.flatMap_nil, List.append_nil, List.cons_append, List.nil_append, List.length_cons, List.length_nil, Bucket.enc, Action.enc, oxm0, wideZ, uI_zero] at p d d1 s r
  have e1 : byL [1#8] = [.int .u8 1] := rfl
  rw [e1] at d1
  simp only [Nat.zero_add, Nat.reduceAdd] at d1
  refine FnP.intro Try.func23 rfl rfl fun G w => ?_
  repeat' (first
   | refine WK.seq ?_
   | refine WK.block ?_
   | refine WK.inBlock ?_
   | refine WK.skip ?_
   | refine WK.label ?_
   | refine WK.scope ?_
   | refine WK.inScope ?_
   | refine WK.exit rfl ?_
   | refine WK.condT rfl ?_
   | refine WK.condF rfl ?_
   | (refine Hid.h hQ _ _ ?_; clear hQ hA)
   | refine WK.condAny rfl ?_ ?_
   | ((first | refine WK.cond2 rfl (fun h => ?_) (fun h => ?_) | refine Fork.mk (fun h => ?_) (fun h => ?_)) <;> (first | (simp [*] at h; done) | (have h2 := h; simp at h2; exfalso; omega) | (have h2 := h; simp at h2; try simp only [Bool.not_eq_true', Bool.not_eq_false'] at h) | skip))
   | (refine WK.regH Try.ntmps23 (by kernel_rfl) ?_; intro A hA Q hQ; simp [*])
   | (refine RunQ.gd rfl (by rw [hA.h]; rfl) ?_; simp [*])
   | ((first | ((first | refine RunQ.call rfl rfl rfl rfl rfl ?_ (p) ?_ ?_ | refine RunQW.call rfl rfl rfl rfl ?_ (p) ?_ ?_); (focus (simp (maxDischargeDepth := 120) [*]; done))) | ((first | refine RunQ.call rfl rfl rfl rfl rfl ?_ (d) ?_ ?_ | refine RunQW.call rfl rfl rfl rfl ?_ (d) ?_ ?_); (focus (simp (maxDischargeDepth := 120) [*]; done))) | ((first | refine RunQ.call rfl rfl rfl rfl rfl ?_ (d1) ?_ ?_ | refine RunQW.call rfl rfl rfl rfl ?_ (d1) ?_ ?_); (focus (simp (maxDischargeDepth := 120) [*]; done))) | ((first | refine RunQ.call rfl rfl rfl rfl rfl ?_ (s) ?_ ?_ | refine RunQW.call rfl rfl rfl rfl ?_ (s) ?_ ?_); (focus (simp (maxDischargeDepth := 120) [*]; done))) | ((first | refine RunQ.call rfl rfl rfl rfl rfl ?_ (r) ?_ ?_ | refine RunQW.call rfl rfl rfl rfl ?_ (r) ?_ ?_); (focus (simp (maxDischargeDepth := 120) [*]; done)))); (focus (simp [*]; done)); refine RunQ.evalH ?_; simp [*])
   | (refine WK.ret Try.func23 ?_ ?_ <;> simp (maxDischargeDepth := 120) [Try.results23, *])
   | fail)
end Go.Proofs.Yteonfhnljphbpaa
end

section
set_option linter.unusedVariables false
set_option linter.unusedSimpArgs false
namespace Go.Proofs.Yteonfhnljphbpaa
open Go Go.AI Go.Proofs
attribute [local irreducible] FnP FnO FnB FnT FnSeq WK RunQ RunQW RunX RunXW

theorem bucketBack_c (l : List Bucket) (b : List (BitVec 8)) : FnP Try.prog 8 [bukS l, byS b] (.bool true) := by
  have p1 := pbuckets_c l 110 (by omega)
  cases h1 : bucketsPlain l 110
  · rw [h1] at p1
    unfold bukS byS at *
    refine FnP.intro Try.func8 rfl rfl fun G w => ?_
    repeat' (first
     | refine WK.seq ?_
     | refine WK.block ?_
     | refine WK.inBlock ?_
     | refine WK.skip ?_
     | refine WK.label ?_
     | refine WK.scope ?_
     | refine WK.inScope ?_
     | refine WK.exit rfl ?_
     | refine WK.condT rfl ?_
     | refine WK.condF rfl ?_
     | (refine Hid.h hQ _ _ ?_; clear hQ hA)
     | refine WK.condAny rfl ?_ ?_
     | ((first | refine WK.cond2 rfl (fun h => ?_) (fun h => ?_) | refine Fork.mk (fun h => ?_) (fun h => ?_)) <;> (first | (simp [*] at h; done) | (have h2 := h; simp at h2; exfalso; omega) | (have h2 := h; simp at h2; try simp only [Bool.not_eq_true', Bool.not_eq_false'] at h) | skip))
     | (refine WK.regH Try.ntmps8 (by kernel_rfl) ?_; intro A hA Q hQ; simp [*])
     | (refine RunQ.gd rfl (by rw [hA.h]; rfl) ?_; simp [*])
     | ((first | ((first | refine RunQ.call rfl rfl rfl rfl rfl ?_ (p1) ?_ ?_ | refine RunQW.call rfl rfl rfl rfl ?_ (p1) ?_ ?_); (focus (simp (maxDischargeDepth := 120) [*]; done))) | ((first | refine RunQ.call rfl rfl rfl rfl rfl ?_ (awake15_c) ?_ ?_ | refine RunQW.call rfl rfl rfl rfl ?_ (awake15_c) ?_ ?_); (focus (simp (maxDischargeDepth := 120) [*]; done)))); (focus (simp [*]; done)); refine RunQ.evalH ?_; simp [*])
     | (refine WK.ret Try.func8 ?_ ?_ <;> simp (maxDischargeDepth := 120) [Try.results8, *])
     | fail)
  rw [h1] at p1
  by_cases g2 : 70000 < b.length
  · have g2' : (70000 : Int) < b.length := by omega
    unfold bukS byS at *
    clear h1
    refine FnP.intro Try.func8 rfl rfl fun G w => ?_
    repeat' (first
     | refine WK.seq ?_
     | refine WK.block ?_
     | refine WK.inBlock ?_
     | refine WK.skip ?_
     | refine WK.label ?_
     | refine WK.scope ?_
     | refine WK.inScope ?_
     | refine WK.exit rfl ?_
     | refine WK.condT rfl ?_
     | refine WK.condF rfl ?_
     | (refine Hid.h hQ _ _ ?_; clear hQ hA)
     | refine WK.condAny rfl ?_ ?_
     | ((first | refine WK.cond2 rfl (fun h => ?_) (fun h => ?_) | refine Fork.mk (fun h => ?_) (fun h => ?_)) <;> (first | (simp [*] at h; done) | (have h2 := h; simp at h2; exfalso; omega) | (have h2 := h; simp at h2; try simp only [Bool.not_eq_true', Bool.not_eq_false'] at h) | skip))
     | (refine WK.regH Try.ntmps8 (by kernel_rfl) ?_; intro A hA Q hQ; simp [*])
     | (refine RunQ.gd rfl (by rw [hA.h]; rfl) ?_; simp [*])
     | ((first | ((first | refine RunQ.call rfl rfl rfl rfl rfl ?_ (p1) ?_ ?_ | refine RunQW.call rfl rfl rfl rfl ?_ (p1) ?_ ?_); (focus (simp (maxDischargeDepth := 120) [*]; done))) | ((first | refine RunQ.call rfl rfl rfl rfl rfl ?_ (awake15_c) ?_ ?_ | refine RunQW.call rfl rfl rfl rfl ?_ (awake15_c) ?_ ?_); (focus (simp (maxDischargeDepth := 120) [*]; done)))); (focus (simp [*]; done)); refine RunQ.evalH ?_; simp [*])
     | (refine WK.ret Try.func8 ?_ ?_ <;> simp (maxDischargeDepth := 120) [Try.results8, *])
     | fail)
  have g2' : ¬ (70000 : Int) < b.length := by omega
  obtain ⟨hl, ha0⟩ := bucketsPlain_facts h1
  have ha : ∀ x, x ∈ l → x.acts.length ≤ 1000000 := fun x hx => by have := ha0 x hx; omega
  have p := bkencP_c l (by omega) ha
  have hEl := bkEnc_len l
  have dd := bkdecP_c (bkEnc l).1 (by omega)
  have s := bsameL_c l l (by omega) ha
  rw [eqBy_refl bkSame_self] at s
  have d2 := bkdecP_c b (by omega)
  simp only [byS, bukS] at d2 p1 ⊢
  clear h1
  refine FnP.intro Try.func8 rfl rfl fun G w => ?_
  repeat (first | refine WK.seq ?_ | refine WK.block ?_ | refine WK.inBlock ?_ | refine WK.skip ?_ | refine WK.label ?_ | refine WK.scope ?_ | refine WK.inScope ?_ | refine WK.exit rfl ?_)
  apply WK.cut (⟨(upd J 1 (.sl false b.length (byL b))), B0, 0⟩ : St)
  · intro hcut
    by_cases hr : (bkEnc l).2 = 0
    · have e := bkEnc_back hr
      rw [e] at dd
      rw [hr] at p
      simp only [byS, bukS] at p dd s
      clear e hr
      repeat' (first
       | refine WK.seq ?_
       | refine WK.block ?_
       | refine WK.inBlock ?_
       | refine WK.skip ?_
       | refine WK.label ?_
       | refine WK.scope ?_
       | refine WK.inScope ?_
       | refine WK.exit rfl ?_
       | refine WK.condT rfl ?_
       | refine WK.condF rfl ?_
       | (refine Hid.h hQ _ _ ?_; clear hQ hA)
       | refine WK.condAny rfl ?_ ?_
       | ((first | refine WK.cond2 rfl (fun h => ?_) (fun h => ?_) | refine Fork.mk (fun h => ?_) (fun h => ?_)) <;> (first | (simp [*] at h; done) | (have h2 := h; simp at h2; exfalso; omega) | (have h2 := h; simp at h2; try simp only [Bool.not_eq_true', Bool.not_eq_false'] at h) | skip))
       | ((first | refine WK.regH (id := 0) Try.ntmps8 (by kernel_rfl) ?_ | refine WK.regH (id := 1) Try.ntmps8 (by kernel_rfl) ?_ | refine WK.regH (id := 2) Try.ntmps8 (by kernel_rfl) ?_ | refine WK.regH (id := 3) Try.ntmps8 (by kernel_rfl) ?_ | refine WK.regH (id := 4) Try.ntmps8 (by kernel_rfl) ?_ | refine WK.regH (id := 5) Try.ntmps8 (by kernel_rfl) ?_ | refine WK.regH (id := 6) Try.ntmps8 (by kernel_rfl) ?_ | refine WK.regH (id := 7) Try.ntmps8 (by kernel_rfl) ?_); intro A hA Q hQ; simp [gFault, bne, *])
       | (refine RunQ.gd rfl (by rw [hA.h]; rfl) ?_; simp [gFault, bne, *])
       | ((first | ((first | refine RunQ.call rfl rfl rfl rfl rfl ?_ (p1) ?_ ?_ | refine RunQW.call rfl rfl rfl rfl ?_ (p1) ?_ ?_); (focus (simp (maxDischargeDepth := 120) [gFault, bne, *]; done))) | ((first | refine RunQ.call rfl rfl rfl rfl rfl ?_ (p) ?_ ?_ | refine RunQW.call rfl rfl rfl rfl ?_ (p) ?_ ?_); (focus (simp (maxDischargeDepth := 120) [gFault, bne, *]; done))) | ((first | refine RunQ.call rfl rfl rfl rfl rfl ?_ (dd) ?_ ?_ | refine RunQW.call rfl rfl rfl rfl ?_ (dd) ?_ ?_); (focus (simp (maxDischargeDepth := 120) [gFault, bne, *]; done))) | ((first | refine RunQ.call rfl rfl rfl rfl rfl ?_ (s) ?_ ?_ | refine RunQW.call rfl rfl rfl rfl ?_ (s) ?_ ?_); (focus (simp (maxDischargeDepth := 120) [gFault, bne, *]; done)))); (focus (simp [gFault, bne, *]; done)); refine RunQ.evalH ?_; simp [gFault, bne, *])
       | fail)
      repeat (first | refine WK.seq ?_ | refine WK.block ?_ | refine WK.inBlock ?_ | refine WK.skip ?_ | refine WK.label ?_ | refine WK.scope ?_ | refine WK.inScope ?_ | refine WK.exit rfl ?_)
      refine WK.next (fun n => n) hcut (by repeat (first | exact TmW.nil | refine TmW.upd ?_ (by simp (maxDischargeDepth := 120)))) (by repeat (first | exact BxW.nil | refine BxW.upd ?_ (by simp (maxDischargeDepth := 120)))) (by first | exact InjW.id | exact InjW.nil | exact InjW.one | exact InjW.two (by simp) | exact InjW.three (by simp) (by simp) (by simp))
    · have e := bkEnc_bad1 (l := l) (fun h => hr (by unfold bkEnc; rw [if_pos h]))
      rw [e] at p
      simp only [byS, bukS] at p
      clear e hr
      repeat' (first
       | refine WK.seq ?_
       | refine WK.block ?_
       | refine WK.inBlock ?_
       | refine WK.skip ?_
       | refine WK.label ?_
       | refine WK.scope ?_
       | refine WK.inScope ?_
       | refine WK.exit rfl ?_
       | refine WK.condT rfl ?_
       | refine WK.condF rfl ?_
       | (refine Hid.h hQ _ _ ?_; clear hQ hA)
       | refine WK.condAny rfl ?_ ?_
       | ((first | refine WK.cond2 rfl (fun h => ?_) (fun h => ?_) | refine Fork.mk (fun h => ?_) (fun h => ?_)) <;> (first | (simp [*] at h; done) | (have h2 := h; simp at h2; exfalso; omega) | (have h2 := h; simp at h2; try simp only [Bool.not_eq_true', Bool.not_eq_false'] at h) | skip))
       | ((first | refine WK.regH (id := 0) Try.ntmps8 (by kernel_rfl) ?_ | refine WK.regH (id := 1) Try.ntmps8 (by kernel_rfl) ?_ | refine WK.regH (id := 2) Try.ntmps8 (by kernel_rfl) ?_ | refine WK.regH (id := 3) Try.ntmps8 (by kernel_rfl) ?_ | refine WK.regH (id := 4) Try.ntmps8 (by kernel_rfl) ?_ | refine WK.regH (id := 5) Try.ntmps8 (by kernel_rfl) ?_ | refine WK.regH (id := 6) Try.ntmps8 (by kernel_rfl) ?_ | refine WK.regH (id := 7) Try.ntmps8 (by kernel_rfl) ?_); intro A hA Q hQ; simp [*])
       | (refine RunQ.gd rfl (by rw [hA.h]; rfl) ?_; simp [*])
       | ((first | ((first | refine RunQ.call rfl rfl rfl rfl rfl ?_ (p1) ?_ ?_ | refine RunQW.call rfl rfl rfl rfl ?_ (p1) ?_ ?_); (focus (simp (maxDischargeDepth := 120) [*]; done))) | ((first | refine RunQ.call rfl rfl rfl rfl rfl ?_ (p) ?_ ?_ | refine RunQW.call rfl rfl rfl rfl ?_ (p) ?_ ?_); (focus (simp (maxDischargeDepth := 120) [*]; done)))); (focus (simp [*]; done)); refine RunQ.evalH ?_; simp [*])
       | fail)
      repeat (first | refine WK.seq ?_ | refine WK.block ?_ | refine WK.inBlock ?_ | refine WK.skip ?_ | refine WK.label ?_ | refine WK.scope ?_ | refine WK.inScope ?_ | refine WK.exit rfl ?_)
      refine WK.next (fun n => n) hcut (by repeat (first | exact TmW.nil | refine TmW.upd ?_ (by simp (maxDischargeDepth := 120)))) (by repeat (first | exact BxW.nil | refine BxW.upd ?_ (by simp (maxDischargeDepth := 120)))) (by first | exact InjW.id | exact InjW.nil | exact InjW.one | exact InjW.two (by simp) | exact InjW.three (by simp) (by simp) (by simp))
  obtain ⟨R, hR⟩ : ∃ R, bkDec b = R := ⟨_, rfl⟩
  rw [hR] at d2
  obtain ⟨k, f⟩ := R
  clear dd s p
  cases f with
  | some c =>
    have e := bkDec_bad hR
    subst e
    clear hR
    repeat' (first
     | refine WK.seq ?_
     | refine WK.block ?_
     | refine WK.inBlock ?_
     | refine WK.skip ?_
     | refine WK.label ?_
     | refine WK.scope ?_
     | refine WK.inScope ?_
     | refine WK.exit rfl ?_
     | refine WK.condT rfl ?_
     | refine WK.condF rfl ?_
     | (refine Hid.h hQ _ _ ?_; clear hQ hA)
     | refine WK.condAny rfl ?_ ?_
     | ((first | refine WK.cond2 rfl (fun h => ?_) (fun h => ?_) | refine Fork.mk (fun h => ?_) (fun h => ?_)) <;> (first | (simp [*] at h; done) | (have h2 := h; simp at h2; exfalso; omega) | (have h2 := h; simp at h2; try simp only [Bool.not_eq_true', Bool.not_eq_false'] at h) | skip))
     | (refine WK.regH Try.ntmps8 (by kernel_rfl) ?_; intro A hA Q hQ; simp [gFault, *])
     | (refine RunQ.gd rfl (by rw [hA.h]; rfl) ?_; simp [gFault, *])
     | ((first | ((first | refine RunQ.call rfl rfl rfl rfl rfl ?_ (d2) ?_ ?_ | refine RunQW.call rfl rfl rfl rfl ?_ (d2) ?_ ?_); (focus (simp (maxDischargeDepth := 120) [gFault, *]; done))) | ((first | refine RunQ.call rfl rfl rfl rfl rfl ?_ (awake15_c) ?_ ?_ | refine RunQW.call rfl rfl rfl rfl ?_ (awake15_c) ?_ ?_); (focus (simp (maxDischargeDepth := 120) [gFault, *]; done)))); (focus (simp [gFault, *]; done)); refine RunQ.evalH ?_; simp [gFault, *])
     | (refine WK.ret Try.func8 ?_ ?_ <;> simp (maxDischargeDepth := 120) [Try.results8, gFault, *])
     | fail)
  | none =>
    have e := bkDec_back hR
    have hk := bkDec_small hR
    have p2 := bkencP_c k (by omega) (fun x hx => by have := hk.2 x hx; omega)
    rw [e] at p2
    have q := bequal_c b b (by omega)
    rw [beq_self_eq_true] at q
    simp only [byS, bukS] at p2 q
    clear hR e hk
    repeat' (first
     | refine WK.seq ?_
     | refine WK.block ?_
     | refine WK.inBlock ?_
     | refine WK.skip ?_
     | refine WK.label ?_
     | refine WK.scope ?_
     | refine WK.inScope ?_
     | refine WK.exit rfl ?_
     | refine WK.condT rfl ?_
     | refine WK.condF rfl ?_
     | (refine Hid.h hQ _ _ ?_; clear hQ hA)
     | refine WK.condAny rfl ?_ ?_
     | ((first | refine WK.cond2 rfl (fun h => ?_) (fun h => ?_) | refine Fork.mk (fun h => ?_) (fun h => ?_)) <;> (first | (simp [*] at h; done) | (have h2 := h; simp at h2; exfalso; omega) | (have h2 := h; simp at h2; try simp only [Bool.not_eq_true', Bool.not_eq_false'] at h) | skip))
     | (refine WK.regH Try.ntmps8 (by kernel_rfl) ?_; intro A hA Q hQ; simp [gFault, *])
     | (refine RunQ.gd rfl (by rw [hA.h]; rfl) ?_; simp [gFault, *])
     | ((first | ((first | refine RunQ.call rfl rfl rfl rfl rfl ?_ (d2) ?_ ?_ | refine RunQW.call rfl rfl rfl rfl ?_ (d2) ?_ ?_); (focus (simp (maxDischargeDepth := 120) [gFault, *]; done))) | ((first | refine RunQ.call rfl rfl rfl rfl rfl ?_ (p2) ?_ ?_ | refine RunQW.call rfl rfl rfl rfl ?_ (p2) ?_ ?_); (focus (simp (maxDischargeDepth := 120) [gFault, *]; done))) | ((first | refine RunQ.call rfl rfl rfl rfl rfl ?_ (q) ?_ ?_ | refine RunQW.call rfl rfl rfl rfl ?_ (q) ?_ ?_); (focus (simp (maxDischargeDepth := 120) [gFault, *]; done))) | ((first | refine RunQ.call rfl rfl rfl rfl rfl ?_ (awake15_c) ?_ ?_ | refine RunQW.call rfl rfl rfl rfl ?_ (awake15_c) ?_ ?_); (focus (simp (maxDischargeDepth := 120) [gFault, *]; done)))); (focus (simp [gFault, *]; done)); refine RunQ.evalH ?_; simp [gFault, *])
     | (refine WK.ret Try.func8 ?_ ?_ <;> simp (maxDischargeDepth := 120) [Try.results8, gFault, *])
     | fail)
end Go.Proofs.Yteonfhnljphbpaa
end
