/- Buckets: the laws. -/
import Derived.Test.YteonfhnljphbpaaWk12
set_option linter.all false
set_option linter.unnecessarySimpa false
set_option linter.unusedVariables false
set_option linter.unusedSimpArgs false
namespace Go.Proofs.Yteonfhnljphbpaa
open Go Go.AI Go.Proofs
attribute [local irreducible] FnP FnO FnB FnT FnSeq WK RunQ RunQW RunX RunXW

def Bucket.same (a b : Bucket) : Bool := a.weight == b.weight && (a.watch == b.watch && (a.wgroup == b.wgroup && eqBy (· == ·) a.acts b.acts))
theorem bkSame_self (x : Bucket) : Bucket.same x x = true := by unfold Bucket.same; simp [eqBy_selfA]
theorem bsame_c (a b : Bucket) (ha : a.acts.length ≤ 1000000) : FnP Try.prog 68 [.agg a.enc, .agg b.enc] (.bool (Bucket.same a b)) := by
  have hsa := acsame_c a.acts b.acts ha
  unfold actS at hsa
  have e : Bucket.same a b = (a.weight == b.weight && (a.watch == b.watch && (a.wgroup == b.wgroup && eqBy (· == ·) a.acts b.acts))) := rfl
  obtain ⟨s, hs⟩ : ∃ s, eqBy (· == ·) a.acts b.acts = s := ⟨_, rfl⟩
  rw [hs] at hsa e
  refine FnP.intro Try.func68 rfl rfl fun G w => ?_
  repeat' (first
   | refine WK.seq ?_
   | refine WK.block ?_
   | refine WK.inBlock ?_
   | refine WK.skip ?_
   | refine WK.label ?_
   | refine WK.scope ?_
   | refine WK.inScope ?_
   | refine WK.exit rfl ?_
   | refine WK.condT rfl ?_
   | refine WK.condF rfl ?_
   | (refine Hid.h hQ _ _ ?_; clear hQ hA)
   | refine WK.condAny rfl ?_ ?_
   | ((first | refine WK.cond2 rfl (fun h => ?_) (fun h => ?_) | refine Fork.mk (fun h => ?_) (fun h => ?_)) <;> (first | (simp [*] at h; done) | (have h2 := h; simp at h2; exfalso; omega) | (have h2 := h; simp at h2; try simp only [Bool.not_eq_true', Bool.not_eq_false'] at h) | skip))
   | (refine WK.regH Try.ntmps68 (by kernel_rfl) ?_; intro A hA Q hQ; simp [Bucket.enc, *])
   | (refine RunQ.gd rfl (by rw [hA.h]; rfl) ?_; simp [Bucket.enc, *])
   | (((first | refine RunQ.call rfl rfl rfl rfl rfl ?_ (hsa) ?_ ?_ | refine RunQW.call rfl rfl rfl rfl ?_ (hsa) ?_ ?_); (focus (simp (maxDischargeDepth := 120) [Bucket.enc, *]; done))); (focus (simp [Bucket.enc, *]; done)); refine RunQ.evalH ?_; simp [Bucket.enc, *])
   | (refine WK.ret Try.func68 ?_ ?_ <;> simp (maxDischargeDepth := 120) [Try.results68, Bucket.enc, *])
   | fail)
theorem bsameL_c (l m : List Bucket) (hl : l.length ≤ 1000000) (ha : ∀ x, x ∈ l → x.acts.length ≤ 1000000) : FnP Try.prog 30 [bukS l, bukS m] (.bool (eqBy Bucket.same l m)) := by
  have h := eqf_buk 68 [] Bucket.same l m rfl hl (fun x hx y _ => bsame_c x y (ha x hx))
  unfold bukS at *
  refine FnP.intro Try.func30 rfl rfl fun G w => ?_
  repeat' (first
   | refine WK.seq ?_
   | refine WK.block ?_
   | refine WK.inBlock ?_
   | refine WK.skip ?_
   | refine WK.label ?_
   | refine WK.scope ?_
   | refine WK.inScope ?_
   | refine WK.exit rfl ?_
   | refine WK.condT rfl ?_
   | refine WK.condF rfl ?_
   | (refine Hid.h hQ _ _ ?_; clear hQ hA)
   | refine WK.condAny rfl ?_ ?_
   | ((first | refine WK.cond2 rfl (fun h => ?_) (fun h => ?_)) <;> (first | (simp [*] at h; done) | (have h2 := h; simp at h2; exfalso; omega) | (have h2 := h; simp at h2; try simp only [Bool.not_eq_true', Bool.not_eq_false'] at h) | skip))
   | (refine WK.regH Try.ntmps30 (by kernel_rfl) ?_; intro A hA Q hQ; simp [*])
   | ((refine RunQ.call rfl rfl rfl rfl rfl ?_ (h) ?_ ?_; (focus (simp (maxDischargeDepth := 120) [*]; done))); (focus (simp [*]; done)); refine RunQ.evalH ?_; simp [*])
   | (refine WK.ret Try.func30 ?_ ?_ <;> simp (maxDischargeDepth := 120) [Try.results30, *])
   | fail)
set_option maxHeartbeats 4000000 in
theorem rbsameL_c (l m : List Bucket) (hl : l.length ≤ 1000000) (ha : ∀ x, x ∈ l → x.acts.length ≤ 1000000) : FnP Try.prog 26 [bukS l, bukS m] (.bool (eqBy Bucket.same l m)) := by
  unfold bukS
  by_cases hlm : l.length = m.length
  case neg =>
    have e : eqBy Bucket.same l m = false := by unfold eqBy; simp; intro e; omega
    have e2 : ((l.length : Int) == (m.length : Int)) = false := by rw [beq_eq_false_iff_ne]; omega
    refine FnP.intro Try.func26 rfl rfl fun G w => ?_
    repeat' (first
     | refine WK.seq ?_
     | refine WK.block ?_
     | refine WK.inBlock ?_
     | refine WK.skip ?_
     | refine WK.label ?_
     | refine WK.scope ?_
     | refine WK.inScope ?_
     | refine WK.exit rfl ?_
     | refine WK.condT rfl ?_
     | refine WK.condF rfl ?_
     | (refine Hid.h hQ _ _ ?_; clear hQ hA)
     | refine WK.condAny rfl ?_ ?_
     | ((first | refine WK.cond2 rfl (fun h => ?_) (fun h => ?_) | refine Fork.mk (fun h => ?_) (fun h => ?_)) <;> (first | (simp [*] at h; done) | (have h2 := h; simp at h2; exfalso; omega) | (have h2 := h; simp at h2; try simp only [Bool.not_eq_true', Bool.not_eq_false'] at h) | skip))
     | ((first | refine WK.regH Try.ntmps26 (by kernel_rfl) ?_ | refine WK.regX (by kernel_rfl) Try.ntmps26 (by kernel_rfl) ?_); intro A hA Q hQ; simp [bne, *])
     | (refine Hid.h hQ _ _ _ (by decide +kernel) ?_; clear hQ hA)
     | ((first | refine RunQ.gd rfl (by rw [hA.h]; rfl) ?_ | refine RunX.gd rfl (by rw [hA.h]; rfl) ?_); simp [bne, *])
     | (refine WK.ret Try.func26 ?_ ?_ <;> simp (maxDischargeDepth := 120) [Try.results26, bne, *])
     | fail)
  have e2 : ((l.length : Int) == (m.length : Int)) = true := by rw [beq_iff_eq]; omega
  have hl1 : ¬ l.length < m.length := by omega
  have hl2 : ¬ m.length < l.length := by omega
  clear hlm
  refine FnP.intro Try.func26 rfl rfl fun G w => ?_
  repeat' (first
   | refine WK.seq ?_
   | refine WK.block ?_
   | refine WK.inBlock ?_
   | refine WK.skip ?_
   | refine WK.label ?_
   | refine WK.scope ?_
   | refine WK.inScope ?_
   | refine WK.exit rfl ?_
   | refine WK.condT rfl ?_
   | refine WK.condF rfl ?_
   | (refine Hid.h hQ _ _ ?_; clear hQ hA)
   | refine WK.condAny rfl ?_ ?_
   | ((first | refine WK.cond2 rfl (fun h => ?_) (fun h => ?_) | refine Fork.mk (fun h => ?_) (fun h => ?_)) <;> (first | (simp [*] at h; done) | (have h2 := h; simp at h2; exfalso; omega) | (have h2 := h; simp at h2; try simp only [Bool.not_eq_true', Bool.not_eq_false'] at h) | skip))
   | ((first | refine WK.regH Try.ntmps26 (by kernel_rfl) ?_ | refine WK.regX (by kernel_rfl) Try.ntmps26 (by kernel_rfl) ?_); intro A hA Q hQ; simp [bne, *])
   | (refine Hid.h hQ _ _ _ (by decide +kernel) ?_; clear hQ hA)
   | ((first | refine RunQ.gd rfl (by rw [hA.h]; rfl) ?_ | refine RunX.gd rfl (by rw [hA.h]; rfl) ?_); simp [bne, *])
   | fail)
  repeat (first | refine WK.seq ?_ | refine WK.block ?_ | refine WK.inBlock ?_ | refine WK.skip ?_ | refine WK.label ?_ | refine WK.scope ?_ | refine WK.inScope ?_ | refine WK.exit rfl ?_)
  refine WK.loopI (fun n => n) (fun i : Nat => (⟨(upd (upd (upd J 0 (.sl false l.length (bukL l))) 1 (.sl false m.length (bukL m))) 5 (.int .i64 i)), B0, 0⟩ : St)) (fun i => i ≤ l.length ∧ ∀ j, j < i → Bucket.same (nth l j) (nth m j) = true) (fun i => l.length - i) (0) (by repeat (first | exact TmW.nil | refine TmW.upd ?_ (by simp (maxDischargeDepth := 120)))) (by repeat (first | exact BxW.nil | refine BxW.upd ?_ (by simp (maxDischargeDepth := 120)))) (by first | exact InjW.id | exact InjW.nil | exact InjW.one | exact InjW.two (by simp) | exact InjW.three (by simp) (by simp) (by simp)) (⟨by omega, by simp⟩) (fun i hi IH => ?_)
  by_cases h1 : i < l.length
  · have h2 : i < m.length := by omega
    have g0 := buk_get l i 0 h1 (by omega)
    have g1 := buk_get l i 1 h1 (by omega)
    have g2 := buk_get l i 2 h1 (by omega)
    have g3 := buk_get l i 3 h1 (by omega)
    have k0 := buk_get m i 0 h2 (by omega)
    have k1 := buk_get m i 1 h2 (by omega)
    have k2 := buk_get m i 2 h2 (by omega)
    have k3 := buk_get m i 3 h2 (by omega)
    have l0 : i * 4 < l.length * 4 := by omega
    have l1 : i * 4 + 1 < l.length * 4 := by omega
    have l2 : i * 4 + 2 < l.length * 4 := by omega
    have l3 : i * 4 + 3 < l.length * 4 := by omega
    have m0 : i * 4 < m.length * 4 := by omega
    have m1 : i * 4 + 1 < m.length * 4 := by omega
    have m2 : i * 4 + 2 < m.length * 4 := by omega
    have m3 : i * 4 + 3 < m.length * 4 := by omega
    have h6 : IntKind.i64.wrap ((i : Int) + 1) = i + 1 := wrap_i64 (by omega) (by omega)
    have hc := rsame_act (nth l i).acts (nth m i).acts (ha _ (nth_mem h1))
    have hd : Bucket.same (nth l i) (nth m i) = ((nth l i).weight == (nth m i).weight && ((nth l i).watch == (nth m i).watch && ((nth l i).wgroup == (nth m i).wgroup && eqBy (· == ·) (nth l i).acts (nth m i).acts))) := rfl
    have hr : Bucket.same (nth l i) (nth m i) = false → eqBy Bucket.same l m = false := fun h => by unfold eqBy; rw [all_range_false (p := fun i => Bucket.same (nth l i) (nth m i)) h1 h]; simp
    have hj : Bucket.same (nth l i) (nth m i) = true → ∀ j, j < i + 1 → Bucket.same (nth l j) (nth m j) = true := fun h j hj => by
      by_cases h7 : j = i
      · subst h7; exact h
      · exact hi.2 j (by omega)
    obtain ⟨x, hx⟩ : ∃ x, nth l i = x := ⟨_, rfl⟩
    obtain ⟨y, hy⟩ : ∃ y, nth m i = y := ⟨_, rfl⟩
    simp only [hx, Bucket.enc, List.getElem_cons_zero, List.getElem_cons_succ, Nat.add_zero] at g0 g1 g2 g3
    simp only [hy, Bucket.enc, List.getElem_cons_zero, List.getElem_cons_succ, Nat.add_zero] at k0 k1 k2 k3
    simp only [hx, hy] at hc hd hr hj
    unfold actS at hc
    obtain ⟨z0, hz0⟩ : ∃ z, (x.weight == y.weight) = z := ⟨_, rfl⟩
    obtain ⟨z1, hz1⟩ : ∃ z, (x.watch == y.watch) = z := ⟨_, rfl⟩
    obtain ⟨z2, hz2⟩ : ∃ z, (x.wgroup == y.wgroup) = z := ⟨_, rfl⟩
    obtain ⟨z3, hz3⟩ : ∃ z, eqBy (· == ·) x.acts y.acts = z := ⟨_, rfl⟩
    rw [hz0, hz1, hz2, hz3] at hd
    rw [hz3] at hc
    clear hx hy hz3
    rw [hd] at hr hj
    cases hz : (z0 && (z1 && (z2 && z3)))
    · have e := hr hz
      rw [e]
      clear hr hj hd
      rcases and4_false hz with rfl | ⟨rfl, rfl⟩ | ⟨rfl, rfl, rfl⟩ | ⟨rfl, rfl, rfl, rfl⟩ <;>
      · clear hz
        repeat' (first
         | refine WK.seq ?_
         | refine WK.block ?_
         | refine WK.inBlock ?_
         | refine WK.skip ?_
         | refine WK.label ?_
         | refine WK.scope ?_
         | refine WK.inScope ?_
         | refine WK.exit rfl ?_
         | refine WK.condT rfl ?_
         | refine WK.condF rfl ?_
         | (refine Hid.h hQ _ _ ?_; clear hQ hA)
         | refine WK.condAny rfl ?_ ?_
         | ((first | refine WK.cond2 rfl (fun h => ?_) (fun h => ?_) | refine Fork.mk (fun h => ?_) (fun h => ?_)) <;> (first | (simp [*] at h; done) | (have h2 := h; simp at h2; exfalso; omega) | (have h2 := h; simp at h2; try simp only [Bool.not_eq_true', Bool.not_eq_false'] at h) | skip))
         | ((first | refine WK.regH Try.ntmps26 (by kernel_rfl) ?_ | refine WK.regX (by kernel_rfl) Try.ntmps26 (by kernel_rfl) ?_); intro A hA Q hQ; simp [bne, *])
         | (refine Hid.h hQ _ _ _ (by decide +kernel) ?_; clear hQ hA)
         | ((first | refine RunQ.gd rfl (by rw [hA.h]; rfl) ?_ | refine RunX.gd rfl (by rw [hA.h]; rfl) ?_); simp [bne, *])
         | (((first | refine RunQ.call rfl rfl rfl rfl rfl ?_ (hc) ?_ ?_ | refine RunQW.call rfl rfl rfl rfl ?_ (hc) ?_ ?_ | refine RunX.call rfl rfl rfl rfl ?_ (hc) ?_ ?_ | refine RunXW.call rfl rfl rfl ?_ (hc) ?_ ?_); (focus (simp (maxDischargeDepth := 120) [bne, *]; done))); (focus (simp [bne, *]; done)); (first | refine RunQ.evalH ?_ | refine RunX.evalY ?_); simp [bne, *])
         | (refine WK.ret Try.func26 ?_ ?_ <;> simp (maxDischargeDepth := 120) [Try.results26, bne, *])
         | fail)
    · have e := hj hz
      obtain ⟨rfl, rfl, rfl, rfl⟩ := and4_true hz
      clear hr hj hd hz
      repeat' (first
       | refine WK.seq ?_
       | refine WK.block ?_
       | refine WK.inBlock ?_
       | refine WK.skip ?_
       | refine WK.label ?_
       | refine WK.scope ?_
       | refine WK.inScope ?_
       | refine WK.exit rfl ?_
       | refine WK.condT rfl ?_
       | refine WK.condF rfl ?_
       | (refine Hid.h hQ _ _ ?_; clear hQ hA)
       | refine WK.condAny rfl ?_ ?_
       | ((first | refine WK.cond2 rfl (fun h => ?_) (fun h => ?_) | refine Fork.mk (fun h => ?_) (fun h => ?_)) <;> (first | (simp [*] at h; done) | (have h2 := h; simp at h2; exfalso; omega) | (have h2 := h; simp at h2; try simp only [Bool.not_eq_true', Bool.not_eq_false'] at h) | skip))
       | ((first | refine WK.regH Try.ntmps26 (by kernel_rfl) ?_ | refine WK.regX (by kernel_rfl) Try.ntmps26 (by kernel_rfl) ?_); intro A hA Q hQ; simp [bne, *])
       | (refine Hid.h hQ _ _ _ (by decide +kernel) ?_; clear hQ hA)
       | ((first | refine RunQ.gd rfl (by rw [hA.h]; rfl) ?_ | refine RunX.gd rfl (by rw [hA.h]; rfl) ?_); simp [bne, *])
       | (((first | refine RunQ.call rfl rfl rfl rfl rfl ?_ (hc) ?_ ?_ | refine RunQW.call rfl rfl rfl rfl ?_ (hc) ?_ ?_ | refine RunX.call rfl rfl rfl rfl ?_ (hc) ?_ ?_ | refine RunXW.call rfl rfl rfl ?_ (hc) ?_ ?_); (focus (simp (maxDischargeDepth := 120) [bne, *]; done))); (focus (simp [bne, *]; done)); (first | refine RunQ.evalH ?_ | refine RunX.evalY ?_); simp [bne, *])
       | fail)
      repeat (first | refine WK.seq ?_ | refine WK.block ?_ | refine WK.inBlock ?_ | refine WK.skip ?_ | refine WK.label ?_ | refine WK.scope ?_ | refine WK.inScope ?_ | refine WK.exit rfl ?_)
      refine WK.next (fun n => n) (IH (i + 1) (⟨by omega, e⟩) (by first | omega | (dsimp only; omega))) (by repeat (first | exact TmW.nil | refine TmW.upd ?_ (by simp (maxDischargeDepth := 120)))) (by repeat (first | exact BxW.nil | refine BxW.upd ?_ (by simp (maxDischargeDepth := 120)))) (by first | exact InjW.id | exact InjW.nil | exact InjW.one | exact InjW.two (by simp) | exact InjW.three (by simp) (by simp) (by simp))
  · have e : eqBy Bucket.same l m = true := by unfold eqBy; rw [all_range_true (p := fun i => Bucket.same (nth l i) (nth m i)) (fun j hj => hi.2 j (by omega))]; simp; omega
    repeat' (first
     | refine WK.seq ?_
     | refine WK.block ?_
     | refine WK.inBlock ?_
     | refine WK.skip ?_
     | refine WK.label ?_
     | refine WK.scope ?_
     | refine WK.inScope ?_
     | refine WK.exit rfl ?_
     | refine WK.condT rfl ?_
     | refine WK.condF rfl ?_
     | (refine Hid.h hQ _ _ ?_; clear hQ hA)
     | refine WK.condAny rfl ?_ ?_
     | ((first | refine WK.cond2 rfl (fun h => ?_) (fun h => ?_) | refine Fork.mk (fun h => ?_) (fun h => ?_)) <;> (first | (simp [*] at h; done) | (have h2 := h; simp at h2; exfalso; omega) | (have h2 := h; simp at h2; try simp only [Bool.not_eq_true', Bool.not_eq_false'] at h) | skip))
     | ((first | refine WK.regH Try.ntmps26 (by kernel_rfl) ?_ | refine WK.regX (by kernel_rfl) Try.ntmps26 (by kernel_rfl) ?_); intro A hA Q hQ; simp [*])
     | (refine Hid.h hQ _ _ _ (by decide +kernel) ?_; clear hQ hA)
     | ((first | refine RunQ.gd rfl (by rw [hA.h]; rfl) ?_ | refine RunX.gd rfl (by rw [hA.h]; rfl) ?_); simp [*])
     | (refine WK.ret Try.func26 ?_ ?_ <;> simp (maxDischargeDepth := 120) [Try.results26, *])
     | fail)
theorem bkencP_c (l : List Bucket) (hl : l.length ≤ 1000000) (ha : ∀ x, x ∈ l → x.acts.length ≤ 1000000) : FnP Try.prog 28 [bukS l] (.tup [byS (bkEnc l).1, .int .i64 (bkEnc l).2]) := by
  have h := (bkenc_c l hl ha).toP (by simp [byL_take]) (by rfl)
  rwa [Nat.mul_one, by_full _ _ rfl] at h
theorem bkdecP_c (b : List (BitVec 8)) (hb : b.length ≤ 1000000) : FnP Try.prog 24 [byS b] (.tup [bukS (bkDec b).1, .agg (gFault (bkDec b).2)]) := by
  have h := (bkdec_c b hb).toP (by simp) (by simp [ClL, Cl])
  rwa [bukL_take] at h
theorem rbkdecP_c (b : List (BitVec 8)) (hb : b.length ≤ 1000000) : FnP Try.prog 25 [byS b] (.tup [bukS (bkDec b).1, .agg (gFault (bkDec b).2)]) := by
  have h := (rbkdec_c b hb).toP (by simp) (by simp [ClL, Cl])
  rwa [bukL_take] at h
theorem bkRead_small {b : List (BitVec 8)} {y : Bucket} {n : Int} (h : bkRead b = (y, n, none)) : y.acts.length * 8 ≤ b.length := by
  unfold bkRead at h
  split at h
  · cases h
  · simp only [Prod.mk.injEq] at h
    obtain ⟨rfl, _, _⟩ := h
    obtain ⟨R, hR⟩ : ∃ R, acDec ((b.drop 16).take ((getN b 0 2).1.toNat - 16)) = R := ⟨_, rfl⟩
    obtain ⟨l, c⟩ := R
    have := acDec_small hR
    simp only [hR, List.length_take, List.length_drop] at this ⊢
    omega
theorem rwF_all {α φ : Type} {rd : List (BitVec 8) → α × Int × Option φ} {ok : Nat → α → Prop} (hm : ∀ {n m a}, n ≤ m → ok n a → ok m a) (hb : ∀ b y n, rd b = (y, n, none) → ok b.length y) :
    ∀ (f : Nat) (b : List (BitVec 8)), ∀ a, a ∈ (rwF rd f b).1 → ok b.length a
  | 0, b, a, ha => by simp [rwF] at ha
  | f + 1, b, a, ha => by
    rw [rwF] at ha
    split at ha
    · simp at ha
    obtain ⟨y, n, c, hd⟩ : ∃ y n c, rd b = (y, n, c) := ⟨_, _, _, rfl⟩
    rw [hd] at ha
    cases c with
    | some c => simp at ha
    | none =>
      simp only at ha
      obtain ⟨R, hR⟩ : ∃ R, rwF rd f (b.drop n.toNat) = R := ⟨_, rfl⟩
      obtain ⟨m, c⟩ := R
      cases c with
      | some c => simp [rwGlue, hR] at ha
      | none =>
        simp only [rwGlue, hR, List.cons_append, List.nil_append, List.mem_cons] at ha
        rcases ha with rfl | ha
        · exact hb _ _ _ hd
        · have := rwF_all (ok := ok) hm hb f (b.drop n.toNat) a (by rw [hR]; exact ha)
          exact hm (by rw [List.length_drop]; omega) this
theorem bkDec_small {b : List (BitVec 8)} {l : List Bucket} {c : Option (Int × Int)} (h : bkDec b = (l, c)) : l.length ≤ 100 ∧ ∀ x, x ∈ l → x.acts.length * 8 ≤ b.length := by
  cases c with
  | some c => rw [bkDec_bad h]; simp
  | none =>
    unfold bkDec at h
    split at h
    · cases h
    split at h
    · cases h
    · rename_i h2
      rw [h] at h2
      refine ⟨by simp only [true_and] at h2; omega, fun x hx => ?_⟩
      exact rwF_all (ok := fun n (x : Bucket) => x.acts.length * 8 ≤ n) (fun h1 h2 => by omega) (fun b y n hd => bkRead_small hd) b.length b x (by show x ∈ (rwDec bkRead b).1; rw [h]; exact hx)
def L15 : List Bucket := [⟨1, 4, 4294967295, [⟨0, 3, 0, 0, 0, oxm0⟩]⟩, ⟨0, 0, 0, []⟩]
theorem fL15a : (bkEnc L15).1.length = 48 := by kernel_rfl
theorem fL15b : (bkEnc L15).2 = 0 := by kernel_rfl
theorem fL15c : bkDec (bkEnc L15).1 = (L15, none) := by kernel_rfl
theorem fL15d : bkDec [1#8] = ([], some (6, 12)) := by kernel_rfl
theorem fL15e : bkRight (nth L15 0) = true := by kernel_rfl
set_option maxHeartbeats 4000000 in
theorem awake15_c : FnP Try.prog 23 [] (.bool true) := by
  have hl : L15.length ≤ 1000000 := by decide
  have ha : ∀ x, x ∈ L15 → x.acts.length ≤ 1000000 := by
    intro x hx; simp [L15] at hx; rcases hx with rfl | rfl <;> simp
  have p := bkencP_c L15 hl ha
  have d := bkdecP_c (bkEnc L15).1 (by rw [fL15a]; omega)
  have d1 := bkdecP_c [1#8] (by decide)
  have s := bsameL_c L15 L15 hl ha
  have r := bright_c (nth L15 0) (by decide)
  rw [fL15c] at d
  rw [fL15d] at d1
  rw [fL15b] at p
  rw [fL15e] at r
  rw [eqBy_refl bkSame_self] at s
  have hB := fL15a
  obtain ⟨B, hBB⟩ : ∃ B, (bkEnc L15).1 = B := ⟨_, rfl⟩
  rw [hBB] at p d hB
  clear hBB
  unfold byS at p d d1
  rw [hB] at p d
  simp only [nth, List.getD_cons_zero, gFault, bukS, bukL, L15, actL, List.flatMap_cons, List.flatMap_nil, List.append_nil, List.cons_append, List.nil_append, List.length_cons, List.length_nil, Bucket.enc, Action.enc, oxm0, wideZ, uI_zero] at p d d1 s r
  have e1 : byL [1#8] = [.int .u8 1] := rfl
  rw [e1] at d1
  simp only [Nat.zero_add, Nat.reduceAdd] at d1
  refine FnP.intro Try.func23 rfl rfl fun G w => ?_
  repeat' (first
   | refine WK.seq ?_
   | refine WK.block ?_
   | refine WK.inBlock ?_
   | refine WK.skip ?_
   | refine WK.label ?_
   | refine WK.scope ?_
   | refine WK.inScope ?_
   | refine WK.exit rfl ?_
   | refine WK.condT rfl ?_
   | refine WK.condF rfl ?_
   | (refine Hid.h hQ _ _ ?_; clear hQ hA)
   | refine WK.condAny rfl ?_ ?_
   | ((first | refine WK.cond2 rfl (fun h => ?_) (fun h => ?_) | refine Fork.mk (fun h => ?_) (fun h => ?_)) <;> (first | (simp [*] at h; done) | (have h2 := h; simp at h2; exfalso; omega) | (have h2 := h; simp at h2; try simp only [Bool.not_eq_true', Bool.not_eq_false'] at h) | skip))
   | (refine WK.regH Try.ntmps23 (by kernel_rfl) ?_; intro A hA Q hQ; simp [*])
   | (refine RunQ.gd rfl (by rw [hA.h]; rfl) ?_; simp [*])
   | ((first | ((first | refine RunQ.call rfl rfl rfl rfl rfl ?_ (p) ?_ ?_ | refine RunQW.call rfl rfl rfl rfl ?_ (p) ?_ ?_); (focus (simp (maxDischargeDepth := 120) [*]; done))) | ((first | refine RunQ.call rfl rfl rfl rfl rfl ?_ (d) ?_ ?_ | refine RunQW.call rfl rfl rfl rfl ?_ (d) ?_ ?_); (focus (simp (maxDischargeDepth := 120) [*]; done))) | ((first | refine RunQ.call rfl rfl rfl rfl rfl ?_ (d1) ?_ ?_ | refine RunQW.call rfl rfl rfl rfl ?_ (d1) ?_ ?_); (focus (simp (maxDischargeDepth := 120) [*]; done))) | ((first | refine RunQ.call rfl rfl rfl rfl rfl ?_ (s) ?_ ?_ | refine RunQW.call rfl rfl rfl rfl ?_ (s) ?_ ?_); (focus (simp (maxDischargeDepth := 120) [*]; done))) | ((first | refine RunQ.call rfl rfl rfl rfl rfl ?_ (r) ?_ ?_ | refine RunQW.call rfl rfl rfl rfl ?_ (r) ?_ ?_); (focus (simp (maxDischargeDepth := 120) [*]; done)))); (focus (simp [*]; done)); refine RunQ.evalH ?_; simp [*])
   | (refine WK.ret Try.func23 ?_ ?_ <;> simp (maxDischargeDepth := 120) [Try.results23, *])
   | fail)
theorem bucketDecodes_c (b : List (BitVec 8)) : FnP Try.prog 6 [byS b] (.bool true) := by
  by_cases g : 70000 < b.length
  · have g' : (70000 : Int) < b.length := by omega
    unfold byS
    refine FnP.intro Try.func6 rfl rfl fun G w => ?_
    repeat' (first
     | refine WK.seq ?_
     | refine WK.block ?_
     | refine WK.inBlock ?_
     | refine WK.skip ?_
     | refine WK.label ?_
     | refine WK.scope ?_
     | refine WK.inScope ?_
     | refine WK.exit rfl ?_
     | refine WK.condT rfl ?_
     | refine WK.condF rfl ?_
     | (refine Hid.h hQ _ _ ?_; clear hQ hA)
     | refine WK.condAny rfl ?_ ?_
     | ((first | refine WK.cond2 rfl (fun h => ?_) (fun h => ?_) | refine Fork.mk (fun h => ?_) (fun h => ?_)) <;> (first | (simp [*] at h; done) | (have h2 := h; simp at h2; exfalso; omega) | (have h2 := h; simp at h2; try simp only [Bool.not_eq_true', Bool.not_eq_false'] at h) | skip))
     | (refine WK.regH Try.ntmps6 (by kernel_rfl) ?_; intro A hA Q hQ; simp [*])
     | (refine RunQ.gd rfl (by rw [hA.h]; rfl) ?_; simp [*])
     | (((first | refine RunQ.call rfl rfl rfl rfl rfl ?_ (awake15_c) ?_ ?_ | refine RunQW.call rfl rfl rfl rfl ?_ (awake15_c) ?_ ?_); (focus (simp (maxDischargeDepth := 120) [*]; done))); (focus (simp [*]; done)); refine RunQ.evalH ?_; simp [*])
     | (refine WK.ret Try.func6 ?_ ?_ <;> simp (maxDischargeDepth := 120) [Try.results6, *])
     | fail)
  · have g' : ¬ (70000 : Int) < b.length := by omega
    have d := bkdecP_c b (by omega)
    have e := rbkdecP_c b (by omega)
    obtain ⟨R, hR⟩ : ∃ R, bkDec b = R := ⟨_, rfl⟩
    obtain ⟨l, f⟩ := R
    have hl := bkDec_small hR
    have s := rbsameL_c l l (by omega) (fun x hx => by have := hl.2 x hx; omega)
    rw [eqBy_refl bkSame_self] at s
    rw [hR] at d e
    unfold byS bukS at *
    clear hR hl
    refine FnP.intro Try.func6 rfl rfl fun G w => ?_
    cases f <;>
    · repeat' (first
       | refine WK.seq ?_
       | refine WK.block ?_
       | refine WK.inBlock ?_
       | refine WK.skip ?_
       | refine WK.label ?_
       | refine WK.scope ?_
       | refine WK.inScope ?_
       | refine WK.exit rfl ?_
       | refine WK.condT rfl ?_
       | refine WK.condF rfl ?_
       | (refine Hid.h hQ _ _ ?_; clear hQ hA)
       | refine WK.condAny rfl ?_ ?_
       | ((first | refine WK.cond2 rfl (fun h => ?_) (fun h => ?_) | refine Fork.mk (fun h => ?_) (fun h => ?_)) <;> (first | (simp [*] at h; done) | (have h2 := h; simp at h2; exfalso; omega) | (have h2 := h; simp at h2; try simp only [Bool.not_eq_true', Bool.not_eq_false'] at h) | skip))
       | (refine WK.regH Try.ntmps6 (by kernel_rfl) ?_; intro A hA Q hQ; simp [gFault, *])
       | (refine RunQ.gd rfl (by rw [hA.h]; rfl) ?_; simp [gFault, *])
       | ((first | ((first | refine RunQ.call rfl rfl rfl rfl rfl ?_ (d) ?_ ?_ | refine RunQW.call rfl rfl rfl rfl ?_ (d) ?_ ?_); (focus (simp (maxDischargeDepth := 120) [gFault, *]; done))) | ((first | refine RunQ.call rfl rfl rfl rfl rfl ?_ (e) ?_ ?_ | refine RunQW.call rfl rfl rfl rfl ?_ (e) ?_ ?_); (focus (simp (maxDischargeDepth := 120) [gFault, *]; done))) | ((first | refine RunQ.call rfl rfl rfl rfl rfl ?_ (s) ?_ ?_ | refine RunQW.call rfl rfl rfl rfl ?_ (s) ?_ ?_); (focus (simp (maxDischargeDepth := 120) [gFault, *]; done))) | ((first | refine RunQ.call rfl rfl rfl rfl rfl ?_ (awake15_c) ?_ ?_ | refine RunQW.call rfl rfl rfl rfl ?_ (awake15_c) ?_ ?_); (focus (simp (maxDischargeDepth := 120) [gFault, *]; done)))); (focus (simp [gFault, *]; done)); refine RunQ.evalH ?_; simp [gFault, *])
       | (refine WK.ret Try.func6 ?_ ?_ <;> simp (maxDischargeDepth := 120) [Try.results6, gFault, *])
       | fail)
end Go.Proofs.Yteonfhnljphbpaa
