/- Buckets: the laws. -/
import Derived.Test.YteonfhnljphbpaaGreatWk12
set_option linter.all false
set_option linter.unnecessarySimpa false
section
set_option linter.unusedVariables false
set_option linter.unusedSimpArgs false
namespace Go.Proofs.YteonfhnljphbpaaGreat
open Go Go.AI Go.Proofs
attribute [local irreducible] FnP FnO FnB FnT FnSeq WK RunQ RunQW RunX RunXW

def Bucket.same (a b : Bucket) : Bool := a.weight == b.weight && (a.watch == b.watch && (a.wgroup == b.wgroup && eqBy (· == ·) a.acts b.acts))
theorem bkSame_self (x : Bucket) : Bucket.same x x = true := by unfold Bucket.same; simp [eqBy_selfA]
theorem bsame_c (a b : Bucket) (ha : a.acts.length ≤ 1000000) : FnP Tryz.prog 82 [.agg a.enc, .agg b.enc] (.bool (Bucket.same a b)) := by
  have hsa := acsame_c a.acts b.acts ha
  unfold actS at hsa
  have e : Bucket.same a b = (a.weight == b.weight && (a.watch == b.watch && (a.wgroup == b.wgroup && eqBy (· == ·) a.acts b.acts))) := rfl
  obtain ⟨s, hs⟩ : ∃ s, eqBy (· == ·) a.acts b.acts = s := ⟨_, rfl⟩
  rw [hs] at hsa e
  refine FnP.intro Tryz.func82 rfl rfl fun G w => ?_
  repeat' (first
   | refine WK.seq ?_
   | refine WK.block ?_
   | refine WK.inBlock ?_
   | refine WK.skip ?_
   | refine WK.label ?_
   | refine WK.scope ?_
   | refine WK.inScope ?_
   | refine WK.exit rfl ?_
   | refine WK.condT rfl ?_
   | refine WK.condF rfl ?_
   | (refine Hid.h hQ _ _ ?_; clear hQ hA)
   | refine WK.condAny rfl ?_ ?_
   | ((first | refine WK.cond2 rfl (fun h => ?_) (fun h => ?_) | refine Fork.mk (fun h => ?_) (fun h => ?_)) <;> (first | (simp [*] at h; done) | (have h2 := h; simp at h2; exfalso; omega) | (have h2 := h; simp at h2; try simp only [Bool.not_eq_true', Bool.not_eq_false'] at h) | skip))
   | (refine WK.regH Tryz.ntmps82 (by kernel_rfl) ?_; intro A hA Q hQ; simp [Bucket.enc, *])
   | (refine RunQ.gd rfl (by rw [hA.h]; rfl) ?_; simp [Bucket.enc, *])
   | (((first | refine RunQ.call rfl rfl rfl rfl rfl ?_ (hsa) ?_ ?_ | refine RunQW.call rfl rfl rfl rfl ?_ (hsa) ?_ ?_); (focus (simp (maxDischargeDepth := 120) [Bucket.enc, *]; done))); (focus (simp [Bucket.enc, *]; done)); refine RunQ.evalH ?_; simp [Bucket.enc, *])
   | (refine WK.ret Tryz.func82 ?_ ?_ <;> simp (maxDischargeDepth := 120) [Tryz.results82, Bucket.enc, *])
   | fail)
theorem bsameL_c (l m : List Bucket) (hl : l.length ≤ 1000000) (ha : ∀ x, x ∈ l → x.acts.length ≤ 1000000) : FnP Tryz.prog 50 [bukS l, bukS m] (.bool (eqBy Bucket.same l m)) := by
  have h := eqf_buk 82 [] Bucket.same l m rfl hl (fun x hx y _ => bsame_c x y (ha x hx))
  unfold bukS at *
  refine FnP.intro Tryz.func50 rfl rfl fun G w => ?_
  repeat' (first
   | refine WK.seq ?_
   | refine WK.block ?_
   | refine WK.inBlock ?_
   | refine WK.skip ?_
   | refine WK.label ?_
   | refine WK.scope ?_
   | refine WK.inScope ?_
   | refine WK.exit rfl ?_
   | refine WK.condT rfl ?_
   | refine WK.condF rfl ?_
   | (refine Hid.h hQ _ _ ?_; clear hQ hA)
   | refine WK.condAny rfl ?_ ?_
   | ((first | refine WK.cond2 rfl (fun h => ?_) (fun h => ?_)) <;> (first | (simp [*] at h; done) | (have h2 := h; simp at h2; exfalso; omega) | (have h2 := h; simp at h2; try simp only [Bool.not_eq_true', Bool.not_eq_false'] at h) | skip))
   | (refine WK.regH Tryz.ntmps50 (by kernel_rfl) ?_; intro A hA Q hQ; simp [*])
   | ((refine RunQ.call rfl rfl rfl rfl rfl ?_ (h) ?_ ?_; (focus (simp (maxDischargeDepth := 120) [*]; done))); (focus (simp [*]; done)); refine RunQ.evalH ?_; simp [*])
   | (refine WK.ret Tryz.func50 ?_ ?_ <;> simp (maxDischargeDepth := 120) [Tryz.results50, *])
   | fail)
set_option maxHeartbeats 4000000 in
theorem rbsameL_c (l m : List Bucket) (hl : l.length ≤ 1000000) (ha : ∀ x, x ∈ l → x.acts.length ≤ 1000000) : FnP Tryz.prog 40 [bukS l, bukS m] (.bool (eqBy Bucket.same l m)) := by
  unfold bukS
  by_cases hlm : l.length = m.length
  case neg =>
    have e : eqBy Bucket.same l m = false := by unfold eqBy; simp; intro e; omega
    have e2 : ((l.length : Int) == (m.length : Int)) = false := by rw [beq_eq_false_iff_ne]; omega
    refine FnP.intro Tryz.func40 rfl rfl fun G w => ?_
    repeat' (first
     | refine WK.seq ?_
     | refine WK.block ?_
     | refine WK.inBlock ?_
     | refine WK.skip ?_
     | refine WK.label ?_
     | refine WK.scope ?_
     | refine WK.inScope ?_
     | refine WK.exit rfl ?_
     | refine WK.condT rfl ?_
     | refine WK.condF rfl ?_
     | (refine Hid.h hQ _ _ ?_; clear hQ hA)
     | refine WK.condAny rfl ?_ ?_
     | ((first | refine WK.cond2 rfl (fun h => ?_) (fun h => ?_) | refine Fork.mk (fun h => ?_) (fun h => ?_)) <;> (first | (simp [*] at h; done) | (have h2 := h; simp at h2; exfalso; omega) | (have h2 := h; simp at h2; try simp only [Bool.not_eq_true', Bool.not_eq_false'] at h) | skip))
     | ((first | refine WK.regH Tryz.ntmps40 (by kernel_rfl) ?_ | refine WK.regX (by kernel_rfl) Tryz.ntmps40 (by kernel_rfl) ?_); intro A hA Q hQ; simp [bne, *])
     | (refine Hid.h hQ _ _ _ (by decide +kernel) ?_; clear hQ hA)
     | ((first | refine RunQ.gd rfl (by rw [hA.h]; rfl) ?_ | refine RunX.gd rfl (by rw [hA.h]; rfl) ?_); simp [bne, *])
     | (refine WK.ret Tryz.func40 ?_ ?_ <;> simp (maxDischargeDepth := 120) [Tryz.results40, bne, *])
     | fail)
  have e2 : ((l.length : Int) == (m.length : Int)) = true := by rw [beq_iff_eq]; omega
  have hl1 : ¬ l.length < m.length := by omega
  have hl2 : ¬ m.length < l.length := by omega
  clear hlm
  refine FnP.intro Tryz.func40 rfl rfl fun G w => ?_
  repeat' (first
   | refine WK.seq ?_
   | refine WK.block ?_
   | refine WK.inBlock ?_
   | refine WK.skip ?_
   | refine WK.label ?_
   | refine WK.scope ?_
   | refine WK.inScope ?_
   | refine WK.exit rfl ?_
   | refine WK.condT rfl ?_
   | refine WK.condF rfl ?_
   | (refine Hid.h hQ _ _ ?_; clear hQ hA)
   | refine WK.condAny rfl ?_ ?_
   | ((first | refine WK.cond2 rfl (fun h => ?_) (fun h => ?_) | refine Fork.mk (fun h => ?_) (fun h => ?_)) <;> (first | (simp [*] at h; done) | (have h2 := h; simp at h2; exfalso; omega) | (have h2 := h; simp at h2; try simp only [Bool.not_eq_true', Bool.not_eq_false'] at h) | skip))
   | ((first | refine WK.regH Tryz.ntmps40 (by kernel_rfl) ?_ | refine WK.regX (by kernel_rfl) Tryz.ntmps40 (by kernel_rfl) ?_); intro A hA Q hQ; simp [bne, *])
   | (refine Hid.h hQ _ _ _ (by decide +kernel) ?_; clear hQ hA)
   | ((first | refine RunQ.gd rfl (by rw [hA.h]; rfl) ?_ | refine RunX.gd rfl (by rw [hA.h]; rfl) ?_); simp [bne, *])
   | fail)
  repeat (first | refine WK.seq ?_ | refine WK.block ?_ | refine WK.inBlock ?_ | refine WK.skip ?_ | refine WK.label ?_ | refine WK.scope ?_ | refine WK.inScope ?_ | refine WK.exit rfl ?_)
  refine WK.loopI (fun n => n) (fun i : Nat => (⟨(upd (upd (upd J 0 (.sl false l.length (bukL l))) 1 (.sl false m.length (bukL m))) 5 (.int .i64 i)), B0, 0⟩ : St)) (fun i => i ≤ l.length ∧ ∀ j, j < i → Bucket.same (nth l j) (nth m j) = true) (fun i => l.length - i) (0) (by repeat (first | exact TmW.nil | refine TmW.upd ?_ (by simp (maxDischargeDepth := 120)))) (by repeat (first | exact BxW.nil | refine BxW.upd ?_ (by simp (maxDischargeDepth := 120)))) (by first | exact InjW.id | exact InjW.nil | exact InjW.one | exact InjW.two (by simp) | exact InjW.three (by simp) (by simp) (by simp)) (⟨by omega, by simp⟩) (fun i hi IH => ?_)
  by_cases h1 : i < l.length
  · have h2 : i < m.length := by omega
    have g0 := buk_get l i 0 h1 (by omega)
    have g1 := buk_get l i 1 h1 (by omega)
    have g2 := buk_get l i 2 h1 (by omega)
    have g3 := buk_get l i 3 h1 (by omega)
    have k0 := buk_get m i 0 h2 (by omega)
    have k1 := buk_get m i 1 h2 (by omega)
    have k2 := buk_get m i 2 h2 (by omega)
    have k3 := buk_get m i 3 h2 (by omega)
    have l0 : i * 4 < l.length * 4 := by omega
    have l1 : i * 4 + 1 < l.length * 4 := by omega
    have l2 : i * 4 + 2 < l.length * 4 := by omega
    have l3 : i * 4 + 3 < l.length * 4 := by omega
    have m0 : i * 4 < m.length * 4 := by omega
    have m1 : i * 4 + 1 < m.length * 4 := by omega
    have m2 : i * 4 + 2 < m.length * 4 := by omega
    have m3 : i * 4 + 3 < m.length * 4 := by omega
    have h6 : IntKind.i64.wrap ((i : Int) + 1) = i + 1 := wrap_i64 (by omega) (by omega)
    have hc := rsame_act (nth l i).acts (nth m i).acts (ha _ (nth_mem h1))
    have hd : Bucket.same (nth l i) (nth m i) = ((nth l i).weight == (nth m i).weight && ((nth l i).watch == (nth m i).watch && ((nth l i).wgroup == (nth m i).wgroup && eqBy (· == ·) (nth l i).acts (nth m i).acts))) := rfl
    have hr : Bucket.same (nth l i) (nth m i) = false → eqBy Bucket.same l m = false := fun h => by unfold eqBy; rw [all_range_false (p := fun i => Bucket.same (nth l i) (nth m i)) h1 h]; simp
    have hj : Bucket.same (nth l i) (nth m i) = true → ∀ j, j < i + 1 → Bucket.same (nth l j) (nth m j) = true := fun h j hj => by
      by_cases h7 : j = i
      · subst h7; exact h
      · exact hi.2 j (by omega)
    obtain ⟨x, hx⟩ : ∃ x, nth l i = x := ⟨_, rfl⟩
    obtain ⟨y, hy⟩ : ∃ y, nth m i = y := ⟨_, rfl⟩
    simp only [hx, Bucket.enc, List.getElem_cons_zero, List.getElem_cons_succ, Nat.add_zero] at g0 g1 g2 g3
    simp only [hy, Bucket.enc, List.getElem_cons_zero, List.getElem_cons_succ, Nat.add_zero] at k0 k1 k2 k3
    simp only [hx, hy] at hc hd hr hj
    unfold actS at hc
    obtain ⟨z0, hz0⟩ : ∃ z, (x.weight == y.weight) = z := ⟨_, rfl⟩
    obtain ⟨z1, hz1⟩ : ∃ z, (x.watch == y.watch) = z := ⟨_, rfl⟩
    obtain ⟨z2, hz2⟩ : ∃ z, (x.wgroup == y.wgroup) = z := ⟨_, rfl⟩
    obtain ⟨z3, hz3⟩ : ∃ z, eqBy (· == ·) x.acts y.acts = z := ⟨_, rfl⟩
    rw [hz0, hz1, hz2, hz3] at hd
    rw [hz3] at hc
    clear hx hy hz3
    rw [hd] at hr hj
    cases hz : (z0 && (z1 && (z2 && z3)))
    · have e := hr hz
      rw [e]
      clear hr hj hd
      rcases and4_false hz with rfl | ⟨rfl, rfl⟩ | ⟨rfl, rfl, rfl⟩ | ⟨rfl, rfl, rfl, rfl⟩ <;>
      · clear hz
        repeat' (first
         | refine WK.seq ?_
         | refine WK.block ?_
         | refine WK.inBlock ?_
         | refine WK.skip ?_
         | refine WK.label ?_
         | refine WK.scope ?_
         | refine WK.inScope ?_
         | refine WK.exit rfl ?_
         | refine WK.condT rfl ?_
         | refine WK.condF rfl ?_
         | (refine Hid.h hQ _ _ ?_; clear hQ hA)
         | refine WK.condAny rfl ?_ ?_
         | ((first | refine WK.cond2 rfl (fun h => ?_) (fun h => ?_) | refine Fork.mk (fun h => ?_) (fun h => ?_)) <;> (first | (simp [*] at h; done) | (have h2 := h; simp at h2; exfalso; omega) | (have h2 := h; simp at h2; try simp only [Bool.not_eq_true', Bool.not_eq_false'] at h) | skip))
         | ((first | refine WK.regH Tryz.ntmps40 (by kernel_rfl) ?_ | refine WK.regX (by kernel_rfl) Tryz.ntmps40 (by kernel_rfl) ?_); intro A hA Q hQ; simp [bne, *])
         | (refine Hid.h hQ _ _ _ (by decide +kernel) ?_; clear hQ hA)
         | ((first | refine RunQ.gd rfl (by rw [hA.h]; rfl) ?_ | refine RunX.gd rfl (by rw [hA.h]; rfl) ?_); simp [bne, *])
         | (((first | refine RunQ.call rfl rfl rfl rfl rfl ?_ (hc) ?_ ?_ | refine RunQW.call rfl rfl rfl rfl ?_ (hc) ?_ ?_ | refine RunX.call rfl rfl rfl rfl ?_ (hc) ?_ ?_ | refine RunXW.call rfl rfl rfl ?_ (hc) ?_ ?_); (focus (simp (maxDischargeDepth := 120) [bne, *]; done))); (focus (simp [bne, *]; done)); (first | refine RunQ.evalH ?_ | refine RunX.evalY ?_); simp [bne, *])
         | (refine WK.ret Tryz.func40 ?_ ?_ <;> simp (maxDischargeDepth := 120) [Tryz.results40, bne, *])
         | fail)
    · have e := hj hz
      obtain ⟨rfl, rfl, rfl, rfl⟩ := and4_true hz
      clear hr hj hd hz
      repeat' (first
       | refine WK.seq ?_
       | refine WK.block ?_
       | refine WK.inBlock ?_
       | refine WK.skip ?_
       | refine WK.label ?_
       | refine WK.scope ?_
       | refine WK.inScope ?_
       | refine WK.exit rfl ?_
       | refine WK.condT rfl ?_
       | refine WK.condF rfl ?_
       | (refine Hid.h hQ _ _ ?_; clear hQ hA)
       | refine WK.condAny rfl ?_ ?_
       | ((first | refine WK.cond2 rfl (fun h => ?_) (fun h => ?_) | refine Fork.mk (fun h => ?_) (fun h => ?_)) <;> (first | (simp [*] at h; done) | (have h2 := h; simp at h2; exfalso; omega) | (have h2 := h; simp at h2; try simp only [Bool.not_eq_true', Bool.not_eq_false'] at h) | skip))
       | ((first | refine WK.regH Tryz.ntmps40 (by kernel_rfl) ?_ | refine WK.regX (by kernel_rfl) Tryz.ntmps40 (by kernel_rfl) ?_); intro A hA Q hQ; simp [bne, *])
       | (refine Hid.h hQ _ _ _ (by decide +kernel) ?_; clear hQ hA)
       | ((first | refine RunQ.gd rfl (by rw [hA.h]; rfl) ?_ | refine RunX.gd rfl (by rw [hA.h]; rfl) ?_); simp [bne, *])
       | (((first | refine RunQ.call rfl rfl rfl rfl rfl ?_ (hc) ?_ ?_ | refine RunQW.call rfl rfl rfl rfl ?_ (hc) ?_ ?_ | refine RunX.call rfl rfl rfl rfl ?_ (hc) ?_ ?_ | refine RunXW.call rfl rfl rfl ?_ (hc) ?_ ?_); (focus (simp (maxDischargeDepth := 120) [bne, *]; done))); (focus (simp [bne, *]; done)); (first | refine RunQ.evalH ?_ | refine RunX.evalY ?_); simp [bne, *])
       | fail)
      repeat (first | refine WK.seq ?_ | refine WK.block ?_ | refine WK.inBlock ?_ | refine WK.skip ?_ | refine WK.label ?_ | refine WK.scope ?_ | refine WK.inScope ?_ | refine WK.exit rfl ?_)
      refine WK.next (fun n => n) (IH (i + 1) (⟨by omega, e⟩) (by first | omega | (dsimp only; omega))) (by repeat (first | exact TmW.nil | refine TmW.upd ?_ (by simp (maxDischargeDepth := 120)))) (by repeat (first | exact BxW.nil | refine BxW.upd ?_ (by simp (maxDischargeDepth := 120)))) (by first | exact InjW.id | exact InjW.nil | exact InjW.one | exact InjW.two (by simp) | exact InjW.three (by simp) (by simp) (by simp))
  · have e : eqBy Bucket.same l m = true := by unfold eqBy; rw [all_range_true (p := fun i => Bucket.same (nth l i) (nth m i)) (fun j hj => hi.2 j (by omega))]; simp; omega
    repeat' (first
     | refine WK.seq ?_
     | refine WK.block ?_
     | refine WK.inBlock ?_
     | refine WK.skip ?_
     | refine WK.label ?_
     | refine WK.scope ?_
     | refine WK.inScope ?_
     | refine WK.exit rfl ?_
     | refine WK.condT rfl ?_
     | refine WK.condF rfl ?_
     | (refine Hid.h hQ _ _ ?_; clear hQ hA)
     | refine WK.condAny rfl ?_ ?_
     | ((first | refine WK.cond2 rfl (fun h => ?_) (fun h => ?_) | refine Fork.mk (fun h => ?_) (fun h => ?_)) <;> (first | (simp [*] at h; done) | (have h2 := h; simp at h2; exfalso; omega) | (have h2 := h; simp at h2; try simp only [Bool.not_eq_true', Bool.not_eq_false'] at h) | skip))
     | ((first | refine WK.regH Tryz.ntmps40 (by kernel_rfl) ?_ | refine WK.regX (by kernel_rfl) Tryz.ntmps40 (by kernel_rfl) ?_); intro A hA Q hQ; simp [*])
     | (refine Hid.h hQ _ _ _ (by decide +kernel) ?_; clear hQ hA)
     | ((first | refine RunQ.gd rfl (by rw [hA.h]; rfl) ?_ | refine RunX.gd rfl (by rw [hA.h]; rfl) ?_); simp [*])
     | (refine WK.ret Tryz.func40 ?_ ?_ <;> simp (maxDischargeDepth := 120) [Tryz.results40, *])
     | fail)
theorem bkencP_c (l : List Bucket) (hl : l.length ≤ 1000000) (ha : ∀ x, x ∈ l → x.acts.length ≤ 1000000) : FnP Tryz.prog 44 [bukS l] (.tup [byS (bkEnc l).1, .int .i64 (bkEnc l).2]) := by
  have h := (bkenc_c l hl ha).toP (by simp [byL_take]) (by rfl)
  rwa [Nat.mul_one, by_full _ _ rfl] at h
theorem bkdecP_c (b : List (BitVec 8)) (hb : b.length ≤ 1000000) : FnP Tryz.prog 36 [byS b] (.tup [bukS (bkDec b).1, .agg (gFault (bkDec b).2)]) := by
  have h := (bkdec_c b hb).toP (by simp) (by simp [ClL, Cl])
  rwa [bukL_take] at h
theorem rbkdecP_c (b : List (BitVec 8)) (hb : b.length ≤ 1000000) : FnP Tryz.prog 39 [byS b] (.tup [bukS (bkDec b).1, .agg (gFault (bkDec b).2)]) := by
  have h := (rbkdec_c b hb).toP (by simp) (by simp [ClL, Cl])
  rwa [bukL_take] at h
theorem bkRead_small {b : List (BitVec 8)} {y : Bucket} {n : Int} (h : bkRead b = (y, n, none)) : y.acts.length * 8 ≤ b.length := by
  unfold bkRead at h
  split at h
  · cases h
  · simp only [Prod.mk.injEq] at h
    obtain ⟨rfl, _, _⟩ := h
    obtain ⟨R, hR⟩ : ∃ R, acDec ((b.drop 16).take ((getN b 0 2).1.toNat - 16)) = R := ⟨_, rfl⟩
    obtain ⟨l, c⟩ := R
    have := acDec_small hR
    simp only [hR, List.length_take, List.length_drop] at this ⊢
    omega
theorem rwF_all {α φ : Type} {rd : List (BitVec 8) → α × Int × Option φ} {ok : Nat → α → Prop} (hm : ∀ {n m a}, n ≤ m → ok n a → ok m a) (hb : ∀ b y n, rd b = (y, n, none) → ok b.length y) :
    ∀ (f : Nat) (b : List (BitVec 8)), ∀ a, a ∈ (rwF rd f b).1 → ok b.length a
  | 0, b, a, ha => by simp [rwF] at ha
  | f + 1, b, a, ha => by
    rw [rwF] at ha
    split at ha
    · simp at ha
    obtain ⟨y, n, c, hd⟩ : ∃ y n c, rd b = (y, n, c) := ⟨_, _, _, rfl⟩
    rw [hd] at ha
    cases c with
    | some c => simp at ha
    | none =>
      simp only at ha
      obtain ⟨R, hR⟩ : ∃ R, rwF rd f (b.drop n.toNat) = R := ⟨_, rfl⟩
      obtain ⟨m, c⟩ := R
      cases c with
      | some c => simp [rwGlue, hR] at ha
      | none =>
        simp only [rwGlue, hR, List.cons_append, List.nil_append, List.mem_cons] at ha
        rcases ha with rfl | ha
        · exact hb _ _ _ hd
        · have := rwF_all (ok := ok) hm hb f (b.drop n.toNat) a (by rw [hR]; exact ha)
          exact hm (by rw [List.length_drop]; omega) this
theorem bkDec_small {b : List (BitVec 8)} {l : List Bucket} {c : Option (Int × Int)} (h : bkDec b = (l, c)) : l.length ≤ 100 ∧ ∀ x, x ∈ l → x.acts.length * 8 ≤ b.length := by
  cases c with
  | some c => rw [bkDec_bad h]; simp
  | none =>
    unfold bkDec at h
    split at h
    · cases h
    split at h
    · cases h
    · rename_i h2
      rw [h] at h2
      refine ⟨by simp only [true_and] at h2; omega, fun x hx => ?_⟩
      exact rwF_all (ok := fun n (x : Bucket) => x.acts.length * 8 ≤ n) (fun h1 h2 => by omega) (fun b y n hd => bkRead_small hd) b.length b x (by show x ∈ (rwDec bkRead b).1; rw [h]; exact hx)
end Go.Proofs.YteonfhnljphbpaaGreat
end

section
set_option linter.unusedVariables false
set_option linter.unusedSimpArgs false
namespace Go.Proofs.YteonfhnljphbpaaGreat
open Go Go.AI Go.Proofs
attribute [local irreducible] FnP FnO FnB FnT FnSeq WK RunQ RunQW RunX RunXW

@[simp] theorem GroupMod.len (x : GroupMod) : x.enc.length = 4 := rfl
@[simp] theorem GroupMod.cl (x : GroupMod) : ClL x.enc = true := by simp [GroupMod.enc, ClL, Cl]
@[simp] theorem GroupMod.take (x : GroupMod) : x.enc.take 4 = x.enc := rfl
def prE (x : Int × Nat) : List AV := [.int .i64 x.1, .int .i64 x.2]
def prL (l : List (Int × Nat)) : List AV := l.flatMap prE
theorem prE_len (x : Int × Nat) : (prE x).length = 2 := rfl
@[simp] theorem prL_len (l : List (Int × Nat)) : (prL l).length = l.length * 2 := fm_length prE_len l
@[simp] theorem prL_cl (l : List (Int × Nat)) : ClL (prL l) = true := ClL_flatMap _ (fun x => by simp [prE, ClL, Cl]) l
theorem pr_load (l : List (Int × Nat)) (i : Nat) (h : i < l.length) : ((prL l).drop (i * 2)).take 2 = prE (nth l i) ∧ 2 ≤ l.length * 2 - i * 2 := ⟨fm_nth prE_len l i h, by omega⟩
def fldF (l : List (Int × Nat)) : List (BitVec 8) := l.foldl (fun b x => putN b x.1 x.2) []
theorem fldF_succ {l : List (Int × Nat)} {i : Nat} (h : i < l.length) : fldF (l.take (i + 1)) = putN (fldF (l.take i)) (nth l i).1 (nth l i).2 := by
  unfold fldF; rw [take_nth h, List.foldl_append]; rfl
theorem fldF_len {l : List (Int × Nat)} (hs : ∀ x, x ∈ l → Sz x.2) : ∀ i, (fldF (l.take i)).length ≤ i * 4
  | 0 => by simp [fldF]
  | i + 1 => by
    by_cases h : i < l.length
    · have h1 := fldF_len hs i
      have h2 := putN_len (fldF (l.take i)) (nth l i).1 (nth l i).2
      have h3 := hs _ (nth_mem h)
      unfold Sz at h3
      rw [fldF_succ h]; omega
    · have h1 := fldF_len hs i
      rw [List.take_of_length_le (by omega)] at h1 ⊢
      omega
theorem gfields_c (l : List (Int × Nat)) (hs : ∀ x, x ∈ l → Sz x.2) (hl : l.length ≤ 1000) : FnO Tryz.prog 45 [.sl true l.length (prL l)] (fldF l).length 1 (byL (fldF l)) := by
  refine FnO.intro Tryz.func45 rfl rfl fun G w => ?_
  repeat' (first
   | refine WK.seq ?_
   | refine WK.block ?_
   | refine WK.inBlock ?_
   | refine WK.skip ?_
   | refine WK.label ?_
   | refine WK.scope ?_
   | refine WK.inScope ?_
   | refine WK.exit rfl ?_
   | refine WK.condT rfl ?_
   | refine WK.condF rfl ?_
   | (refine Hid.h hQ _ _ ?_; clear hQ hA)
   | refine WK.condAny rfl ?_ ?_
   | ((first | refine WK.cond2 rfl (fun h => ?_) (fun h => ?_)) <;> (first | (simp [*] at h; done) | (have h2 := h; simp at h2; exfalso; omega) | (have h2 := h; simp at h2; try simp only [Bool.not_eq_true', Bool.not_eq_false'] at h) | skip))
   | (refine WK.regH Tryz.ntmps45 (by kernel_rfl) ?_; intro A hA Q hQ; simp [*])
   | fail)
  repeat (first | refine WK.seq ?_ | refine WK.block ?_ | refine WK.inBlock ?_ | refine WK.skip ?_ | refine WK.label ?_ | refine WK.scope ?_ | refine WK.inScope ?_ | refine WK.exit rfl ?_)
  refine WK.ghost (Ghost.own 3 900 1 rfl rfl) ?_
  repeat (first | refine WK.seq ?_ | refine WK.block ?_ | refine WK.inBlock ?_ | refine WK.skip ?_ | refine WK.label ?_ | refine WK.scope ?_ | refine WK.inScope ?_ | refine WK.exit rfl ?_)
  refine WK.loopI (fun n => if n = 1 then 900 else n) (fun i : Nat => (⟨(upd (upd (upd (upd J 3 (.msl 1 0 (fldF (l.take i)).length)) 6 (.sl true l.length (prL l))) 7 (.int .i64 l.length)) 8 (.int .i64 i)), (upd B0 1 (.buf 1 (byL (fldF (l.take i))))), 0⟩ : St)) (fun i => i ≤ l.length) (fun i => l.length - i) (0) (by repeat (first | exact TmW.nil | refine TmW.upd ?_ (by simp (maxDischargeDepth := 120) [fldF, byL_nil]))) (by repeat (first | exact BxW.nil | refine BxW.upd ?_ (by simp (maxDischargeDepth := 120) [fldF, byL_nil]))) (by first | exact InjW.id | exact InjW.nil | exact InjW.one | exact InjW.two (by simp) | exact InjW.three (by simp) (by simp) (by simp)) (Nat.zero_le _) (fun i hi IH => ?_)
  by_cases h1 : i < l.length
  · obtain ⟨h4, h3⟩ := pr_load l i h1
    have h6 : IntKind.i64.wrap ((i : Int) + 1) = i + 1 := wrap_i64 (by omega) (by omega)
    have hnx := fldF_succ h1
    have hln := fldF_len hs i
    have c := nput_c (fldF (l.take i)) (nth l i).1 (nth l i).2 (hs _ (nth_mem h1)) (by omega)
    obtain ⟨F, hF⟩ : ∃ F, fldF (l.take i) = F := ⟨_, rfl⟩
    rw [hF] at hnx c ⊢
    have hfu := by_full F F.length rfl
    unfold byS at c
    unfold prE at h4
    clear hF hln
    repeat' (first
     | refine WK.seq ?_
     | refine WK.block ?_
     | refine WK.inBlock ?_
     | refine WK.skip ?_
     | refine WK.label ?_
     | refine WK.scope ?_
     | refine WK.inScope ?_
     | refine WK.exit rfl ?_
     | refine WK.condT rfl ?_
     | refine WK.condF rfl ?_
     | (refine Hid.h hQ _ _ ?_; clear hQ hA)
     | refine WK.condAny rfl ?_ ?_
     | ((first | refine WK.cond2 rfl (fun h => ?_) (fun h => ?_)) <;> (first | (simp [*] at h; done) | (have h2 := h; simp at h2; exfalso; omega) | (have h2 := h; simp at h2; try simp only [Bool.not_eq_true', Bool.not_eq_false'] at h) | skip))
     | (refine WK.regH Tryz.ntmps45 (by kernel_rfl) ?_; intro A hA Q hQ; simp [*])
     | (refine RunQ.callOz 901 12 1 rfl rfl rfl rfl rfl rfl rfl ?_ (c) ?_ ?_ (by simp) (by decide) ?_; (focus (simp (maxDischargeDepth := 120) [*]; done)); (focus (simp [*]; done)); (focus (simp [*]; done)); refine RunQ.evalH ?_; simp [*])
     | fail)
    repeat (first | refine WK.seq ?_ | refine WK.block ?_ | refine WK.inBlock ?_ | refine WK.skip ?_ | refine WK.label ?_ | refine WK.scope ?_ | refine WK.inScope ?_ | refine WK.exit rfl ?_)
    refine WK.next (fun n => if n = 1 then 901 else n) (IH (i + 1) (by omega) (by first | omega | (dsimp only; omega))) (by repeat (first | exact TmW.nil | refine TmW.upd ?_ (by simp (maxDischargeDepth := 120) [hnx]))) (by repeat (first | exact BxW.nil | refine BxW.upd ?_ (by simp (maxDischargeDepth := 120) [hnx]))) (by first | exact InjW.id | exact InjW.nil | exact InjW.one | exact InjW.two (by simp) | exact InjW.three (by simp) (by simp) (by simp))
  · have hT : l.take i = l := List.take_of_length_le (by omega)
    rw [hT]
    repeat' (first
     | refine WK.seq ?_
     | refine WK.block ?_
     | refine WK.inBlock ?_
     | refine WK.skip ?_
     | refine WK.label ?_
     | refine WK.scope ?_
     | refine WK.inScope ?_
     | refine WK.exit rfl ?_
     | refine WK.condT rfl ?_
     | refine WK.condF rfl ?_
     | (refine Hid.h hQ _ _ ?_; clear hQ hA)
     | refine WK.condAny rfl ?_ ?_
     | ((first | refine WK.cond2 rfl (fun h => ?_) (fun h => ?_)) <;> (first | (simp [*] at h; done) | (have h2 := h; simp at h2; exfalso; omega) | (have h2 := h; simp at h2; try simp only [Bool.not_eq_true', Bool.not_eq_false'] at h) | skip))
     | (refine WK.regH Tryz.ntmps45 (by kernel_rfl) ?_; intro A hA Q hQ; simp [*])
     | (refine WK.retO Tryz.func45 rfl rfl ?_ ?_ <;> simp (maxDischargeDepth := 120) [*])
     | fail)
theorem gbad_c (k c : Int) : FnP Tryz.prog 33 [.int .i64 k, .int .i64 c] (.tup [.agg gm0.enc, .agg (gFault (some (k, c)))]) := by
  refine FnP.intro Tryz.func33 rfl rfl fun G w => ?_
  repeat' (first
   | refine WK.seq ?_
   | refine WK.block ?_
   | refine WK.inBlock ?_
   | refine WK.skip ?_
   | refine WK.label ?_
   | refine WK.scope ?_
   | refine WK.inScope ?_
   | refine WK.exit rfl ?_
   | refine WK.condT rfl ?_
   | refine WK.condF rfl ?_
   | (refine Hid.h hQ _ _ ?_; clear hQ hA)
   | refine WK.condAny rfl ?_ ?_
   | ((first | refine WK.cond2 rfl (fun h => ?_) (fun h => ?_)) <;> (first | (simp [*] at h; done) | (have h2 := h; simp at h2; exfalso; omega) | (have h2 := h; simp at h2; try simp only [Bool.not_eq_true', Bool.not_eq_false'] at h) | skip))
   | (refine WK.regH Tryz.ntmps33 (by kernel_rfl) ?_; intro A hA Q hQ; simp [*])
   | (refine WK.ret Tryz.func33 ?_ ?_ <;> simp (maxDischargeDepth := 120) [Tryz.results33, gFault, gm0, GroupMod.enc, *])
   | fail)
theorem gwithin_c (n t : Int) : FnP Tryz.prog 35 [.int .i64 n, .int .i64 t] (.bool (gmIn n t)) := by
  have e : gmIn n t = (decide (0 ≤ n) && decide (n ≤ t)) := rfl
  refine FnP.intro Tryz.func35 rfl rfl fun G w => ?_
  repeat' (first
   | refine WK.seq ?_
   | refine WK.block ?_
   | refine WK.inBlock ?_
   | refine WK.skip ?_
   | refine WK.label ?_
   | refine WK.scope ?_
   | refine WK.inScope ?_
   | refine WK.exit rfl ?_
   | refine WK.condT rfl ?_
   | refine WK.condF rfl ?_
   | (refine Hid.h hQ _ _ ?_; clear hQ hA)
   | refine WK.condAny rfl ?_ ?_
   | ((first | refine WK.cond2 rfl (fun h => ?_) (fun h => ?_) | refine Fork.mk (fun h => ?_) (fun h => ?_)) <;> (first | (simp [*] at h; done) | (have h2 := h; simp at h2; exfalso; omega) | (have h2 := h; simp at h2; try simp only [Bool.not_eq_true', Bool.not_eq_false'] at h) | skip))
   | (refine WK.regH Tryz.ntmps35 (by kernel_rfl) ?_; intro A hA Q hQ; simp [*])
   | (refine RunQ.gd rfl (by rw [hA.h]; rfl) ?_; simp [*])
   | (refine WK.ret Tryz.func35 ?_ ?_ <;> simp (maxDischargeDepth := 120) [Tryz.results35, *])
   | fail)
structure GmFit (g : GroupMod) : Prop where
  len : g.buckets.length ≤ 1000000
  acts : ∀ x, x ∈ g.buckets → x.acts.length ≤ 1000000
theorem gright_c (g : GroupMod) (hg : GmFit g) : FnP Tryz.prog 15 [.agg g.enc] (.bool (gmRight g)) := by
  have p := bkencP_c g.buckets hg.len hg.acts
  have n1 := gwithin_c g.command 2
  have n2 := gwithin_c g.kind 3
  have n3 := nright_c g.id 4 Sz4
  have e : gmRight g = ((bkEnc g.buckets).2 == 0 && (gmIn g.command 2 && (gmIn g.kind 3 && numOk g.id 4))) := rfl
  obtain ⟨R, hR⟩ : ∃ R, bkEnc g.buckets = R := ⟨_, rfl⟩
  rw [hR] at p e
  simp only [byS, bukS] at p
  refine FnP.intro Tryz.func15 rfl rfl fun G w => ?_
  repeat' (first
   | refine WK.seq ?_
   | refine WK.block ?_
   | refine WK.inBlock ?_
   | refine WK.skip ?_
   | refine WK.label ?_
   | refine WK.scope ?_
   | refine WK.inScope ?_
   | refine WK.exit rfl ?_
   | refine WK.condT rfl ?_
   | refine WK.condF rfl ?_
   | (refine Hid.h hQ _ _ ?_; clear hQ hA)
   | refine WK.condAny rfl ?_ ?_
   | ((first | refine WK.cond2 rfl (fun h => ?_) (fun h => ?_) | refine Fork.mk (fun h => ?_) (fun h => ?_)) <;> (first | (simp [*] at h; done) | (have h2 := h; simp at h2; exfalso; omega) | (have h2 := h; simp at h2; try simp only [Bool.not_eq_true', Bool.not_eq_false'] at h) | skip))
   | (refine WK.regH Tryz.ntmps15 (by kernel_rfl) ?_; intro A hA Q hQ; simp [GroupMod.enc, *])
   | (refine RunQ.gd rfl (by rw [hA.h]; rfl) ?_; simp [GroupMod.enc, *])
   | ((first | ((first | refine RunQ.call rfl rfl rfl rfl rfl ?_ (p) ?_ ?_ | refine RunQW.call rfl rfl rfl rfl ?_ (p) ?_ ?_); (focus (simp (maxDischargeDepth := 120) [GroupMod.enc, *]; done))) | ((first | refine RunQ.call rfl rfl rfl rfl rfl ?_ (n1) ?_ ?_ | refine RunQW.call rfl rfl rfl rfl ?_ (n1) ?_ ?_); (focus (simp (maxDischargeDepth := 120) [GroupMod.enc, *]; done))) | ((first | refine RunQ.call rfl rfl rfl rfl rfl ?_ (n2) ?_ ?_ | refine RunQW.call rfl rfl rfl rfl ?_ (n2) ?_ ?_); (focus (simp (maxDischargeDepth := 120) [GroupMod.enc, *]; done))) | ((first | refine RunQ.call rfl rfl rfl rfl rfl ?_ (n3) ?_ ?_ | refine RunQW.call rfl rfl rfl rfl ?_ (n3) ?_ ?_); (focus (simp (maxDischargeDepth := 120) [GroupMod.enc, *]; done)))); (focus (simp [GroupMod.enc, *]; done)); refine RunQ.evalH ?_; simp [GroupMod.enc, *])
   | (refine WK.ret Tryz.func15 ?_ ?_ <;> simp (maxDischargeDepth := 120) [Tryz.results15, GroupMod.enc, *])
   | fail)
theorem gmFld {g : GroupMod} (h : gmRight g = true) : fldF [(g.command, 2), (g.kind, 1), (0, 1), (g.id, 4)] = gmHead g ∧ (bkEnc g.buckets).2 = 0 := by
  unfold gmRight at h
  rw [Bool.and_eq_true, Bool.and_eq_true, Bool.and_eq_true, beq_iff_eq] at h
  obtain ⟨h0, h1, h2, h3⟩ := h
  refine ⟨?_, h0⟩
  show putN (putN (putN (putN [] g.command 2) g.kind 1) 0 1) g.id 4 = _
  rw [putN_beN (gmIn_ok h1 (by decide)), putN_beN (gmIn_ok h2 (by decide)), putN_beN h3, putN_beN (n := 0) (s := 1) (by decide)]
  unfold gmHead
  simp only [List.nil_append, List.append_assoc]
theorem gmHead_len (g : GroupMod) : (gmHead g).length = 8 := by unfold gmHead; simp [beN_len]
theorem genc_c (g : GroupMod) (hg : GmFit g) : FnT Tryz.prog 12 [.agg g.enc] (gmEnc g).1.length 1 (byL (gmEnc g).1) [.int .i64 (gmEnc g).2] := by
  have r := gright_c g hg
  cases hr : gmRight g
  · have e : gmEnc g = ([], 1) := by unfold gmEnc; rw [if_neg (by rw [hr]; exact Bool.false_ne_true)]
    rw [hr] at r
    rw [e]
    unfold GroupMod.enc at *
    refine FnT.intro Tryz.func12 rfl rfl fun G w => ?_
    repeat' (first
     | refine WK.seq ?_
     | refine WK.block ?_
     | refine WK.inBlock ?_
     | refine WK.skip ?_
     | refine WK.label ?_
     | refine WK.scope ?_
     | refine WK.inScope ?_
     | refine WK.exit rfl ?_
     | refine WK.condT rfl ?_
     | refine WK.condF rfl ?_
     | (refine Hid.h hQ _ _ ?_; clear hQ hA)
     | refine WK.condAny rfl ?_ ?_
     | ((first | refine WK.cond2 rfl (fun h => ?_) (fun h => ?_)) <;> (first | (simp [*] at h; done) | (have h2 := h; simp at h2; exfalso; omega) | (have h2 := h; simp at h2; try simp only [Bool.not_eq_true', Bool.not_eq_false'] at h) | skip))
     | (refine WK.regH Tryz.ntmps12 (by kernel_rfl) ?_; intro A hA Q hQ; simp [*])
     | ((refine RunQ.call rfl rfl rfl rfl rfl ?_ (r) ?_ ?_; (focus (simp (maxDischargeDepth := 120) [*]; done))); (focus (simp [*]; done)); refine RunQ.evalH ?_; simp [*])
     | fail)
    repeat (first | refine WK.seq ?_ | refine WK.block ?_ | refine WK.inBlock ?_ | refine WK.skip ?_ | refine WK.label ?_ | refine WK.scope ?_ | refine WK.inScope ?_ | refine WK.exit rfl ?_)
    refine WK.ghost (Ghost.own 2 900 1 rfl rfl) ?_
    repeat (first | refine WK.seq ?_ | refine WK.block ?_ | refine WK.inBlock ?_ | refine WK.skip ?_ | refine WK.label ?_ | refine WK.scope ?_ | refine WK.inScope ?_ | refine WK.exit rfl ?_)
    refine WK.retT2 Tryz.func12 ?_ ?_ ?_ <;> simp (maxDischargeDepth := 120) [Tryz.results12, byL_nil]
  obtain ⟨hf, h0⟩ := gmFld hr
  have e : gmEnc g = (gmHead g ++ (bkEnc g.buckets).1, 0) := by unfold gmEnc; rw [if_pos hr]
  have p := bkencP_c g.buckets hg.len hg.acts
  have hEl := bkEnc_len g.buckets
  have hHl := gmHead_len g
  have c := gfields_c [(g.command, 2), (g.kind, 1), (0, 1), (g.id, 4)] (by simp [Sz]) (by simp)
  rw [hf] at c
  rw [h0] at p
  rw [hr] at r
  obtain ⟨E, hE⟩ : ∃ E, (bkEnc g.buckets).1 = E := ⟨_, rfl⟩
  obtain ⟨F, hF⟩ : ∃ F, gmHead g = F := ⟨_, rfl⟩
  rw [hE] at p e hEl
  rw [hF] at c e hHl
  rw [e]
  have hbd : F.length + E.length ≤ 140737488355328 := by omega
  have hfu := by_full E E.length rfl
  simp only [byS, bukS, prL, prE, List.flatMap_cons, List.flatMap_nil, List.append_nil, List.cons_append, List.nil_append, List.length_cons, List.length_nil, Nat.zero_add, Nat.reduceAdd] at p c
  unfold GroupMod.enc at *
  clear hE hF hf hEl hHl hg e hr h0
  refine FnT.intro Tryz.func12 rfl rfl fun G w => ?_
  repeat' (first
   | refine WK.seq ?_
   | refine WK.block ?_
   | refine WK.inBlock ?_
   | refine WK.skip ?_
   | refine WK.label ?_
   | refine WK.scope ?_
   | refine WK.inScope ?_
   | refine WK.exit rfl ?_
   | refine WK.condT rfl ?_
   | refine WK.condF rfl ?_
   | (refine Hid.h hQ _ _ ?_; clear hQ hA)
   | refine WK.condAny rfl ?_ ?_
   | ((first | refine WK.cond2 rfl (fun h => ?_) (fun h => ?_)) <;> (first | (simp [*] at h; done) | (have h2 := h; simp at h2; exfalso; omega) | (have h2 := h; simp at h2; try simp only [Bool.not_eq_true', Bool.not_eq_false'] at h) | skip))
   | (refine WK.regH Tryz.ntmps12 (by kernel_rfl) ?_; intro A hA Q hQ; simp [*])
   | (refine RunQ.callO 900 rfl rfl rfl rfl rfl ?_ (c) ?_ ?_ ?_ ?_; (focus (simp (maxDischargeDepth := 120) [*]; done)); (focus (simp [*]; done)); (focus (simp [*]; done)); (focus (simp [*]; done)); refine RunQ.evalH ?_; simp [*])
   | (refine RunQ.append 901 appByte rfl rfl rfl rfl rfl rfl rfl rfl rfl ?_ ?_ ?_ ?_ ?_; (focus (first | omega | (simp [*]; done); done)); (focus (first | omega | (simp [*]; done); done)); (focus (first | omega | (simp [*]; done); done)); (focus (first | omega | (simp [*]; done); done)); refine RunQ.evalH ?_; simp [*])
   | ((first | (refine RunQ.call rfl rfl rfl rfl rfl ?_ (r) ?_ ?_; (focus (simp (maxDischargeDepth := 120) [*]; done))) | (refine RunQ.call rfl rfl rfl rfl rfl ?_ (p) ?_ ?_; (focus (simp (maxDischargeDepth := 120) [*]; done)))); (focus (simp [*]; done)); refine RunQ.evalH ?_; simp [*])
   | (refine WK.retT2 Tryz.func12 ?_ ?_ ?_ <;> simp (maxDischargeDepth := 120) [Tryz.results12, byL_app, *])
   | fail)
theorem getN_one {b : List (BitVec 8)} {p : Nat} (h : p < b.length) : getN b p 1 = (bI (nth b p), 0) := by
  unfold getN
  rw [if_pos (by omega)]
  have : (b.drop p).take 1 = [nth b p] := by
    rw [nth_eq h, List.drop_eq_getElem_cons h]; rfl
  rw [this]
  simp [valN, bI]
set_option maxHeartbeats 4000000 in
theorem gdec_c (b : List (BitVec 8)) (hb : b.length ≤ 1000000) : FnP Tryz.prog 8 [byS b] (.tup [.agg (gmDec b).1.enc, .agg (gFault (gmDec b).2)]) := by
  have b16 := gbad_c 1 6
  have b611 := gbad_c 6 11
  have b610 := gbad_c 6 10
  by_cases c0 : b.length < 8
  · have e : gmDec b = (gm0, some (1, 6)) := by unfold gmDec; rw [if_pos (.inl c0)]
    have c0' : (b.length : Int) < 8 := by omega
    rw [e]
    unfold byS
    clear b611 b610
    refine FnP.intro Tryz.func8 rfl rfl fun G w => ?_
    repeat' (first
     | refine WK.seq ?_
     | refine WK.block ?_
     | refine WK.inBlock ?_
     | refine WK.skip ?_
     | refine WK.label ?_
     | refine WK.scope ?_
     | refine WK.inScope ?_
     | refine WK.exit rfl ?_
     | refine WK.condT rfl ?_
     | refine WK.condF rfl ?_
     | (refine Hid.h hQ _ _ ?_; clear hQ hA)
     | refine WK.condAny rfl ?_ ?_
     | ((first | refine WK.cond2 rfl (fun h => ?_) (fun h => ?_) | refine Fork.mk (fun h => ?_) (fun h => ?_)) <;> (first | (simp [*] at h; done) | (have h2 := h; simp at h2; exfalso; omega) | (have h2 := h; simp at h2; try simp only [Bool.not_eq_true', Bool.not_eq_false'] at h) | skip))
     | ((first | refine WK.regH Tryz.ntmps8 (by kernel_rfl) ?_ | refine WK.regX (by kernel_rfl) Tryz.ntmps8 (by kernel_rfl) ?_); intro A hA Q hQ; simp [gFault, gm0, GroupMod.enc, *])
     | (refine Hid.h hQ _ _ _ (by decide +kernel) ?_; clear hQ hA)
     | ((first | refine RunQ.gd rfl (by rw [hA.h]; rfl) ?_ | refine RunX.gd rfl (by rw [hA.h]; rfl) ?_); simp [gFault, gm0, GroupMod.enc, *])
     | (((first | refine RunQ.call rfl rfl rfl rfl rfl ?_ (b16) ?_ ?_ | refine RunQW.call rfl rfl rfl rfl ?_ (b16) ?_ ?_ | refine RunX.call rfl rfl rfl rfl ?_ (b16) ?_ ?_ | refine RunXW.call rfl rfl rfl ?_ (b16) ?_ ?_); (focus (simp (maxDischargeDepth := 120) [gFault, gm0, GroupMod.enc, *]; done))); (focus (simp [gFault, gm0, GroupMod.enc, *]; done)); (first | refine RunQ.evalH ?_ | refine RunX.evalY ?_); simp [gFault, gm0, GroupMod.enc, *])
     | (refine WK.ret Tryz.func8 ?_ ?_ <;> simp (maxDischargeDepth := 120) [Tryz.results8, gFault, gm0, GroupMod.enc, *])
     | fail)
  have c0' : ¬ (b.length : Int) < 8 := by omega
  have x3 := by_get b 3 (by omega)
  have y3 := bI_zero (nth b 3)
  have u3 : (3 : Int) < b.length := by omega
  have v3 : 3 < b.length := by omega
  have hdef : gmDec b = if (nth b 3 == 0#8) = false then (gm0, some (1, 6)) else if gmIn (getN b 0 2).1 2 = false then (gm0, some (6, 11))
    else if gmIn (getN b 2 1).1 3 = false then (gm0, some (6, 10))
    else match (bkDec (b.drop 8)).2 with
      | some c => (gm0, some c)
      | none => (⟨(getN b 0 2).1, (getN b 2 1).1, (getN b 4 4).1, (bkDec (b.drop 8)).1⟩, none) := by
    unfold gmDec
    rw [getN_one v3]
    by_cases h : (nth b 3 == 0#8) = false
    · rw [if_pos h, if_pos (.inr (by rw [← y3] at h; simpa using h))]
    · rw [if_neg h, if_neg (by rintro (h' | h'); exact c0 h'; rw [Bool.not_eq_false] at h; rw [h] at y3; exact h' (by simpa using y3))]; rfl
  have g0 := nget_c b 0 2 Sz2 (by omega) (by omega)
  have g1 := nget_c b 2 1 Sz1 (by omega) (by omega)
  have g2 := nget_c b 4 4 Sz4 (by omega) (by omega)
  obtain ⟨k3, hk3⟩ : ∃ k, nth b 3 = k := ⟨_, rfl⟩
  rw [hk3] at x3 y3 hdef
  obtain ⟨z3, hz3⟩ : ∃ k, (k3 == 0#8) = k := ⟨_, rfl⟩
  rw [hz3] at y3 hdef
  obtain ⟨q0, hq0⟩ : ∃ q, getN b 0 2 = q := ⟨_, rfl⟩
  obtain ⟨q1, hq1⟩ : ∃ q, getN b 2 1 = q := ⟨_, rfl⟩
  obtain ⟨q2, hq2⟩ : ∃ q, getN b 4 4 = q := ⟨_, rfl⟩
  rw [hq0] at g0 hdef
  rw [hq1] at g1 hdef
  rw [hq2] at g2 hdef
  have w1 := gwithin_c q0.1 2
  have w2 := gwithin_c q1.1 3
  have d := bkdecP_c (b.drop 8) (by rw [List.length_drop]; omega)
  have hs : ((byL b).drop 8).take (b.length - 8) = byL (b.drop 8) := by rw [byL_drop]; exact by_full _ _ (by rw [List.length_drop])
  have u8 : (8 : Int) ≤ b.length := by omega
  simp only [byS, bukS, List.length_drop] at d g0 g1 g2 ⊢
  obtain ⟨S, hS⟩ : ∃ S, b.drop 8 = S := ⟨_, rfl⟩
  rw [hS] at hs d hdef
  clear hk3 hz3 hq0 hq1 hq2 hS
  cases z3
  · rw [if_pos rfl] at hdef
    rw [hdef]
    clear d w1 w2 g0 g1 g2 hs
    refine FnP.intro Tryz.func8 rfl rfl fun G w => ?_
    repeat' (first
     | refine WK.seq ?_
     | refine WK.block ?_
     | refine WK.inBlock ?_
     | refine WK.skip ?_
     | refine WK.label ?_
     | refine WK.scope ?_
     | refine WK.inScope ?_
     | refine WK.exit rfl ?_
     | refine WK.condT rfl ?_
     | refine WK.condF rfl ?_
     | (refine Hid.h hQ _ _ ?_; clear hQ hA)
     | refine WK.condAny rfl ?_ ?_
     | ((first | refine WK.cond2 rfl (fun h => ?_) (fun h => ?_) | refine Fork.mk (fun h => ?_) (fun h => ?_)) <;> (first | (simp [*] at h; done) | (have h2 := h; simp at h2; exfalso; omega) | (have h2 := h; simp at h2; try simp only [Bool.not_eq_true', Bool.not_eq_false'] at h) | skip))
     | ((first | refine WK.regH Tryz.ntmps8 (by kernel_rfl) ?_ | refine WK.regX (by kernel_rfl) Tryz.ntmps8 (by kernel_rfl) ?_); intro A hA Q hQ; simp [gFault, gm0, GroupMod.enc, bne, *])
     | (refine Hid.h hQ _ _ _ (by decide +kernel) ?_; clear hQ hA)
     | ((first | refine RunQ.gd rfl (by rw [hA.h]; rfl) ?_ | refine RunX.gd rfl (by rw [hA.h]; rfl) ?_); simp [gFault, gm0, GroupMod.enc, bne, *])
     | (((first | refine RunQ.call rfl rfl rfl rfl rfl ?_ (b16) ?_ ?_ | refine RunQW.call rfl rfl rfl rfl ?_ (b16) ?_ ?_ | refine RunX.call rfl rfl rfl rfl ?_ (b16) ?_ ?_ | refine RunXW.call rfl rfl rfl ?_ (b16) ?_ ?_); (focus (simp (maxDischargeDepth := 120) [gFault, gm0, GroupMod.enc, bne, *]; done))); (focus (simp [gFault, gm0, GroupMod.enc, bne, *]; done)); (first | refine RunQ.evalH ?_ | refine RunX.evalY ?_); simp [gFault, gm0, GroupMod.enc, bne, *])
     | (refine WK.ret Tryz.func8 ?_ ?_ <;> simp (maxDischargeDepth := 120) [Tryz.results8, gFault, gm0, GroupMod.enc, bne, *])
     | fail)
  rw [if_neg (by simp)] at hdef
  obtain ⟨i1, hi1⟩ : ∃ i, gmIn q0.1 2 = i := ⟨_, rfl⟩
  rw [hi1] at w1 hdef
  cases i1
  · rw [if_pos rfl] at hdef
    rw [hdef]
    clear d w2 hs
    refine FnP.intro Tryz.func8 rfl rfl fun G w => ?_
    repeat' (first
     | refine WK.seq ?_
     | refine WK.block ?_
     | refine WK.inBlock ?_
     | refine WK.skip ?_
     | refine WK.label ?_
     | refine WK.scope ?_
     | refine WK.inScope ?_
     | refine WK.exit rfl ?_
     | refine WK.condT rfl ?_
     | refine WK.condF rfl ?_
     | (refine Hid.h hQ _ _ ?_; clear hQ hA)
     | refine WK.condAny rfl ?_ ?_
     | ((first | refine WK.cond2 rfl (fun h => ?_) (fun h => ?_) | refine Fork.mk (fun h => ?_) (fun h => ?_)) <;> (first | (simp [*] at h; done) | (have h2 := h; simp at h2; exfalso; omega) | (have h2 := h; simp at h2; try simp only [Bool.not_eq_true', Bool.not_eq_false'] at h) | skip))
     | ((first | refine WK.regH Tryz.ntmps8 (by kernel_rfl) ?_ | refine WK.regX (by kernel_rfl) Tryz.ntmps8 (by kernel_rfl) ?_); intro A hA Q hQ; simp [gFault, gm0, GroupMod.enc, bne, *])
     | (refine Hid.h hQ _ _ _ (by decide +kernel) ?_; clear hQ hA)
     | ((first | refine RunQ.gd rfl (by rw [hA.h]; rfl) ?_ | refine RunX.gd rfl (by rw [hA.h]; rfl) ?_); simp [gFault, gm0, GroupMod.enc, bne, *])
     | ((first | ((first | refine RunQ.call rfl rfl rfl rfl rfl ?_ (g0) ?_ ?_ | refine RunQW.call rfl rfl rfl rfl ?_ (g0) ?_ ?_ | refine RunX.call rfl rfl rfl rfl ?_ (g0) ?_ ?_ | refine RunXW.call rfl rfl rfl ?_ (g0) ?_ ?_); (focus (simp (maxDischargeDepth := 120) [gFault, gm0, GroupMod.enc, bne, *]; done))) | ((first | refine RunQ.call rfl rfl rfl rfl rfl ?_ (g1) ?_ ?_ | refine RunQW.call rfl rfl rfl rfl ?_ (g1) ?_ ?_ | refine RunX.call rfl rfl rfl rfl ?_ (g1) ?_ ?_ | refine RunXW.call rfl rfl rfl ?_ (g1) ?_ ?_); (focus (simp (maxDischargeDepth := 120) [gFault, gm0, GroupMod.enc, bne, *]; done))) | ((first | refine RunQ.call rfl rfl rfl rfl rfl ?_ (g2) ?_ ?_ | refine RunQW.call rfl rfl rfl rfl ?_ (g2) ?_ ?_ | refine RunX.call rfl rfl rfl rfl ?_ (g2) ?_ ?_ | refine RunXW.call rfl rfl rfl ?_ (g2) ?_ ?_); (focus (simp (maxDischargeDepth := 120) [gFault, gm0, GroupMod.enc, bne, *]; done))) | ((first | refine RunQ.call rfl rfl rfl rfl rfl ?_ (w1) ?_ ?_ | refine RunQW.call rfl rfl rfl rfl ?_ (w1) ?_ ?_ | refine RunX.call rfl rfl rfl rfl ?_ (w1) ?_ ?_ | refine RunXW.call rfl rfl rfl ?_ (w1) ?_ ?_); (focus (simp (maxDischargeDepth := 120) [gFault, gm0, GroupMod.enc, bne, *]; done))) | ((first | refine RunQ.call rfl rfl rfl rfl rfl ?_ (b611) ?_ ?_ | refine RunQW.call rfl rfl rfl rfl ?_ (b611) ?_ ?_ | refine RunX.call rfl rfl rfl rfl ?_ (b611) ?_ ?_ | refine RunXW.call rfl rfl rfl ?_ (b611) ?_ ?_); (focus (simp (maxDischargeDepth := 120) [gFault, gm0, GroupMod.enc, bne, *]; done)))); (focus (simp [gFault, gm0, GroupMod.enc, bne, *]; done)); (first | refine RunQ.evalH ?_ | refine RunX.evalY ?_); simp [gFault, gm0, GroupMod.enc, bne, *])
     | (refine WK.ret Tryz.func8 ?_ ?_ <;> simp (maxDischargeDepth := 120) [Tryz.results8, gFault, gm0, GroupMod.enc, bne, *])
     | fail)
  rw [if_neg (by simp)] at hdef
  obtain ⟨i2, hi2⟩ : ∃ i, gmIn q1.1 3 = i := ⟨_, rfl⟩
  rw [hi2] at w2 hdef
  cases i2
  · rw [if_pos rfl] at hdef
    rw [hdef]
    clear d hs
    refine FnP.intro Tryz.func8 rfl rfl fun G w => ?_
    repeat' (first
     | refine WK.seq ?_
     | refine WK.block ?_
     | refine WK.inBlock ?_
     | refine WK.skip ?_
     | refine WK.label ?_
     | refine WK.scope ?_
     | refine WK.inScope ?_
     | refine WK.exit rfl ?_
     | refine WK.condT rfl ?_
     | refine WK.condF rfl ?_
     | (refine Hid.h hQ _ _ ?_; clear hQ hA)
     | refine WK.condAny rfl ?_ ?_
     | ((first | refine WK.cond2 rfl (fun h => ?_) (fun h => ?_) | refine Fork.mk (fun h => ?_) (fun h => ?_)) <;> (first | (simp [*] at h; done) | (have h2 := h; simp at h2; exfalso; omega) | (have h2 := h; simp at h2; try simp only [Bool.not_eq_true', Bool.not_eq_false'] at h) | skip))
     | ((first | refine WK.regH Tryz.ntmps8 (by kernel_rfl) ?_ | refine WK.regX (by kernel_rfl) Tryz.ntmps8 (by kernel_rfl) ?_); intro A hA Q hQ; simp [gFault, gm0, GroupMod.enc, bne, *])
     | (refine Hid.h hQ _ _ _ (by decide +kernel) ?_; clear hQ hA)
     | ((first | refine RunQ.gd rfl (by rw [hA.h]; rfl) ?_ | refine RunX.gd rfl (by rw [hA.h]; rfl) ?_); simp [gFault, gm0, GroupMod.enc, bne, *])
     | ((first | ((first | refine RunQ.call rfl rfl rfl rfl rfl ?_ (g0) ?_ ?_ | refine RunQW.call rfl rfl rfl rfl ?_ (g0) ?_ ?_ | refine RunX.call rfl rfl rfl rfl ?_ (g0) ?_ ?_ | refine RunXW.call rfl rfl rfl ?_ (g0) ?_ ?_); (focus (simp (maxDischargeDepth := 120) [gFault, gm0, GroupMod.enc, bne, *]; done))) | ((first | refine RunQ.call rfl rfl rfl rfl rfl ?_ (g1) ?_ ?_ | refine RunQW.call rfl rfl rfl rfl ?_ (g1) ?_ ?_ | refine RunX.call rfl rfl rfl rfl ?_ (g1) ?_ ?_ | refine RunXW.call rfl rfl rfl ?_ (g1) ?_ ?_); (focus (simp (maxDischargeDepth := 120) [gFault, gm0, GroupMod.enc, bne, *]; done))) | ((first | refine RunQ.call rfl rfl rfl rfl rfl ?_ (g2) ?_ ?_ | refine RunQW.call rfl rfl rfl rfl ?_ (g2) ?_ ?_ | refine RunX.call rfl rfl rfl rfl ?_ (g2) ?_ ?_ | refine RunXW.call rfl rfl rfl ?_ (g2) ?_ ?_); (focus (simp (maxDischargeDepth := 120) [gFault, gm0, GroupMod.enc, bne, *]; done))) | ((first | refine RunQ.call rfl rfl rfl rfl rfl ?_ (w1) ?_ ?_ | refine RunQW.call rfl rfl rfl rfl ?_ (w1) ?_ ?_ | refine RunX.call rfl rfl rfl rfl ?_ (w1) ?_ ?_ | refine RunXW.call rfl rfl rfl ?_ (w1) ?_ ?_); (focus (simp (maxDischargeDepth := 120) [gFault, gm0, GroupMod.enc, bne, *]; done))) | ((first | refine RunQ.call rfl rfl rfl rfl rfl ?_ (w2) ?_ ?_ | refine RunQW.call rfl rfl rfl rfl ?_ (w2) ?_ ?_ | refine RunX.call rfl rfl rfl rfl ?_ (w2) ?_ ?_ | refine RunXW.call rfl rfl rfl ?_ (w2) ?_ ?_); (focus (simp (maxDischargeDepth := 120) [gFault, gm0, GroupMod.enc, bne, *]; done))) | ((first | refine RunQ.call rfl rfl rfl rfl rfl ?_ (b610) ?_ ?_ | refine RunQW.call rfl rfl rfl rfl ?_ (b610) ?_ ?_ | refine RunX.call rfl rfl rfl rfl ?_ (b610) ?_ ?_ | refine RunXW.call rfl rfl rfl ?_ (b610) ?_ ?_); (focus (simp (maxDischargeDepth := 120) [gFault, gm0, GroupMod.enc, bne, *]; done)))); (focus (simp [gFault, gm0, GroupMod.enc, bne, *]; done)); (first | refine RunQ.evalH ?_ | refine RunX.evalY ?_); simp [gFault, gm0, GroupMod.enc, bne, *])
     | (refine WK.ret Tryz.func8 ?_ ?_ <;> simp (maxDischargeDepth := 120) [Tryz.results8, gFault, gm0, GroupMod.enc, bne, *])
     | fail)
  rw [if_neg (by simp)] at hdef
  obtain ⟨R, hR⟩ : ∃ R, bkDec S = R := ⟨_, rfl⟩
  rw [hR] at d hdef
  obtain ⟨l, f⟩ := R
  rw [hdef]
  clear hdef hR hi1 hi2
  refine FnP.intro Tryz.func8 rfl rfl fun G w => ?_
  cases f <;>
  · repeat' (first
     | refine WK.seq ?_
     | refine WK.block ?_
     | refine WK.inBlock ?_
     | refine WK.skip ?_
     | refine WK.label ?_
     | refine WK.scope ?_
     | refine WK.inScope ?_
     | refine WK.exit rfl ?_
     | refine WK.condT rfl ?_
     | refine WK.condF rfl ?_
     | (refine Hid.h hQ _ _ ?_; clear hQ hA)
     | refine WK.condAny rfl ?_ ?_
     | ((first | refine WK.cond2 rfl (fun h => ?_) (fun h => ?_) | refine Fork.mk (fun h => ?_) (fun h => ?_)) <;> (first | (simp [*] at h; done) | (have h2 := h; simp at h2; exfalso; omega) | (have h2 := h; simp at h2; try simp only [Bool.not_eq_true', Bool.not_eq_false'] at h) | skip))
     | ((first | refine WK.regH Tryz.ntmps8 (by kernel_rfl) ?_ | refine WK.regX (by kernel_rfl) Tryz.ntmps8 (by kernel_rfl) ?_); intro A hA Q hQ; simp [gFault, gm0, GroupMod.enc, bne, *])
     | (refine Hid.h hQ _ _ _ (by decide +kernel) ?_; clear hQ hA)
     | ((first | refine RunQ.gd rfl (by rw [hA.h]; rfl) ?_ | refine RunX.gd rfl (by rw [hA.h]; rfl) ?_); simp [gFault, gm0, GroupMod.enc, bne, *])
     | ((first | ((first | refine RunQ.call rfl rfl rfl rfl rfl ?_ (g0) ?_ ?_ | refine RunQW.call rfl rfl rfl rfl ?_ (g0) ?_ ?_ | refine RunX.call rfl rfl rfl rfl ?_ (g0) ?_ ?_ | refine RunXW.call rfl rfl rfl ?_ (g0) ?_ ?_); (focus (simp (maxDischargeDepth := 120) [gFault, gm0, GroupMod.enc, bne, *]; done))) | ((first | refine RunQ.call rfl rfl rfl rfl rfl ?_ (g1) ?_ ?_ | refine RunQW.call rfl rfl rfl rfl ?_ (g1) ?_ ?_ | refine RunX.call rfl rfl rfl rfl ?_ (g1) ?_ ?_ | refine RunXW.call rfl rfl rfl ?_ (g1) ?_ ?_); (focus (simp (maxDischargeDepth := 120) [gFault, gm0, GroupMod.enc, bne, *]; done))) | ((first | refine RunQ.call rfl rfl rfl rfl rfl ?_ (g2) ?_ ?_ | refine RunQW.call rfl rfl rfl rfl ?_ (g2) ?_ ?_ | refine RunX.call rfl rfl rfl rfl ?_ (g2) ?_ ?_ | refine RunXW.call rfl rfl rfl ?_ (g2) ?_ ?_); (focus (simp (maxDischargeDepth := 120) [gFault, gm0, GroupMod.enc, bne, *]; done))) | ((first | refine RunQ.call rfl rfl rfl rfl rfl ?_ (w1) ?_ ?_ | refine RunQW.call rfl rfl rfl rfl ?_ (w1) ?_ ?_ | refine RunX.call rfl rfl rfl rfl ?_ (w1) ?_ ?_ | refine RunXW.call rfl rfl rfl ?_ (w1) ?_ ?_); (focus (simp (maxDischargeDepth := 120) [gFault, gm0, GroupMod.enc, bne, *]; done))) | ((first | refine RunQ.call rfl rfl rfl rfl rfl ?_ (w2) ?_ ?_ | refine RunQW.call rfl rfl rfl rfl ?_ (w2) ?_ ?_ | refine RunX.call rfl rfl rfl rfl ?_ (w2) ?_ ?_ | refine RunXW.call rfl rfl rfl ?_ (w2) ?_ ?_); (focus (simp (maxDischargeDepth := 120) [gFault, gm0, GroupMod.enc, bne, *]; done))) | ((first | refine RunQ.call rfl rfl rfl rfl rfl ?_ (d) ?_ ?_ | refine RunQW.call rfl rfl rfl rfl ?_ (d) ?_ ?_ | refine RunX.call rfl rfl rfl rfl ?_ (d) ?_ ?_ | refine RunXW.call rfl rfl rfl ?_ (d) ?_ ?_); (focus (simp (maxDischargeDepth := 120) [gFault, gm0, GroupMod.enc, bne, *]; done)))); (focus (simp [gFault, gm0, GroupMod.enc, bne, *]; done)); (first | refine RunQ.evalH ?_ | refine RunX.evalY ?_); simp [gFault, gm0, GroupMod.enc, bne, *])
     | (refine WK.ret Tryz.func8 ?_ ?_ <;> simp (maxDischargeDepth := 120) [Tryz.results8, gFault, gm0, GroupMod.enc, bne, *])
     | fail)
end Go.Proofs.YteonfhnljphbpaaGreat
end

section
set_option linter.unusedVariables false
set_option linter.unusedSimpArgs false
namespace Go.Proofs.YteonfhnljphbpaaGreat
open Go Go.AI Go.Proofs
attribute [local irreducible] FnP FnO FnB FnT FnSeq WK RunQ RunQW RunX RunXW

def GroupMod.same (a b : GroupMod) : Bool := (a.command == b.command && (a.kind == b.kind && a.id == b.id)) && eqBy Bucket.same a.buckets b.buckets
theorem gmSame_self (x : GroupMod) : GroupMod.same x x = true := by unfold GroupMod.same; simp [eqBy_refl bkSame_self]
theorem gsame_c (a b : GroupMod) (ha : GmFit a) : FnP Tryz.prog 17 [.agg a.enc, .agg b.enc] (.bool (GroupMod.same a b)) := by
  have hsa := bsameL_c a.buckets b.buckets ha.len ha.acts
  have e : GroupMod.same a b = ((a.command == b.command && (a.kind == b.kind && a.id == b.id)) && eqBy Bucket.same a.buckets b.buckets) := rfl
  obtain ⟨s, hs⟩ : ∃ s, eqBy Bucket.same a.buckets b.buckets = s := ⟨_, rfl⟩
  rw [hs] at hsa e
  unfold bukS at hsa
  refine FnP.intro Tryz.func17 rfl rfl fun G w => ?_
  repeat' (first
   | refine WK.seq ?_
   | refine WK.block ?_
   | refine WK.inBlock ?_
   | refine WK.skip ?_
   | refine WK.label ?_
   | refine WK.scope ?_
   | refine WK.inScope ?_
   | refine WK.exit rfl ?_
   | refine WK.condT rfl ?_
   | refine WK.condF rfl ?_
   | (refine Hid.h hQ _ _ ?_; clear hQ hA)
   | refine WK.condAny rfl ?_ ?_
   | ((first | refine WK.cond2 rfl (fun h => ?_) (fun h => ?_) | refine Fork.mk (fun h => ?_) (fun h => ?_)) <;> (first | (simp [*] at h; done) | (have h2 := h; simp at h2; exfalso; omega) | (have h2 := h; simp at h2; try simp only [Bool.not_eq_true', Bool.not_eq_false'] at h) | skip))
   | (refine WK.regH Tryz.ntmps17 (by kernel_rfl) ?_; intro A hA Q hQ; simp [GroupMod.enc, *])
   | (refine RunQ.gd rfl (by rw [hA.h]; rfl) ?_; simp [GroupMod.enc, *])
   | (((first | refine RunQ.call rfl rfl rfl rfl rfl ?_ (hsa) ?_ ?_ | refine RunQW.call rfl rfl rfl rfl ?_ (hsa) ?_ ?_); (focus (simp (maxDischargeDepth := 120) [GroupMod.enc, *]; done))); (focus (simp [GroupMod.enc, *]; done)); refine RunQ.evalH ?_; simp [GroupMod.enc, *])
   | (refine WK.ret Tryz.func17 ?_ ?_ <;> simp (maxDischargeDepth := 120) [Tryz.results17, GroupMod.enc, *])
   | fail)
theorem gencP_c (g : GroupMod) (hg : GmFit g) : FnP Tryz.prog 12 [.agg g.enc] (.tup [byS (gmEnc g).1, .int .i64 (gmEnc g).2]) := by
  have h := (genc_c g hg).toP (by simp [byL_take]) (by rfl)
  rwa [Nat.mul_one, by_full _ _ rfl] at h
theorem gmDec_fit {b : List (BitVec 8)} {g : GroupMod} {c : Option (Int × Int)} (hb : b.length ≤ 1000000) (h : gmDec b = (g, c)) : GmFit g := by
  have z : GmFit gm0 := ⟨by simp [gm0], by simp [gm0]⟩
  unfold gmDec at h
  split at h
  · cases h; exact z
  split at h
  · cases h; exact z
  split at h
  · cases h; exact z
  split at h
  · cases h; exact z
  · obtain ⟨R, hR⟩ : ∃ R, bkDec (b.drop 8) = R := ⟨_, rfl⟩
    obtain ⟨l, f⟩ := R
    have hk := bkDec_small hR
    rw [hR] at h
    cases h
    exact ⟨by simp only; omega, fun x hx => by have := hk.2 x hx; rw [List.length_drop] at this; omega⟩
def L18 : GroupMod := ⟨1, 3, 9, [⟨0, 2, 0, []⟩]⟩
theorem fL18a : (gmEnc L18).1.length = 24 := by kernel_rfl
theorem fL18b : (gmEnc L18).2 = 0 := by kernel_rfl
theorem fL18c : gmDec (gmEnc L18).1 = (L18, none) := by kernel_rfl
theorem fL18d : gmDec [0#8, 5#8, 0#8, 0#8, 0#8, 0#8, 0#8, 0#8] = (gm0, some (6, 11)) := by kernel_rfl
theorem fL18e : gmRight L18 = true := by kernel_rfl
set_option maxHeartbeats 4000000 in
theorem awake18_c : FnP Tryz.prog 7 [] (.bool true) := by
  have hg : GmFit L18 := ⟨by decide, by intro x hx; simp [L18] at hx; subst hx; simp⟩
  have p := gencP_c L18 hg
  have d := gdec_c (gmEnc L18).1 (by rw [fL18a]; omega)
  have d1 := gdec_c [0#8, 5#8, 0#8, 0#8, 0#8, 0#8, 0#8, 0#8] (by decide)
  have s := gsame_c L18 L18 hg
  have r := gright_c L18 hg
  rw [fL18c] at d
  rw [fL18d] at d1
  rw [fL18b] at p
  rw [fL18e] at r
  rw [gmSame_self] at s
  have hB := fL18a
  obtain ⟨B, hBB⟩ : ∃ B, (gmEnc L18).1 = B := ⟨_, rfl⟩
  rw [hBB] at p d hB
  clear hBB
  unfold byS at p d d1
  rw [hB] at p d
  have e1 : byL [0#8, 5#8, 0#8, 0#8, 0#8, 0#8, 0#8, 0#8] = [.int .u8 0, .int .u8 5, .int .u8 0, .int .u8 0, .int .u8 0, .int .u8 0, .int .u8 0, .int .u8 0] := rfl
  rw [e1] at d1
  simp only [gFault, gm0, GroupMod.enc, bukL, L18, actL_nil, List.flatMap_cons, List.flatMap_nil, List.append_nil, List.cons_append, List.nil_append, List.length_cons, List.length_nil, Bucket.enc, Nat.zero_add, Nat.reduceAdd] at p d d1 s r
  refine FnP.intro Tryz.func7 rfl rfl fun G w => ?_
  repeat' (first
   | refine WK.seq ?_
   | refine WK.block ?_
   | refine WK.inBlock ?_
   | refine WK.skip ?_
   | refine WK.label ?_
   | refine WK.scope ?_
   | refine WK.inScope ?_
   | refine WK.exit rfl ?_
   | refine WK.condT rfl ?_
   | refine WK.condF rfl ?_
   | (refine Hid.h hQ _ _ ?_; clear hQ hA)
   | refine WK.condAny rfl ?_ ?_
   | ((first | refine WK.cond2 rfl (fun h => ?_) (fun h => ?_) | refine Fork.mk (fun h => ?_) (fun h => ?_)) <;> (first | (simp [*] at h; done) | (have h2 := h; simp at h2; exfalso; omega) | (have h2 := h; simp at h2; try simp only [Bool.not_eq_true', Bool.not_eq_false'] at h) | skip))
   | (refine WK.regH Tryz.ntmps7 (by kernel_rfl) ?_; intro A hA Q hQ; simp [*])
   | (refine RunQ.gd rfl (by rw [hA.h]; rfl) ?_; simp [*])
   | ((first | ((first | refine RunQ.call rfl rfl rfl rfl rfl ?_ (p) ?_ ?_ | refine RunQW.call rfl rfl rfl rfl ?_ (p) ?_ ?_); (focus (simp (maxDischargeDepth := 120) [*]; done))) | ((first | refine RunQ.call rfl rfl rfl rfl rfl ?_ (d) ?_ ?_ | refine RunQW.call rfl rfl rfl rfl ?_ (d) ?_ ?_); (focus (simp (maxDischargeDepth := 120) [*]; done))) | ((first | refine RunQ.call rfl rfl rfl rfl rfl ?_ (d1) ?_ ?_ | refine RunQW.call rfl rfl rfl rfl ?_ (d1) ?_ ?_); (focus (simp (maxDischargeDepth := 120) [*]; done))) | ((first | refine RunQ.call rfl rfl rfl rfl rfl ?_ (s) ?_ ?_ | refine RunQW.call rfl rfl rfl rfl ?_ (s) ?_ ?_); (focus (simp (maxDischargeDepth := 120) [*]; done))) | ((first | refine RunQ.call rfl rfl rfl rfl rfl ?_ (r) ?_ ?_ | refine RunQW.call rfl rfl rfl rfl ?_ (r) ?_ ?_); (focus (simp (maxDischargeDepth := 120) [*]; done)))); (focus (simp [*]; done)); refine RunQ.evalH ?_; simp [*])
   | (refine WK.ret Tryz.func7 ?_ ?_ <;> simp (maxDischargeDepth := 120) [Tryz.results7, *])
   | fail)
end Go.Proofs.YteonfhnljphbpaaGreat
end

section
set_option linter.unusedVariables false
set_option linter.unusedSimpArgs false
namespace Go.Proofs.YteonfhnljphbpaaGreat
open Go Go.AI Go.Proofs
attribute [local irreducible] FnP FnO FnB FnT FnSeq WK RunQ RunQW RunX RunXW

theorem rgbad_c (c : Int) : FnP Tryz.prog 38 [.int .i64 c] (.agg (gFault (some (6, c)))) := by
  refine FnP.intro Tryz.func38 rfl rfl fun G w => ?_
  repeat' (first
   | refine WK.seq ?_
   | refine WK.block ?_
   | refine WK.inBlock ?_
   | refine WK.skip ?_
   | refine WK.label ?_
   | refine WK.scope ?_
   | refine WK.inScope ?_
   | refine WK.exit rfl ?_
   | refine WK.condT rfl ?_
   | refine WK.condF rfl ?_
   | (refine Hid.h hQ _ _ ?_; clear hQ hA)
   | refine WK.condAny rfl ?_ ?_
   | ((first | refine WK.cond2 rfl (fun h => ?_) (fun h => ?_)) <;> (first | (simp [*] at h; done) | (have h2 := h; simp at h2; exfalso; omega) | (have h2 := h; simp at h2; try simp only [Bool.not_eq_true', Bool.not_eq_false'] at h) | skip))
   | (refine WK.regH Tryz.ntmps38 (by kernel_rfl) ?_; intro A hA Q hQ; simp [*])
   | (refine WK.ret Tryz.func38 ?_ ?_ <;> simp (maxDischargeDepth := 120) [Tryz.results38, gFault, *])
   | fail)
theorem rgsame_c (a b : GroupMod) (ha : GmFit a) : FnP Tryz.prog 10 [.agg a.enc, .agg b.enc] (.bool (GroupMod.same a b)) := by
  have hsa := rbsameL_c a.buckets b.buckets ha.len ha.acts
  have e : GroupMod.same a b = ((a.command == b.command && (a.kind == b.kind && a.id == b.id)) && eqBy Bucket.same a.buckets b.buckets) := rfl
  obtain ⟨s, hs⟩ : ∃ s, eqBy Bucket.same a.buckets b.buckets = s := ⟨_, rfl⟩
  rw [hs] at hsa e
  unfold bukS at hsa
  refine FnP.intro Tryz.func10 rfl rfl fun G w => ?_
  repeat' (first
   | refine WK.seq ?_
   | refine WK.block ?_
   | refine WK.inBlock ?_
   | refine WK.skip ?_
   | refine WK.label ?_
   | refine WK.scope ?_
   | refine WK.inScope ?_
   | refine WK.exit rfl ?_
   | refine WK.condT rfl ?_
   | refine WK.condF rfl ?_
   | (refine Hid.h hQ _ _ ?_; clear hQ hA)
   | refine WK.condAny rfl ?_ ?_
   | ((first | refine WK.cond2 rfl (fun h => ?_) (fun h => ?_) | refine Fork.mk (fun h => ?_) (fun h => ?_)) <;> (first | (simp [*] at h; done) | (have h2 := h; simp at h2; exfalso; omega) | (have h2 := h; simp at h2; try simp only [Bool.not_eq_true', Bool.not_eq_false'] at h) | skip))
   | (refine WK.regH Tryz.ntmps10 (by kernel_rfl) ?_; intro A hA Q hQ; simp [GroupMod.enc, *])
   | (refine RunQ.gd rfl (by rw [hA.h]; rfl) ?_; simp [GroupMod.enc, *])
   | (((first | refine RunQ.call rfl rfl rfl rfl rfl ?_ (hsa) ?_ ?_ | refine RunQW.call rfl rfl rfl rfl ?_ (hsa) ?_ ?_); (focus (simp (maxDischargeDepth := 120) [GroupMod.enc, *]; done))); (focus (simp [GroupMod.enc, *]; done)); refine RunQ.evalH ?_; simp [GroupMod.enc, *])
   | (refine WK.ret Tryz.func10 ?_ ?_ <;> simp (maxDischargeDepth := 120) [Tryz.results10, GroupMod.enc, *])
   | fail)
theorem u8_i64' (x : BitVec 8) : IntKind.i64.wrap (bI x) = bI x := by
  have := x.isLt
  unfold bI
  exact wrap_i64 (by omega) (by omega)
theorem getN_two {b : List (BitVec 8)} {p : Nat} (h : p + 2 ≤ b.length) : getN b p 2 = (bI (nth b p) * 256 + bI (nth b (p + 1)), 0) := by
  unfold getN
  rw [if_pos h]
  have : (b.drop p).take 2 = [nth b p, nth b (p + 1)] := by
    rw [nth_eq (by omega), nth_eq (by omega), List.drop_eq_getElem_cons (by omega), List.drop_eq_getElem_cons (by omega)]; rfl
  rw [this]
  simp [valN, bI]
theorem bI_range (x : BitVec 8) : 0 ≤ bI x ∧ bI x < 256 := by have := x.isLt; unfold bI; omega
set_option maxHeartbeats 4000000 in
theorem rgdec_c (b : List (BitVec 8)) (hb : b.length ≤ 1000000) : FnP Tryz.prog 9 [byS b] (.tup [.agg (gmDec b).1.enc, .agg (gFault (gmDec b).2)]) := by
  have b11 := rgbad_c 11
  have b10 := rgbad_c 10
  by_cases c0 : b.length < 8
  · have e : gmDec b = (gm0, some (1, 6)) := by unfold gmDec; rw [if_pos (.inl c0)]
    have c0' : (b.length : Int) < 8 := by omega
    rw [e]
    unfold byS
    clear b11 b10
    refine FnP.intro Tryz.func9 rfl rfl fun G w => ?_
    repeat' (first
     | refine WK.seq ?_
     | refine WK.block ?_
     | refine WK.inBlock ?_
     | refine WK.skip ?_
     | refine WK.label ?_
     | refine WK.scope ?_
     | refine WK.inScope ?_
     | refine WK.exit rfl ?_
     | refine WK.condT rfl ?_
     | refine WK.condF rfl ?_
     | (refine Hid.h hQ _ _ ?_; clear hQ hA)
     | refine WK.condAny rfl ?_ ?_
     | ((first | refine WK.cond2 rfl (fun h => ?_) (fun h => ?_) | refine Fork.mk (fun h => ?_) (fun h => ?_)) <;> (first | (simp [*] at h; done) | (have h2 := h; simp at h2; exfalso; omega) | (have h2 := h; simp at h2; try simp only [Bool.not_eq_true', Bool.not_eq_false'] at h) | skip))
     | ((first | refine WK.regH Tryz.ntmps9 (by kernel_rfl) ?_ | refine WK.regX (by kernel_rfl) Tryz.ntmps9 (by kernel_rfl) ?_); intro A hA Q hQ; simp [gFault, gm0, GroupMod.enc, *])
     | (refine Hid.h hQ _ _ _ (by decide +kernel) ?_; clear hQ hA)
     | ((first | refine RunQ.gd rfl (by rw [hA.h]; rfl) ?_ | refine RunX.gd rfl (by rw [hA.h]; rfl) ?_); simp [gFault, gm0, GroupMod.enc, *])
     | (refine WK.ret Tryz.func9 ?_ ?_ <;> simp (maxDischargeDepth := 120) [Tryz.results9, gFault, gm0, GroupMod.enc, *])
     | fail)
  have c0' : ¬ (b.length : Int) < 8 := by omega
  have x0 := by_get b 0 (by omega)
  have x1 := by_get b 1 (by omega)
  have x2 := by_get b 2 (by omega)
  have x3 := by_get b 3 (by omega)
  have y3 := bI_zero (nth b 3)
  have u0 : (0 : Int) < b.length := by omega
  have u1 : (1 : Int) < b.length := by omega
  have u2 : (2 : Int) < b.length := by omega
  have u3 : (3 : Int) < b.length := by omega
  have v0 : 0 < b.length := by omega
  have v1 : 1 < b.length := by omega
  have v2 : 2 < b.length := by omega
  have v3 : 3 < b.length := by omega
  have hdef : gmDec b = if (nth b 3 == 0#8) = false then (gm0, some (1, 6)) else if 2 < bI (nth b 0) * 256 + bI (nth b 1) then (gm0, some (6, 11))
    else if 3 < bI (nth b 2) then (gm0, some (6, 10))
    else match (bkDec (b.drop 8)).2 with
      | some c => (gm0, some c)
      | none => (⟨bI (nth b 0) * 256 + bI (nth b 1), bI (nth b 2), (getN b 4 4).1, (bkDec (b.drop 8)).1⟩, none) := by
    have r0 := bI_range (nth b 0)
    have r1 := bI_range (nth b 1)
    have r2 := bI_range (nth b 2)
    unfold gmDec
    rw [getN_one v3, getN_one v2, getN_two (by omega), Nat.zero_add]
    have g1 : (gmIn (bI (nth b 0) * 256 + bI (nth b 1)) 2 = false) ↔ 2 < bI (nth b 0) * 256 + bI (nth b 1) := by
      unfold gmIn; rw [Bool.and_eq_false_iff, decide_eq_false_iff_not, decide_eq_false_iff_not]; omega
    have g2 : (gmIn (bI (nth b 2)) 3 = false) ↔ 3 < bI (nth b 2) := by
      unfold gmIn; rw [Bool.and_eq_false_iff, decide_eq_false_iff_not, decide_eq_false_iff_not]; omega
    simp only [g1, g2]
    by_cases h : (nth b 3 == 0#8) = false
    · rw [if_pos h, if_pos (.inr (by rw [← y3] at h; simpa using h))]
    · rw [if_neg h, if_neg (by rintro (h' | h'); exact c0 h'; rw [Bool.not_eq_false] at h; rw [h] at y3; exact h' (by simpa using y3))]; rfl
  have r0 := bI_range (nth b 0)
  have r1 := bI_range (nth b 1)
  have w0 := u8_i64' (nth b 0)
  have w1 := u8_i64' (nth b 1)
  have w2 := u8_i64' (nth b 2)
  have wm : IntKind.i64.wrap (bI (nth b 0) * 256) = bI (nth b 0) * 256 := wrap_i64 (by omega) (by omega)
  have wa : IntKind.i64.wrap (bI (nth b 0) * 256 + bI (nth b 1)) = bI (nth b 0) * 256 + bI (nth b 1) := wrap_i64 (by omega) (by omega)
  have g2 := rget_c b 4 4 Sz4 (by omega) (by omega)
  obtain ⟨k3, hk3⟩ : ∃ k, nth b 3 = k := ⟨_, rfl⟩
  obtain ⟨k2, hk2⟩ : ∃ k, bI (nth b 2) = k := ⟨_, rfl⟩
  obtain ⟨k1, hk1⟩ : ∃ k, bI (nth b 1) = k := ⟨_, rfl⟩
  obtain ⟨k0, hk0⟩ : ∃ k, bI (nth b 0) = k := ⟨_, rfl⟩
  rw [hk3] at x3 y3 hdef
  rw [hk2] at x2 hdef w2
  rw [hk1] at x1 hdef w1 wa
  rw [hk0] at x0 hdef w0 wa wm
  obtain ⟨z3, hz3⟩ : ∃ k, (k3 == 0#8) = k := ⟨_, rfl⟩
  rw [hz3] at y3 hdef
  obtain ⟨q2, hq2⟩ : ∃ q, getN b 4 4 = q := ⟨_, rfl⟩
  rw [hq2] at g2 hdef
  have d := rbkdecP_c (b.drop 8) (by rw [List.length_drop]; omega)
  have hs : ((byL b).drop 8).take (b.length - 8) = byL (b.drop 8) := by rw [byL_drop]; exact by_full _ _ (by rw [List.length_drop])
  have u8 : (8 : Int) ≤ b.length := by omega
  simp only [byS, bukS, List.length_drop] at d g2 ⊢
  obtain ⟨S, hS⟩ : ∃ S, b.drop 8 = S := ⟨_, rfl⟩
  rw [hS] at hs d hdef
  clear hk3 hz3 hk0 hk1 hk2 hq2 hS r0 r1
  cases z3
  · rw [if_pos rfl] at hdef
    rw [hdef]
    clear d g2 hs b11 b10
    refine FnP.intro Tryz.func9 rfl rfl fun G w => ?_
    repeat' (first
     | refine WK.seq ?_
     | refine WK.block ?_
     | refine WK.inBlock ?_
     | refine WK.skip ?_
     | refine WK.label ?_
     | refine WK.scope ?_
     | refine WK.inScope ?_
     | refine WK.exit rfl ?_
     | refine WK.condT rfl ?_
     | refine WK.condF rfl ?_
     | (refine Hid.h hQ _ _ ?_; clear hQ hA)
     | refine WK.condAny rfl ?_ ?_
     | ((first | refine WK.cond2 rfl (fun h => ?_) (fun h => ?_) | refine Fork.mk (fun h => ?_) (fun h => ?_)) <;> (first | (simp [*] at h; done) | (have h2 := h; simp at h2; exfalso; omega) | (have h2 := h; simp at h2; try simp only [Bool.not_eq_true', Bool.not_eq_false'] at h) | skip))
     | ((first | refine WK.regH Tryz.ntmps9 (by kernel_rfl) ?_ | refine WK.regX (by kernel_rfl) Tryz.ntmps9 (by kernel_rfl) ?_); intro A hA Q hQ; simp [gFault, gm0, GroupMod.enc, bne, *])
     | (refine Hid.h hQ _ _ _ (by decide +kernel) ?_; clear hQ hA)
     | ((first | refine RunQ.gd rfl (by rw [hA.h]; rfl) ?_ | refine RunX.gd rfl (by rw [hA.h]; rfl) ?_); simp [gFault, gm0, GroupMod.enc, bne, *])
     | (refine WK.ret Tryz.func9 ?_ ?_ <;> simp (maxDischargeDepth := 120) [Tryz.results9, gFault, gm0, GroupMod.enc, bne, *])
     | fail)
  rw [if_neg (by simp)] at hdef
  by_cases i1 : 2 < k0 * 256 + k1
  · rw [if_pos i1] at hdef
    rw [hdef]
    clear d hs b10
    refine FnP.intro Tryz.func9 rfl rfl fun G w => ?_
    repeat' (first
     | refine WK.seq ?_
     | refine WK.block ?_
     | refine WK.inBlock ?_
     | refine WK.skip ?_
     | refine WK.label ?_
     | refine WK.scope ?_
     | refine WK.inScope ?_
     | refine WK.exit rfl ?_
     | refine WK.condT rfl ?_
     | refine WK.condF rfl ?_
     | (refine Hid.h hQ _ _ ?_; clear hQ hA)
     | refine WK.condAny rfl ?_ ?_
     | ((first | refine WK.cond2 rfl (fun h => ?_) (fun h => ?_) | refine Fork.mk (fun h => ?_) (fun h => ?_)) <;> (first | (simp [*] at h; done) | (have h2 := h; simp at h2; exfalso; omega) | (have h2 := h; simp at h2; try simp only [Bool.not_eq_true', Bool.not_eq_false'] at h) | skip))
     | ((first | refine WK.regH Tryz.ntmps9 (by kernel_rfl) ?_ | refine WK.regX (by kernel_rfl) Tryz.ntmps9 (by kernel_rfl) ?_); intro A hA Q hQ; simp [gFault, gm0, GroupMod.enc, bne, *])
     | (refine Hid.h hQ _ _ _ (by decide +kernel) ?_; clear hQ hA)
     | ((first | refine RunQ.gd rfl (by rw [hA.h]; rfl) ?_ | refine RunX.gd rfl (by rw [hA.h]; rfl) ?_); simp [gFault, gm0, GroupMod.enc, bne, *])
     | ((first | ((first | refine RunQ.call rfl rfl rfl rfl rfl ?_ (g2) ?_ ?_ | refine RunQW.call rfl rfl rfl rfl ?_ (g2) ?_ ?_ | refine RunX.call rfl rfl rfl rfl ?_ (g2) ?_ ?_ | refine RunXW.call rfl rfl rfl ?_ (g2) ?_ ?_); (focus (simp (maxDischargeDepth := 120) [gFault, gm0, GroupMod.enc, bne, *]; done))) | ((first | refine RunQ.call rfl rfl rfl rfl rfl ?_ (b11) ?_ ?_ | refine RunQW.call rfl rfl rfl rfl ?_ (b11) ?_ ?_ | refine RunX.call rfl rfl rfl rfl ?_ (b11) ?_ ?_ | refine RunXW.call rfl rfl rfl ?_ (b11) ?_ ?_); (focus (simp (maxDischargeDepth := 120) [gFault, gm0, GroupMod.enc, bne, *]; done)))); (focus (simp [gFault, gm0, GroupMod.enc, bne, *]; done)); (first | refine RunQ.evalH ?_ | refine RunX.evalY ?_); simp [gFault, gm0, GroupMod.enc, bne, *])
     | (refine WK.ret Tryz.func9 ?_ ?_ <;> simp (maxDischargeDepth := 120) [Tryz.results9, gFault, gm0, GroupMod.enc, bne, *])
     | fail)
  rw [if_neg i1] at hdef
  by_cases i2 : 3 < k2
  · rw [if_pos i2] at hdef
    rw [hdef]
    clear d hs b11
    refine FnP.intro Tryz.func9 rfl rfl fun G w => ?_
    repeat' (first
     | refine WK.seq ?_
     | refine WK.block ?_
     | refine WK.inBlock ?_
     | refine WK.skip ?_
     | refine WK.label ?_
     | refine WK.scope ?_
     | refine WK.inScope ?_
     | refine WK.exit rfl ?_
     | refine WK.condT rfl ?_
     | refine WK.condF rfl ?_
     | (refine Hid.h hQ _ _ ?_; clear hQ hA)
     | refine WK.condAny rfl ?_ ?_
     | ((first | refine WK.cond2 rfl (fun h => ?_) (fun h => ?_) | refine Fork.mk (fun h => ?_) (fun h => ?_)) <;> (first | (simp [*] at h; done) | (have h2 := h; simp at h2; exfalso; omega) | (have h2 := h; simp at h2; try simp only [Bool.not_eq_true', Bool.not_eq_false'] at h) | skip))
     | ((first | refine WK.regH Tryz.ntmps9 (by kernel_rfl) ?_ | refine WK.regX (by kernel_rfl) Tryz.ntmps9 (by kernel_rfl) ?_); intro A hA Q hQ; simp [gFault, gm0, GroupMod.enc, bne, *])
     | (refine Hid.h hQ _ _ _ (by decide +kernel) ?_; clear hQ hA)
     | ((first | refine RunQ.gd rfl (by rw [hA.h]; rfl) ?_ | refine RunX.gd rfl (by rw [hA.h]; rfl) ?_); simp [gFault, gm0, GroupMod.enc, bne, *])
     | ((first | ((first | refine RunQ.call rfl rfl rfl rfl rfl ?_ (g2) ?_ ?_ | refine RunQW.call rfl rfl rfl rfl ?_ (g2) ?_ ?_ | refine RunX.call rfl rfl rfl rfl ?_ (g2) ?_ ?_ | refine RunXW.call rfl rfl rfl ?_ (g2) ?_ ?_); (focus (simp (maxDischargeDepth := 120) [gFault, gm0, GroupMod.enc, bne, *]; done))) | ((first | refine RunQ.call rfl rfl rfl rfl rfl ?_ (b10) ?_ ?_ | refine RunQW.call rfl rfl rfl rfl ?_ (b10) ?_ ?_ | refine RunX.call rfl rfl rfl rfl ?_ (b10) ?_ ?_ | refine RunXW.call rfl rfl rfl ?_ (b10) ?_ ?_); (focus (simp (maxDischargeDepth := 120) [gFault, gm0, GroupMod.enc, bne, *]; done)))); (focus (simp [gFault, gm0, GroupMod.enc, bne, *]; done)); (first | refine RunQ.evalH ?_ | refine RunX.evalY ?_); simp [gFault, gm0, GroupMod.enc, bne, *])
     | (refine WK.ret Tryz.func9 ?_ ?_ <;> simp (maxDischargeDepth := 120) [Tryz.results9, gFault, gm0, GroupMod.enc, bne, *])
     | fail)
  rw [if_neg i2] at hdef
  obtain ⟨R, hR⟩ : ∃ R, bkDec S = R := ⟨_, rfl⟩
  rw [hR] at d hdef
  obtain ⟨l, f⟩ := R
  rw [hdef]
  clear hdef hR b11 b10
  refine FnP.intro Tryz.func9 rfl rfl fun G w => ?_
  cases f <;>
  · repeat' (first
     | refine WK.seq ?_
     | refine WK.block ?_
     | refine WK.inBlock ?_
     | refine WK.skip ?_
     | refine WK.label ?_
     | refine WK.scope ?_
     | refine WK.inScope ?_
     | refine WK.exit rfl ?_
     | refine WK.condT rfl ?_
     | refine WK.condF rfl ?_
     | (refine Hid.h hQ _ _ ?_; clear hQ hA)
     | refine WK.condAny rfl ?_ ?_
     | ((first | refine WK.cond2 rfl (fun h => ?_) (fun h => ?_) | refine Fork.mk (fun h => ?_) (fun h => ?_)) <;> (first | (simp [*] at h; done) | (have h2 := h; simp at h2; exfalso; omega) | (have h2 := h; simp at h2; try simp only [Bool.not_eq_true', Bool.not_eq_false'] at h) | skip))
     | ((first | refine WK.regH Tryz.ntmps9 (by kernel_rfl) ?_ | refine WK.regX (by kernel_rfl) Tryz.ntmps9 (by kernel_rfl) ?_); intro A hA Q hQ; simp [gFault, gm0, GroupMod.enc, bne, *])
     | (refine Hid.h hQ _ _ _ (by decide +kernel) ?_; clear hQ hA)
     | ((first | refine RunQ.gd rfl (by rw [hA.h]; rfl) ?_ | refine RunX.gd rfl (by rw [hA.h]; rfl) ?_); simp [gFault, gm0, GroupMod.enc, bne, *])
     | ((first | ((first | refine RunQ.call rfl rfl rfl rfl rfl ?_ (g2) ?_ ?_ | refine RunQW.call rfl rfl rfl rfl ?_ (g2) ?_ ?_ | refine RunX.call rfl rfl rfl rfl ?_ (g2) ?_ ?_ | refine RunXW.call rfl rfl rfl ?_ (g2) ?_ ?_); (focus (simp (maxDischargeDepth := 120) [gFault, gm0, GroupMod.enc, bne, *]; done))) | ((first | refine RunQ.call rfl rfl rfl rfl rfl ?_ (d) ?_ ?_ | refine RunQW.call rfl rfl rfl rfl ?_ (d) ?_ ?_ | refine RunX.call rfl rfl rfl rfl ?_ (d) ?_ ?_ | refine RunXW.call rfl rfl rfl ?_ (d) ?_ ?_); (focus (simp (maxDischargeDepth := 120) [gFault, gm0, GroupMod.enc, bne, *]; done)))); (focus (simp [gFault, gm0, GroupMod.enc, bne, *]; done)); (first | refine RunQ.evalH ?_ | refine RunX.evalY ?_); simp [gFault, gm0, GroupMod.enc, bne, *])
     | (refine WK.ret Tryz.func9 ?_ ?_ <;> simp (maxDischargeDepth := 120) [Tryz.results9, gFault, gm0, GroupMod.enc, bne, *])
     | fail)
theorem groupmodDecodes_c (b : List (BitVec 8)) : FnP Tryz.prog 3 [byS b] (.bool true) := by
  by_cases g : 70000 < b.length
  · have g' : (70000 : Int) < b.length := by omega
    unfold byS
    refine FnP.intro Tryz.func3 rfl rfl fun G w => ?_
    repeat' (first
     | refine WK.seq ?_
     | refine WK.block ?_
     | refine WK.inBlock ?_
     | refine WK.skip ?_
     | refine WK.label ?_
     | refine WK.scope ?_
     | refine WK.inScope ?_
     | refine WK.exit rfl ?_
     | refine WK.condT rfl ?_
     | refine WK.condF rfl ?_
     | (refine Hid.h hQ _ _ ?_; clear hQ hA)
     | refine WK.condAny rfl ?_ ?_
     | ((first | refine WK.cond2 rfl (fun h => ?_) (fun h => ?_) | refine Fork.mk (fun h => ?_) (fun h => ?_)) <;> (first | (simp [*] at h; done) | (have h2 := h; simp at h2; exfalso; omega) | (have h2 := h; simp at h2; try simp only [Bool.not_eq_true', Bool.not_eq_false'] at h) | skip))
     | (refine WK.regH Tryz.ntmps3 (by kernel_rfl) ?_; intro A hA Q hQ; simp [*])
     | (refine RunQ.gd rfl (by rw [hA.h]; rfl) ?_; simp [*])
     | (((first | refine RunQ.call rfl rfl rfl rfl rfl ?_ (awake18_c) ?_ ?_ | refine RunQW.call rfl rfl rfl rfl ?_ (awake18_c) ?_ ?_); (focus (simp (maxDischargeDepth := 120) [*]; done))); (focus (simp [*]; done)); refine RunQ.evalH ?_; simp [*])
     | (refine WK.ret Tryz.func3 ?_ ?_ <;> simp (maxDischargeDepth := 120) [Tryz.results3, *])
     | fail)
  · have g' : ¬ (70000 : Int) < b.length := by omega
    have d := gdec_c b (by omega)
    have e := rgdec_c b (by omega)
    obtain ⟨R, hR⟩ : ∃ R, gmDec b = R := ⟨_, rfl⟩
    obtain ⟨m, f⟩ := R
    have s := rgsame_c m m (gmDec_fit (by omega) hR)
    rw [gmSame_self] at s
    rw [hR] at d e
    simp only [byS, GroupMod.enc] at *
    clear hR
    refine FnP.intro Tryz.func3 rfl rfl fun G w => ?_
    cases f <;>
    · repeat' (first
       | refine WK.seq ?_
       | refine WK.block ?_
       | refine WK.inBlock ?_
       | refine WK.skip ?_
       | refine WK.label ?_
       | refine WK.scope ?_
       | refine WK.inScope ?_
       | refine WK.exit rfl ?_
       | refine WK.condT rfl ?_
       | refine WK.condF rfl ?_
       | (refine Hid.h hQ _ _ ?_; clear hQ hA)
       | refine WK.condAny rfl ?_ ?_
       | ((first | refine WK.cond2 rfl (fun h => ?_) (fun h => ?_) | refine Fork.mk (fun h => ?_) (fun h => ?_)) <;> (first | (simp [*] at h; done) | (have h2 := h; simp at h2; exfalso; omega) | (have h2 := h; simp at h2; try simp only [Bool.not_eq_true', Bool.not_eq_false'] at h) | skip))
       | (refine WK.regH Tryz.ntmps3 (by kernel_rfl) ?_; intro A hA Q hQ; simp [gFault, *])
       | (refine RunQ.gd rfl (by rw [hA.h]; rfl) ?_; simp [gFault, *])
       | ((first | ((first | refine RunQ.call rfl rfl rfl rfl rfl ?_ (d) ?_ ?_ | refine RunQW.call rfl rfl rfl rfl ?_ (d) ?_ ?_); (focus (simp (maxDischargeDepth := 120) [gFault, *]; done))) | ((first | refine RunQ.call rfl rfl rfl rfl rfl ?_ (e) ?_ ?_ | refine RunQW.call rfl rfl rfl rfl ?_ (e) ?_ ?_); (focus (simp (maxDischargeDepth := 120) [gFault, *]; done))) | ((first | refine RunQ.call rfl rfl rfl rfl rfl ?_ (s) ?_ ?_ | refine RunQW.call rfl rfl rfl rfl ?_ (s) ?_ ?_); (focus (simp (maxDischargeDepth := 120) [gFault, *]; done))) | ((first | refine RunQ.call rfl rfl rfl rfl rfl ?_ (awake18_c) ?_ ?_ | refine RunQW.call rfl rfl rfl rfl ?_ (awake18_c) ?_ ?_); (focus (simp (maxDischargeDepth := 120) [gFault, *]; done)))); (focus (simp [gFault, *]; done)); refine RunQ.evalH ?_; simp [gFault, *])
       | (refine WK.ret Tryz.func3 ?_ ?_ <;> simp (maxDischargeDepth := 120) [Tryz.results3, gFault, *])
       | fail)
end Go.Proofs.YteonfhnljphbpaaGreat
end
