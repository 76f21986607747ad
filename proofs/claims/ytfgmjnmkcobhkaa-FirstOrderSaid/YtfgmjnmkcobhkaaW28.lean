/- The stable sort of any many numbers: insertion in blocks of twenty, then merging by turning. -/
import Derived.Test.YtfgmjnmkcobhkaaW27
set_option linter.all false
set_option linter.unnecessarySimpa false
set_option linter.unusedVariables false
set_option linter.unusedSimpArgs false
namespace Go.Proofs.Ytfgmjnmkcobhkaa
open Go Go.AI Go.Proofs

theorem good_trans {k : Int → Int} {f g g' : Nat → Int} {a i b : Nat} (hi : i ≤ b) (h : Good k f g a i) (h' : Good k g g' a b) : Good k f g' a b := by
  refine ⟨fun x hx => ?_, fun x h1 h2 => ?_, h'.srt⟩
  · rw [h'.out x hx, h.out x (by omega)]
  · obtain ⟨y, j1, j2, j3⟩ := h'.val x h1 h2
    by_cases e : y < i
    · obtain ⟨z, l1, l2, l3⟩ := h.val y j1 e
      exact ⟨z, l1, by omega, by rw [j3, l3]⟩
    · exact ⟨y, j1, j2, by rw [j3, h.out y (by omega)]⟩
structure Spot (k : Int → Int) (g : Nat → Int) (a i s : Nat) : Prop where
  lo : a ≤ s
  hi : s ≤ i
  no : ∀ c, a ≤ c → c < s → ¬ k (g c) < k (g i)
  yes : ∀ c, s ≤ c → c < i → k (g c) < k (g i)
  good : Good k g (mvL g i s) a (i + 1)
open Classical in
noncomputable def insSeq (k : Int → Int) (a : Nat) (f : Nat → Int) : Nat → Nat → Int
  | 0 => f
  | i + 1 => if h : a < i ∧ ∃ s, Spot k (insSeq k a f i) a i s then mvL (insSeq k a f i) i (Classical.choose h.2) else insSeq k a f i
theorem insSeq_low (k : Int → Int) (a : Nat) (f : Nat → Int) : ∀ i, i ≤ a + 1 → insSeq k a f i = f
  | 0, _ => rfl
  | i + 1, h => by
    rw [insSeq, dif_neg (by intro c; omega)]
    exact insSeq_low k a f i (by omega)
structure Up (f : Nat → Int) (n a b : Nat) : Prop where
  bn : b ≤ n
  up : ∀ x y, a ≤ x → x < y → y < b → f x < f y
  rng : ∀ x, a ≤ x → x < b → 0 ≤ f x ∧ f x < n
theorem insSeq_spot {k : Int → Int} {f : Nat → Int} {n a b : Nat} (u : Up f n a b) (i : Nat) (h1 : a < i) (h2 : i < b) (hg : Good k f (insSeq k a f i) a i) :
    ∃ s, Spot k (insSeq k a f i) a i s ∧ insSeq k a f (i + 1) = mvL (insSeq k a f i) i s := by
  have hp : Pre k (insSeq k a f i) n a i (i + 1) := by
    refine ⟨h1, Nat.lt_succ_self _, by have := u.bn; omega, hg.srt, fun x y i1 i2 i3 => by omega, fun x y i1 i2 i3 i4 => ?_, fun x i1 i2 => ?_⟩
    · obtain ⟨z, j1, j2, j3⟩ := hg.val x i1 i2
      rw [j3, hg.out y (by omega)]
      exact u.up z y j1 (by omega) (by omega)
    · by_cases e : x < i
      · obtain ⟨z, j1, j2, j3⟩ := hg.val x i1 e
        rw [j3]; exact u.rng z j1 (by omega)
      · rw [hg.out x (by omega)]; exact u.rng x i1 (by omega)
  obtain ⟨s, s1, s2, s3, s4, s5⟩ := mergeB hp
  have hx : a < i ∧ ∃ s, Spot k (insSeq k a f i) a i s := ⟨h1, s, ⟨s1, s2, s3, s4, s5⟩⟩
  refine ⟨Classical.choose hx.2, Classical.choose_spec hx.2, ?_⟩
  rw [insSeq, dif_pos hx]
theorem insSeq_good {k : Int → Int} {f : Nat → Int} {n a b : Nat} (u : Up f n a b) : ∀ i, a < i → i ≤ b → Good k f (insSeq k a f i) a i
  | 0, h1, _ => by omega
  | i + 1, h1, h2 => by
    by_cases e : i = a
    · rw [insSeq_low k a f (i + 1) (by omega)]
      exact good_refl (fun x y i1 i2 i3 => by omega)
    · have hg := insSeq_good (k := k) u i (by omega) (by omega)
      obtain ⟨s, hs, he⟩ := insSeq_spot u i (by omega) (by omega) hg
      rw [he]
      exact good_trans (by omega) hg hs.good
set_option maxHeartbeats 4000000 in
theorem ins_c (fid : Nat) (caps : List AV) (k : Int → Int) (n : Nat) (hcl : ClL caps = true) (hn : n ≤ 1000000) (hf : CmpC fid caps k n) (f : Nat → Int) (a b : Nat) (hab : a ≤ b) (u : Up f n a b) :
    FnB Try.prog 147 [.msl 0 0 n, .int .i64 a, .int .i64 b, .fn fid caps] (.buf 1 (intL (ro f n))) (.tup []) (.buf 1 (intL (ro (insSeq k a f b) n))) := by
  have bn := u.bn
  have w0 : IntKind.i64.wrap ((a : Int) + 1) = a + 1 := wrap_i64 (by omega) (by omega)
  have e0 := insSeq_low k a f (a + 1) (Nat.le_refl _)
  refine FnB.intro Try.func147 rfl rfl fun G w l => ?_
  repeat (first | refine WK.seq ?_ | refine WK.block ?_ | refine WK.inBlock ?_ | refine WK.skip ?_ | refine WK.label ?_ | refine WK.scope ?_ | refine WK.inScope ?_ | refine WK.exit rfl ?_)
  first | refine WK.reg 100 Try.ntmps147 (by kernel_rfl) ?_ | refine WK.regD 100 clsOf (by kernel_rfl) Try.ntmps147 (by kernel_rfl) (by kernel_rfl) ?_
  intro A hA Q hQ
  simp [w0]
  refine hQ _ _ ?_
  clear hQ hA
  repeat (first | refine WK.seq ?_ | refine WK.block ?_ | refine WK.inBlock ?_ | refine WK.skip ?_ | refine WK.label ?_ | refine WK.scope ?_ | refine WK.inScope ?_ | refine WK.exit rfl ?_)
  refine WK.loopI (fun n => n) (fun i : Nat => (⟨(upd (upd (upd (upd (upd J 0 (.msl 0 0 n)) 1 (.int .i64 a)) 2 (.int .i64 b)) 3 (.fn fid caps)) 8 (.int .i64 i)), (upd B0 0 (.buf 1 (intL (ro (insSeq k a f i) n)))), 0⟩ : St)) (fun i => a + 1 ≤ i ∧ (i ≤ b ∨ i = a + 1)) (fun i => b + 1 - i) (a + 1) (by repeat (first | exact TmW.nil | refine TmW.upd ?_ (by simp (maxDischargeDepth := 120) [hcl, e0]))) (by repeat (first | exact BxW.nil | refine BxW.upd ?_ (by simp (maxDischargeDepth := 120) [hcl, e0]))) (by first | exact InjW.id | exact InjW.nil | exact InjW.one | exact InjW.two (by simp) | exact InjW.three (by simp) (by simp) (by simp)) (⟨by omega, by omega⟩) (fun i hi IH => ?_)
  repeat (first | refine WK.seq ?_ | refine WK.block ?_ | refine WK.inBlock ?_ | refine WK.skip ?_ | refine WK.label ?_ | refine WK.scope ?_ | refine WK.inScope ?_ | refine WK.exit rfl ?_)
  first | refine WK.reg 200 Try.ntmps147 (by kernel_rfl) ?_ | refine WK.regD 200 clsOf (by kernel_rfl) Try.ntmps147 (by kernel_rfl) (by kernel_rfl) ?_
  intro A hA Q hQ
  simp
  refine hQ _ _ ?_
  clear hQ hA
  repeat (first | refine WK.seq ?_ | refine WK.block ?_ | refine WK.inBlock ?_ | refine WK.skip ?_ | refine WK.label ?_ | refine WK.scope ?_ | refine WK.inScope ?_ | refine WK.exit rfl ?_)
  refine WK.cond2 rfl (fun h1 => ?_) (fun h1 => ?_)
  · simp at h1
    have h2 : i < b := by omega
    have h6 : IntKind.i64.wrap ((i : Int) + 1) = i + 1 := wrap_i64 (by omega) (by omega)
    have hG := insSeq_good (k := k) u i (by omega) (by omega)
    obtain ⟨s, hs, hnx⟩ := insSeq_spot u i (by omega) h2 hG
    have hz := mvL_zero (insSeq k a f i) i
    have hval : ∀ x, a ≤ x → x < b → 0 ≤ insSeq k a f i x ∧ insSeq k a f i x < n := fun x i1 i2 => by
      by_cases e : x < i
      · obtain ⟨z, j1, j2, j3⟩ := hG.val x i1 e
        rw [j3]; exact u.rng z j1 (by omega)
      · rw [hG.out x (by omega)]; exact u.rng x i1 i2
    obtain ⟨g, hg⟩ : ∃ g, g = insSeq k a f i := ⟨_, rfl⟩
    rw [← hg] at hs hnx hz hval ⊢
    have slo := hs.lo
    have shi := hs.hi
    repeat (first | refine WK.seq ?_ | refine WK.block ?_ | refine WK.inBlock ?_ | refine WK.skip ?_ | refine WK.label ?_ | refine WK.scope ?_ | refine WK.inScope ?_ | refine WK.exit rfl ?_)
    first | refine WK.reg 300 Try.ntmps147 (by kernel_rfl) ?_ | refine WK.regD 300 clsOf (by kernel_rfl) Try.ntmps147 (by kernel_rfl) (by kernel_rfl) ?_
    intro A hA Q hQ
    simp
    refine hQ _ _ ?_
    clear hQ hA
    repeat (first | refine WK.seq ?_ | refine WK.block ?_ | refine WK.inBlock ?_ | refine WK.skip ?_ | refine WK.label ?_ | refine WK.scope ?_ | refine WK.inScope ?_ | refine WK.exit rfl ?_)
    refine WK.loopI (fun n => n) (fun j : Nat => (⟨(upd (upd (upd (upd (upd (upd J 0 (.msl 0 0 n)) 1 (.int .i64 a)) 2 (.int .i64 b)) 3 (.fn fid caps)) 8 (.int .i64 i)) 9 (.int .i64 j)), (upd B0 0 (.buf 1 (intL (ro (mvL g i j) n)))), 0⟩ : St)) (fun j => s ≤ j ∧ j ≤ i) (fun j => j) (i) (by repeat (first | exact TmW.nil | refine TmW.upd ?_ (by simp (maxDischargeDepth := 120) [hcl, hz]))) (by repeat (first | exact BxW.nil | refine BxW.upd ?_ (by simp (maxDischargeDepth := 120) [hcl, hz]))) (by first | exact InjW.id | exact InjW.nil | exact InjW.one | exact InjW.two (by simp) | exact InjW.three (by simp) (by simp) (by simp)) (⟨shi, Nat.le_refl _⟩) (fun j hj IHj => ?_)
    by_cases hj0 : j = a
    · have e2 : j = s := by omega
      have e3 : mvL g i j = insSeq k a f (i + 1) := by rw [hnx, e2]
      have e3' : mvL g i a = insSeq k a f (i + 1) := (congrArg (mvL g i) hj0).symm.trans e3
      have b0 : decide ((a : Int) < j) = false := decide_eq_false (by omega)
      repeat (first | refine WK.seq ?_ | refine WK.block ?_ | refine WK.inBlock ?_ | refine WK.skip ?_ | refine WK.label ?_ | refine WK.scope ?_ | refine WK.inScope ?_ | refine WK.exit rfl ?_)
      first | refine WK.reg 400 Try.ntmps147 (by kernel_rfl) ?_ | refine WK.regD 400 clsOf (by kernel_rfl) Try.ntmps147 (by kernel_rfl) (by kernel_rfl) ?_
      intro A hA Q hQ
      have hg3 : (A[3]?).bind (·.dst) = some 21 := by rw [hA]; rfl
      simp [b0, hj0, hg3]
      refine hQ _ _ ?_
      clear hQ hA
      repeat (first | refine WK.seq ?_ | refine WK.block ?_ | refine WK.inBlock ?_ | refine WK.skip ?_ | refine WK.label ?_ | refine WK.scope ?_ | refine WK.inScope ?_ | refine WK.exit rfl ?_)
      refine WK.cond2 rfl (fun h => ?_) (fun h => ?_)
      · cases h
      repeat (first | refine WK.seq ?_ | refine WK.block ?_ | refine WK.inBlock ?_ | refine WK.skip ?_ | refine WK.label ?_ | refine WK.scope ?_ | refine WK.inScope ?_ | refine WK.exit rfl ?_)
      first | refine WK.reg 500 Try.ntmps147 (by kernel_rfl) ?_ | refine WK.regD 500 clsOf (by kernel_rfl) Try.ntmps147 (by kernel_rfl) (by kernel_rfl) ?_
      intro A hA Q hQ
      simp [h6]
      refine hQ _ _ ?_
      clear hQ hA
      repeat (first | refine WK.seq ?_ | refine WK.block ?_ | refine WK.inBlock ?_ | refine WK.skip ?_ | refine WK.label ?_ | refine WK.scope ?_ | refine WK.inScope ?_ | refine WK.exit rfl ?_)
      refine WK.next (fun n => n) (IH (i + 1) (⟨by omega, by omega⟩) (by first | omega | (dsimp only; omega))) (by repeat (first | exact TmW.nil | refine TmW.upd ?_ (by simp (maxDischargeDepth := 120) [hcl, e3', h6]))) (by repeat (first | exact BxW.nil | refine BxW.upd ?_ (by simp (maxDischargeDepth := 120) [hcl, e3', h6]))) (by first | exact InjW.id | exact InjW.nil | exact InjW.one | exact InjW.two (by simp) | exact InjW.three (by simp) (by simp) (by simp))
    obtain ⟨q, rfl⟩ : ∃ q, j = q + 1 := ⟨j - 1, by omega⟩
    have l1 : q < n := by omega
    have l2 : q + 1 < n := by omega
    have g1 := ro_sub (mvL g i (q + 1)) n q l1
    have g2 := ro_sub (mvL g i (q + 1)) n (q + 1) l2
    have n1 := mvL_at g i (q + 1)
    have n2 := mvL_at1 g i q
    have w1 : IntKind.i64.wrap (q : Int) = q := wrap_i64 (by omega) (by omega)
    have b3 : (q : Int) + 1 < n := by omega
    have b4 : (0 : Int) ≤ (q : Int) + 1 := by omega
    have b5 : ((q : Int) + 1).toNat = q + 1 := by omega
    have b6 : (a : Int) < (q : Int) + 1 := by omega
    have b7 : q + 1 + 1 ≤ n := by omega
    have b8 : q + 1 ≤ n := by omega
    have hc := cmpK_neg k (g i) (g q)
    repeat (first | refine WK.seq ?_ | refine WK.block ?_ | refine WK.inBlock ?_ | refine WK.skip ?_ | refine WK.label ?_ | refine WK.scope ?_ | refine WK.inScope ?_ | refine WK.exit rfl ?_)
    first | refine WK.reg 600 Try.ntmps147 (by kernel_rfl) ?_ | refine WK.regD 600 (clsM [(25, 0), (30, 0)]) (by kernel_rfl) Try.ntmps147 (by kernel_rfl) (by kernel_rfl) ?_
    intro A hA Q hQ
    have hg3 : (A[3]?).bind (·.dst) = some 21 := by rw [hA]; rfl
    simp [g1, g2, n1, n2, w1, l1, l2, b3, b4, b5, b6, hg3]
    refine RunQ.callG rfl rfl (by simp [hcl, hc, hg3]) rfl (by rfl) (by simp (maxDischargeDepth := 120) [hcl, hc, hg3]) (hf (g i) (g q) (hval i (by omega) (by omega)) (hval q (by omega) (by omega))) (by simp [hcl, hc, hg3]) ?_
    refine RunQ.eval ?_
    simp [hcl, hc, hg3]
    refine hQ _ _ ?_
    clear hQ hA
    repeat (first | refine WK.seq ?_ | refine WK.block ?_ | refine WK.inBlock ?_ | refine WK.skip ?_ | refine WK.label ?_ | refine WK.scope ?_ | refine WK.inScope ?_ | refine WK.exit rfl ?_)
    refine WK.cond2 rfl (fun h => ?_) (fun h => ?_)
    · have hlt : k (g q) < k (g i) := of_decide_eq_true h
      have hqs : s ≤ q := by
        by_cases e : q < s
        · exact absurd hlt (hs.no q (by omega) e)
        · omega
      have e3 := mvL_succ g i q (by omega)
      have t1 := ro_set (mvL g i (q + 1)) n (q + 1) (g q) l2
      have t2 := ro_set (setF (mvL g i (q + 1)) (q + 1) (g q)) n q (g i) l1
      repeat (first | refine WK.seq ?_ | refine WK.block ?_ | refine WK.inBlock ?_ | refine WK.skip ?_ | refine WK.label ?_ | refine WK.scope ?_ | refine WK.inScope ?_ | refine WK.exit rfl ?_)
      first | refine WK.reg 700 Try.ntmps147 (by kernel_rfl) ?_ | refine WK.regD 700 (clsM [(45, 0), (49, 0), (51, 0), (52, 0)]) (by kernel_rfl) Try.ntmps147 (by kernel_rfl) (by kernel_rfl) ?_
      intro A hA Q hQ
      simp [g1, g2, n1, n2, w1, l1, l2, b3, b4, b5, b6, b7, b8, t1, t2, e3]
      refine hQ _ _ ?_
      clear hQ hA
      repeat (first | refine WK.seq ?_ | refine WK.block ?_ | refine WK.inBlock ?_ | refine WK.skip ?_ | refine WK.label ?_ | refine WK.scope ?_ | refine WK.inScope ?_ | refine WK.exit rfl ?_)
      first | refine WK.reg 800 Try.ntmps147 (by kernel_rfl) ?_ | refine WK.regD 800 clsOf (by kernel_rfl) Try.ntmps147 (by kernel_rfl) (by kernel_rfl) ?_
      intro A hA Q hQ
      simp [w1]
      refine hQ _ _ ?_
      clear hQ hA
      repeat (first | refine WK.seq ?_ | refine WK.block ?_ | refine WK.inBlock ?_ | refine WK.skip ?_ | refine WK.label ?_ | refine WK.scope ?_ | refine WK.inScope ?_ | refine WK.exit rfl ?_)
      refine WK.next (fun n => n) (IHj (q) (⟨by omega, by omega⟩) (by first | omega | (dsimp only; omega))) (by repeat (first | exact TmW.nil | refine TmW.upd ?_ (by simp (maxDischargeDepth := 120) [hcl, e3]))) (by repeat (first | exact BxW.nil | refine BxW.upd ?_ (by simp (maxDischargeDepth := 120) [hcl, e3]))) (by first | exact InjW.id | exact InjW.nil | exact InjW.one | exact InjW.two (by simp) | exact InjW.three (by simp) (by simp) (by simp))
    · have hge : ¬ k (g q) < k (g i) := of_decide_eq_false h
      have hqs : q + 1 = s := by
        by_cases e : q < s
        · omega
        · exact absurd (hs.yes q (by omega) (by omega)) hge
      have e3 : mvL g i (q + 1) = insSeq k a f (i + 1) := by rw [hnx, hqs]
      repeat (first | refine WK.seq ?_ | refine WK.block ?_ | refine WK.inBlock ?_ | refine WK.skip ?_ | refine WK.label ?_ | refine WK.scope ?_ | refine WK.inScope ?_ | refine WK.exit rfl ?_)
      first | refine WK.reg 900 Try.ntmps147 (by kernel_rfl) ?_ | refine WK.regD 900 clsOf (by kernel_rfl) Try.ntmps147 (by kernel_rfl) (by kernel_rfl) ?_
      intro A hA Q hQ
      simp [h6]
      refine hQ _ _ ?_
      clear hQ hA
      repeat (first | refine WK.seq ?_ | refine WK.block ?_ | refine WK.inBlock ?_ | refine WK.skip ?_ | refine WK.label ?_ | refine WK.scope ?_ | refine WK.inScope ?_ | refine WK.exit rfl ?_)
      refine WK.next (fun n => n) (IH (i + 1) (⟨by omega, by omega⟩) (by first | omega | (dsimp only; omega))) (by repeat (first | exact TmW.nil | refine TmW.upd ?_ (by simp (maxDischargeDepth := 120) [hcl, e3, h6]))) (by repeat (first | exact BxW.nil | refine BxW.upd ?_ (by simp (maxDischargeDepth := 120) [hcl, e3, h6]))) (by first | exact InjW.id | exact InjW.nil | exact InjW.one | exact InjW.two (by simp) | exact InjW.three (by simp) (by simp) (by simp))
  · simp at h1
    have e4 : insSeq k a f i = insSeq k a f b := by
      by_cases e : i ≤ b
      · rw [show i = b by omega]
      · rw [insSeq_low k a f i (by omega), insSeq_low k a f b (by omega)]
    repeat (first | refine WK.seq ?_ | refine WK.block ?_ | refine WK.inBlock ?_ | refine WK.skip ?_ | refine WK.label ?_ | refine WK.scope ?_ | refine WK.inScope ?_ | refine WK.exit rfl ?_)
    refine WK.retB Try.func147 (by simp (maxDischargeDepth := 120) [Try.results147, e4]) (by simp [e4]) rfl (.inl rfl)
def Blk (k : Int → Int) (g : Nat → Int) (lo hi : Nat) : Prop := Srt k g lo hi ∧ ∀ x, lo ≤ x → x < hi → (lo : Int) ≤ g x ∧ g x < hi
theorem Blk.same {k : Int → Int} {g g' : Nat → Int} {lo hi : Nat} (h : Blk k g lo hi) (e : ∀ x, lo ≤ x → x < hi → g' x = g x) : Blk k g' lo hi :=
  ⟨fun x y i1 i2 i3 => by rw [e x i1 (by omega), e y (by omega) i3]; exact h.1 x y i1 i2 i3, fun x i1 i2 => by rw [e x i1 i2]; exact h.2 x i1 i2⟩
def idF : Nat → Int := fun x => x
noncomputable def blkSeq (k : Int → Int) : Nat → Nat → Int
  | 0 => idF
  | t + 1 => insSeq k (20 * t) (blkSeq k t) (20 * t + 20)
theorem up_id {f : Nat → Int} {n a b : Nat} (hb : b ≤ n) (h : ∀ x, a ≤ x → f x = x) : Up f n a b :=
  ⟨hb, fun x y i1 i2 i3 => by rw [h x i1, h y (by omega)]; omega, fun x i1 i2 => by rw [h x i1]; omega⟩
theorem ins_blk {k : Int → Int} {f : Nat → Int} {n a b : Nat} (hab : a < b) (hb : b ≤ n) (h : ∀ x, a ≤ x → f x = x) : Blk k (insSeq k a f b) a b := by
  have hg := insSeq_good (k := k) (up_id hb h) b hab (Nat.le_refl _)
  refine ⟨hg.srt, fun x i1 i2 => ?_⟩
  obtain ⟨y, j1, j2, j3⟩ := hg.val x i1 i2
  rw [j3, h y j1]; omega
theorem blk_inv (k : Int → Int) (n : Nat) : ∀ t, 20 * t ≤ n → (∀ x, 20 * t ≤ x → blkSeq k t x = x) ∧ ∀ c, c < t → Blk k (blkSeq k t) (20 * c) (20 * c + 20)
  | 0, _ => ⟨fun _ _ => rfl, fun c h => by omega⟩
  | t + 1, h => by
    obtain ⟨h1, h2⟩ := blk_inv k n t (by omega)
    have hg := insSeq_good (k := k) (up_id (b := 20 * t + 20) (n := n) (by omega) h1) (20 * t + 20) (by omega) (Nat.le_refl _)
    refine ⟨fun x hx => ?_, fun c hc => ?_⟩
    · rw [blkSeq, hg.out x (by omega), h1 x (by omega)]
    · by_cases e : c = t
      · rw [e, blkSeq]; exact ins_blk (n := n) (by omega) (by omega) h1
      · exact (h2 c (by omega)).same fun x i1 i2 => by rw [blkSeq, hg.out x (by omega)]
def AllB (k : Int → Int) (g : Nat → Int) (n w : Nat) : Prop := ∀ c, c * w < n → Blk k g (c * w) (min (c * w + w) n)
noncomputable def baseF (k : Int → Int) (n : Nat) : Nat → Int := insSeq k (20 * (n / 20)) (blkSeq k (n / 20)) n
theorem base_all (k : Int → Int) (n : Nat) : AllB k (baseF k n) n 20 := by
  intro c hc
  obtain ⟨h1, h2⟩ := blk_inv k n (n / 20) (by omega)
  have hT : 20 * (n / 20) ≤ n := by omega
  unfold baseF
  by_cases hl : 20 * (n / 20) < n
  · have hg := insSeq_good (k := k) (up_id (b := n) (n := n) (Nat.le_refl _) h1) n hl (Nat.le_refl _)
    by_cases e : c < n / 20
    · rw [show min (c * 20 + 20) n = 20 * c + 20 by omega, show c * 20 = 20 * c by omega]
      exact (h2 c e).same fun x i1 i2 => hg.out x (by omega)
    · rw [show min (c * 20 + 20) n = n by omega, show c * 20 = 20 * (n / 20) by omega]
      exact ins_blk hl (Nat.le_refl _) h1
  · rw [insSeq_low k _ _ n (by omega), show min (c * 20 + 20) n = 20 * c + 20 by omega, show c * 20 = 20 * c by omega]
    exact h2 c (by omega)
open Classical in
noncomputable def symG (fid : Nat) (caps : List AV) (k : Int → Int) (n : Nat) (f : Nat → Int) (a m b : Nat) : Nat → Int :=
  if h : ∃ g, Good k f g a b ∧ SymB fid caps n f g a m b then Classical.choose h else f
theorem symG_spec {fid : Nat} {caps : List AV} {k : Int → Int} {n : Nat} (hcl : ClL caps = true) (hn : n ≤ 1000000) (hf : CmpC fid caps k n) {f : Nat → Int} {a m b : Nat} (h : Pre k f n a m b) :
    Good k f (symG fid caps k n f a m b) a b ∧ SymB fid caps n f (symG fid caps k n f a m b) a m b := by
  have hx := sym_c fid caps k n hcl hn hf _ a m b f (Nat.le_refl _) h
  unfold symG
  rw [dif_pos hx]
  exact Classical.choose_spec hx
theorem pre_blk {k : Int → Int} {f : Nat → Int} {n a m b : Nat} (am : a < m) (mb : m < b) (bn : b ≤ n) (h1 : Blk k f a m) (h2 : Blk k f m b) : Pre k f n a m b := by
  refine ⟨am, mb, bn, h1.1, h2.1, fun x y i1 i2 i3 i4 => ?_, fun x i1 i2 => ?_⟩
  · have := h1.2 x i1 i2; have := h2.2 y i3 i4; omega
  · by_cases e : x < m
    · have := h1.2 x i1 e; omega
    · have := h2.2 x (by omega) i2; omega
theorem blk_merge {k : Int → Int} {f g : Nat → Int} {a m b : Nat} (am : a < m) (mb : m < b) (h1 : Blk k f a m) (h2 : Blk k f m b) (hg : Good k f g a b) : Blk k g a b := by
  refine ⟨hg.srt, fun x i1 i2 => ?_⟩
  obtain ⟨y, j1, j2, j3⟩ := hg.val x i1 i2
  rw [j3]
  by_cases e : y < m
  · have := h1.2 y j1 e; omega
  · have := h2.2 y (by omega) j2; omega
noncomputable def passSeq (fid : Nat) (caps : List AV) (k : Int → Int) (n : Nat) (f : Nat → Int) (w : Nat) : Nat → Nat → Int
  | 0 => f
  | t + 1 => symG fid caps k n (passSeq fid caps k n f w t) (t * (2 * w)) (t * (2 * w) + w) (t * (2 * w) + 2 * w)
noncomputable def passF (fid : Nat) (caps : List AV) (k : Int → Int) (n : Nat) (f : Nat → Int) (w : Nat) : Nat → Int :=
  if n / (2 * w) * (2 * w) + w < n then symG fid caps k n (passSeq fid caps k n f w (n / (2 * w))) (n / (2 * w) * (2 * w)) (n / (2 * w) * (2 * w) + w) n else passSeq fid caps k n f w (n / (2 * w))
theorem two_mul (t w : Nat) : (2 * t) * w = t * (2 * w) ∧ (2 * t + 1) * w = t * (2 * w) + w ∧ (t + 1) * (2 * w) = t * (2 * w) + 2 * w := by
  have e : (2 * t) * w = t * (2 * w) := by rw [Nat.mul_comm 2 t, Nat.mul_assoc]
  exact ⟨e, by rw [Nat.add_mul, e, Nat.one_mul], by rw [Nat.add_mul, Nat.one_mul]⟩
theorem lt_mul {c t w : Nat} (h : c < t) : c * (2 * w) + 2 * w ≤ t * (2 * w) := by
  have := Nat.mul_le_mul_right (2 * w) (show c + 1 ≤ t from h)
  rw [(two_mul c w).2.2] at this; exact this
theorem halves {k : Int → Int} {f : Nat → Int} {n w t : Nat} (hall : AllB k f n w) (hl : t * (2 * w) + w < n) :
    Blk k f (t * (2 * w)) (t * (2 * w) + w) ∧ Blk k f (t * (2 * w) + w) (min (t * (2 * w) + 2 * w) n) := by
  obtain ⟨e1, e2, e3⟩ := two_mul t w
  have a1 := hall (2 * t) (by rw [e1]; omega)
  have a2 := hall (2 * t + 1) (by rw [e2]; omega)
  rw [e1] at a1; rw [e2] at a2
  rw [show min (t * (2 * w) + w) n = t * (2 * w) + w by omega] at a1
  rw [show t * (2 * w) + w + w = t * (2 * w) + 2 * w by omega] at a2
  exact ⟨a1, a2⟩
theorem pass_inv {fid : Nat} {caps : List AV} {k : Int → Int} {n : Nat} (hcl : ClL caps = true) (hn : n ≤ 1000000) (hf : CmpC fid caps k n) {f : Nat → Int} {w : Nat} (hw : 1 ≤ w) (hall : AllB k f n w) :
    ∀ t, t * (2 * w) ≤ n → (∀ x, t * (2 * w) ≤ x → passSeq fid caps k n f w t x = f x) ∧ (∀ c, c < t → Blk k (passSeq fid caps k n f w t) (c * (2 * w)) (c * (2 * w) + 2 * w)) ∧
      ∀ s, s < t → Pre k (passSeq fid caps k n f w s) n (s * (2 * w)) (s * (2 * w) + w) (s * (2 * w) + 2 * w)
  | 0, _ => ⟨fun _ _ => rfl, fun c h => by omega, fun c h => by omega⟩
  | t + 1, h => by
    have e3 := (two_mul t w).2.2
    rw [e3] at h
    obtain ⟨h1, h2, h3⟩ := pass_inv hcl hn hf hw hall t (by omega)
    obtain ⟨b1, b2⟩ := halves (t := t) hall (by omega)
    rw [show min (t * (2 * w) + 2 * w) n = t * (2 * w) + 2 * w by omega] at b2
    have b1' := b1.same (g' := passSeq fid caps k n f w t) fun x i1 i2 => h1 x i1
    have b2' := b2.same (g' := passSeq fid caps k n f w t) fun x i1 i2 => h1 x (by omega)
    have hp := pre_blk (n := n) (by omega) (by omega) (by omega) b1' b2'
    have hg := (symG_spec hcl hn hf hp).1
    refine ⟨fun x hx => ?_, fun c hc => ?_, fun s hs => ?_⟩
    · rw [e3] at hx
      rw [passSeq, hg.out x (by omega), h1 x (by omega)]
    · by_cases e : c = t
      · rw [e, passSeq]; exact blk_merge (by omega) (by omega) b1' b2' hg
      · have := lt_mul (w := w) (show c < t by omega)
        exact (h2 c (by omega)).same fun x i1 i2 => by rw [passSeq, hg.out x (by omega)]
    · by_cases e : s = t
      · rw [e]; exact hp
      · exact h3 s (by omega)
theorem div_at (n w : Nat) (hw : 1 ≤ w) : n / (2 * w) * (2 * w) ≤ n ∧ n < n / (2 * w) * (2 * w) + 2 * w := by
  have h1 := Nat.div_mul_le_self n (2 * w)
  have h2 := Nat.lt_div_mul_add (a := n) (b := 2 * w) (by omega)
  exact ⟨h1, h2⟩
theorem pass_last {fid : Nat} {caps : List AV} {k : Int → Int} {n : Nat} (hcl : ClL caps = true) (hn : n ≤ 1000000) (hf : CmpC fid caps k n) {f : Nat → Int} {w : Nat} (hw : 1 ≤ w) (hall : AllB k f n w)
    (hl : n / (2 * w) * (2 * w) + w < n) : Blk k (passSeq fid caps k n f w (n / (2 * w))) (n / (2 * w) * (2 * w)) (n / (2 * w) * (2 * w) + w) ∧ Blk k (passSeq fid caps k n f w (n / (2 * w))) (n / (2 * w) * (2 * w) + w) n := by
  obtain ⟨d1, d2⟩ := div_at n w hw
  obtain ⟨h1, h2, h3⟩ := pass_inv hcl hn hf hw hall (n / (2 * w)) d1
  obtain ⟨b1, b2⟩ := halves (t := n / (2 * w)) hall hl
  rw [show min (n / (2 * w) * (2 * w) + 2 * w) n = n by omega] at b2
  exact ⟨b1.same fun x i1 i2 => h1 x i1, b2.same fun x i1 i2 => h1 x (by omega)⟩
theorem pass_all {fid : Nat} {caps : List AV} {k : Int → Int} {n : Nat} (hcl : ClL caps = true) (hn : n ≤ 1000000) (hf : CmpC fid caps k n) {f : Nat → Int} {w : Nat} (hw : 1 ≤ w) (hall : AllB k f n w) :
    AllB k (passF fid caps k n f w) n (2 * w) := by
  intro c hc
  obtain ⟨d1, d2⟩ := div_at n w hw
  obtain ⟨h1, h2, h3⟩ := pass_inv hcl hn hf hw hall (n / (2 * w)) d1
  unfold passF
  by_cases e : c < n / (2 * w)
  · have := lt_mul (w := w) e
    rw [show min (c * (2 * w) + 2 * w) n = c * (2 * w) + 2 * w by omega]
    split
    · rename_i hl
      obtain ⟨b1, b2⟩ := pass_last hcl hn hf hw hall hl
      have hg := (symG_spec hcl hn hf (pre_blk (n := n) (by omega) hl (Nat.le_refl _) b1 b2)).1
      exact (h2 c e).same fun x i1 i2 => hg.out x (by omega)
    · exact h2 c e
  · have e2 : c = n / (2 * w) := by
      by_cases e3 : c = n / (2 * w)
      · exact e3
      · have := lt_mul (w := w) (show n / (2 * w) < c by omega); omega
    rw [e2, show min (n / (2 * w) * (2 * w) + 2 * w) n = n by omega]
    split
    · rename_i hl
      obtain ⟨b1, b2⟩ := pass_last hcl hn hf hw hall hl
      exact blk_merge (by omega) hl b1 b2 (symG_spec hcl hn hf (pre_blk (n := n) (by omega) hl (Nat.le_refl _) b1 b2)).1
    · rename_i hl
      have a1 := hall (2 * (n / (2 * w))) (by rw [(two_mul _ w).1]; rw [← e2]; exact hc)
      rw [(two_mul _ w).1, show min (n / (2 * w) * (2 * w) + w) n = n by omega] at a1
      exact a1.same fun x i1 i2 => h1 x i1
noncomputable def roundF (fid : Nat) (caps : List AV) (k : Int → Int) (n : Nat) : Nat → Nat → Int
  | 0 => baseF k n
  | q + 1 => passF fid caps k n (roundF fid caps k n q) (20 * 2 ^ q)
theorem pow_step (q : Nat) : 20 * 2 ^ (q + 1) = 2 * (20 * 2 ^ q) ∧ 1 ≤ 20 * 2 ^ q := by
  have := Nat.one_le_two_pow (n := q)
  exact ⟨by rw [Nat.pow_succ]; omega, by omega⟩
theorem round_all {fid : Nat} {caps : List AV} {k : Int → Int} {n : Nat} (hcl : ClL caps = true) (hn : n ≤ 1000000) (hf : CmpC fid caps k n) : ∀ q, AllB k (roundF fid caps k n q) n (20 * 2 ^ q)
  | 0 => base_all k n
  | q + 1 => by rw [(pow_step q).1]; exact pass_all hcl hn hf (pow_step q).2 (round_all hcl hn hf q)
theorem least_round (n : Nat) : ∃ r, n ≤ 20 * 2 ^ r ∧ ∀ q, q < r → 20 * 2 ^ q < n := by
  have go : ∀ m, (∃ r, n ≤ 20 * 2 ^ r ∧ ∀ q, q < r → 20 * 2 ^ q < n) ∨ ∀ q, q < m → 20 * 2 ^ q < n := by
    intro m
    induction m with
    | zero => exact Or.inr fun q h => by omega
    | succ m ih =>
      rcases ih with h | h
      · exact Or.inl h
      · by_cases e : n ≤ 20 * 2 ^ m
        · exact Or.inl ⟨m, e, h⟩
        · refine Or.inr fun q hq => ?_
          by_cases e2 : q = m
          · rw [e2]; omega
          · exact h q (by omega)
  rcases go (n + 1) with h | h
  · exact h
  · have := h n (by omega)
    have := Nat.lt_two_pow_self (n := n)
    omega
end Go.Proofs.Ytfgmjnmkcobhkaa
