/- Rows of actions: sorted by insertion, the passes. -/
import Derived.Test.YtbncoeoamjcjjaaWk4
import Derived.Test.YtbncoeoamjcjjaaWk3
import Derived.Test.YtbncoeoamjcjjaaAe
import Derived.Test.YtbncoeoamjcjjaaWk2
import Derived.Test.YtbncoeoamjcjjaaDa
import Derived.Test.YtbncoeoamjcjjaaAf
set_option linter.all false
set_option linter.unnecessarySimpa false
section
set_option linter.unusedVariables false
set_option linter.unusedSimpArgs false
namespace Go.Proofs.Ytbncoeoamjcjjaa
open Go Go.AI Go.Proofs

set_option maxHeartbeats 4000000 in
theorem insA_c (L : List Action) (cp : Int → Int → Int) (fid : Nat) (caps : List AV) (k : Int → Int) (n : Nat) (hcl : ClL caps = true) (hn : n ≤ 1000000) (hf : CmpA L cp fid caps k n) (f : Nat → Int) (a b : Nat) (hab : a ≤ b) (u : Up f n a b) :
    FnB Try.prog 188 [.msl 0 0 n, .int .i64 a, .int .i64 b, .fn fid caps] (.buf 11 (roA L f n)) (.tup []) (.buf 11 (roA L (insSeq k a f b) n)) := by
  have bn := u.bn
  have w0 : IntKind.i64.wrap ((a : Int) + 1) = a + 1 := wrap_i64 (by omega) (by omega)
  have e0 := insSeq_low k a f (a + 1) (Nat.le_refl _)
  refine FnB.intro Try.func188 rfl rfl fun G w l => ?_
  repeat (first | refine WK.seq ?_ | refine WK.block ?_ | refine WK.inBlock ?_ | refine WK.skip ?_ | refine WK.label ?_ | refine WK.scope ?_ | refine WK.inScope ?_ | refine WK.exit rfl ?_)
  first | refine WK.reg 100 Try.ntmps188 (by kernel_rfl) ?_ | refine WK.regD 100 clsOf (by kernel_rfl) Try.ntmps188 (by kernel_rfl) (by kernel_rfl) ?_
  intro A hA Q hQ
  simp [w0]
  refine hQ _ _ ?_
  clear hQ hA
  repeat (first | refine WK.seq ?_ | refine WK.block ?_ | refine WK.inBlock ?_ | refine WK.skip ?_ | refine WK.label ?_ | refine WK.scope ?_ | refine WK.inScope ?_ | refine WK.exit rfl ?_)
  refine WK.loopI (fun n => n) (fun i : Nat => (⟨(upd (upd (upd (upd (upd J 0 (.msl 0 0 n)) 1 (.int .i64 a)) 2 (.int .i64 b)) 3 (.fn fid caps)) 8 (.int .i64 i)), (upd B0 0 (.buf 11 (roA L (insSeq k a f i) n))), 0⟩ : St)) (fun i => a + 1 ≤ i ∧ (i ≤ b ∨ i = a + 1)) (fun i => b + 1 - i) (a + 1) (by repeat (first | exact TmW.nil | refine TmW.upd ?_ (by simp (maxDischargeDepth := 120) [hcl, e0]))) (by repeat (first | exact BxW.nil | refine BxW.upd ?_ (by simp (maxDischargeDepth := 120) [hcl, e0]))) (by first | exact InjW.id | exact InjW.nil | exact InjW.one | exact InjW.two (by simp) | exact InjW.three (by simp) (by simp) (by simp)) (⟨by omega, by omega⟩) (fun i hi IH => ?_)
  repeat (first | refine WK.seq ?_ | refine WK.block ?_ | refine WK.inBlock ?_ | refine WK.skip ?_ | refine WK.label ?_ | refine WK.scope ?_ | refine WK.inScope ?_ | refine WK.exit rfl ?_)
  first | refine WK.reg 200 Try.ntmps188 (by kernel_rfl) ?_ | refine WK.regD 200 clsOf (by kernel_rfl) Try.ntmps188 (by kernel_rfl) (by kernel_rfl) ?_
  intro A hA Q hQ
  simp
  refine hQ _ _ ?_
  clear hQ hA
  repeat (first | refine WK.seq ?_ | refine WK.block ?_ | refine WK.inBlock ?_ | refine WK.skip ?_ | refine WK.label ?_ | refine WK.scope ?_ | refine WK.inScope ?_ | refine WK.exit rfl ?_)
  refine WK.cond2 rfl (fun h1 => ?_) (fun h1 => ?_)
  · simp at h1
    have h2 : i < b := by omega
    have h6 : IntKind.i64.wrap ((i : Int) + 1) = i + 1 := wrap_i64 (by omega) (by omega)
    have hG := insSeq_good (k := k) u i (by omega) (by omega)
    obtain ⟨s, hs, hnx⟩ := insSeq_spot u i (by omega) h2 hG
    have hz := mvL_zero (insSeq k a f i) i
    have hval : ∀ x, a ≤ x → x < b → 0 ≤ insSeq k a f i x ∧ insSeq k a f i x < n := fun x i1 i2 => by
      by_cases e : x < i
      · obtain ⟨z, j1, j2, j3⟩ := hG.val x i1 e
        rw [j3]; exact u.rng z j1 (by omega)
      · rw [hG.out x (by omega)]; exact u.rng x i1 i2
    obtain ⟨g, hg⟩ : ∃ g, g = insSeq k a f i := ⟨_, rfl⟩
    rw [← hg] at hs hnx hz hval ⊢
    have slo := hs.lo
    have shi := hs.hi
    repeat (first | refine WK.seq ?_ | refine WK.block ?_ | refine WK.inBlock ?_ | refine WK.skip ?_ | refine WK.label ?_ | refine WK.scope ?_ | refine WK.inScope ?_ | refine WK.exit rfl ?_)
    first | refine WK.reg 300 Try.ntmps188 (by kernel_rfl) ?_ | refine WK.regD 300 clsOf (by kernel_rfl) Try.ntmps188 (by kernel_rfl) (by kernel_rfl) ?_
    intro A hA Q hQ
    simp
    refine hQ _ _ ?_
    clear hQ hA
    repeat (first | refine WK.seq ?_ | refine WK.block ?_ | refine WK.inBlock ?_ | refine WK.skip ?_ | refine WK.label ?_ | refine WK.scope ?_ | refine WK.inScope ?_ | refine WK.exit rfl ?_)
    refine WK.loopI (fun n => n) (fun j : Nat => (⟨(upd (upd (upd (upd (upd (upd J 0 (.msl 0 0 n)) 1 (.int .i64 a)) 2 (.int .i64 b)) 3 (.fn fid caps)) 8 (.int .i64 i)) 9 (.int .i64 j)), (upd B0 0 (.buf 11 (roA L (mvL g i j) n))), 0⟩ : St)) (fun j => s ≤ j ∧ j ≤ i) (fun j => j) (i) (by repeat (first | exact TmW.nil | refine TmW.upd ?_ (by simp (maxDischargeDepth := 120) [hcl, hz]))) (by repeat (first | exact BxW.nil | refine BxW.upd ?_ (by simp (maxDischargeDepth := 120) [hcl, hz]))) (by first | exact InjW.id | exact InjW.nil | exact InjW.one | exact InjW.two (by simp) | exact InjW.three (by simp) (by simp) (by simp)) (⟨shi, Nat.le_refl _⟩) (fun j hj IHj => ?_)
    by_cases hj0 : j = a
    · have e2 : j = s := by omega
      have e3 : mvL g i j = insSeq k a f (i + 1) := by rw [hnx, e2]
      have e3' : mvL g i a = insSeq k a f (i + 1) := (congrArg (mvL g i) hj0).symm.trans e3
      have b0 : decide ((a : Int) < j) = false := decide_eq_false (by omega)
      repeat (first | refine WK.seq ?_ | refine WK.block ?_ | refine WK.inBlock ?_ | refine WK.skip ?_ | refine WK.label ?_ | refine WK.scope ?_ | refine WK.inScope ?_ | refine WK.exit rfl ?_)
      first | refine WK.reg 400 Try.ntmps188 (by kernel_rfl) ?_ | refine WK.regD 400 clsOf (by kernel_rfl) Try.ntmps188 (by kernel_rfl) (by kernel_rfl) ?_
      intro A hA Q hQ
      have hg3 : (A[3]?).bind (·.dst) = some 21 := by rw [hA]; rfl
      simp [b0, hj0, hg3]
      refine hQ _ _ ?_
      clear hQ hA
      repeat (first | refine WK.seq ?_ | refine WK.block ?_ | refine WK.inBlock ?_ | refine WK.skip ?_ | refine WK.label ?_ | refine WK.scope ?_ | refine WK.inScope ?_ | refine WK.exit rfl ?_)
      refine WK.cond2 rfl (fun h => ?_) (fun h => ?_)
      · cases h
      repeat (first | refine WK.seq ?_ | refine WK.block ?_ | refine WK.inBlock ?_ | refine WK.skip ?_ | refine WK.label ?_ | refine WK.scope ?_ | refine WK.inScope ?_ | refine WK.exit rfl ?_)
      first | refine WK.reg 500 Try.ntmps188 (by kernel_rfl) ?_ | refine WK.regD 500 clsOf (by kernel_rfl) Try.ntmps188 (by kernel_rfl) (by kernel_rfl) ?_
      intro A hA Q hQ
      simp [h6]
      refine hQ _ _ ?_
      clear hQ hA
      repeat (first | refine WK.seq ?_ | refine WK.block ?_ | refine WK.inBlock ?_ | refine WK.skip ?_ | refine WK.label ?_ | refine WK.scope ?_ | refine WK.inScope ?_ | refine WK.exit rfl ?_)
      refine WK.next (fun n => n) (IH (i + 1) (⟨by omega, by omega⟩) (by first | omega | (dsimp only; omega))) (by repeat (first | exact TmW.nil | refine TmW.upd ?_ (by simp (maxDischargeDepth := 120) [hcl, e3', h6]))) (by repeat (first | exact BxW.nil | refine BxW.upd ?_ (by simp (maxDischargeDepth := 120) [hcl, e3', h6]))) (by first | exact InjW.id | exact InjW.nil | exact InjW.one | exact InjW.two (by simp) | exact InjW.three (by simp) (by simp) (by simp))
    obtain ⟨q, rfl⟩ : ∃ q, j = q + 1 := ⟨j - 1, by omega⟩
    have l1 : q < n := by omega
    have l2 : q + 1 < n := by omega
    have g1 := roA_sub L (mvL g i (q + 1)) n q l1
    have Bg1 : q * 11 + 11 ≤ n * 11 := by omega
    have g2 := roA_sub L (mvL g i (q + 1)) n (q + 1) l2
    have Bg2 : (q + 1) * 11 + 11 ≤ n * 11 := by omega
    have n1 := mvL_at g i (q + 1)
    have n2 := mvL_at1 g i q
    have w1 : IntKind.i64.wrap (q : Int) = q := wrap_i64 (by omega) (by omega)
    have b3 : (q : Int) + 1 < n := by omega
    have b4 : (0 : Int) ≤ (q : Int) + 1 := by omega
    have b5 : ((q : Int) + 1).toNat = q + 1 := by omega
    have b6 : (a : Int) < (q : Int) + 1 := by omega
    have b7 : q + 1 + 1 ≤ n := by omega
    have b8 : q + 1 ≤ n := by omega
    have hc := hf.neg (g i) (g q)
    repeat (first | refine WK.seq ?_ | refine WK.block ?_ | refine WK.inBlock ?_ | refine WK.skip ?_ | refine WK.label ?_ | refine WK.scope ?_ | refine WK.inScope ?_ | refine WK.exit rfl ?_)
    first | refine WK.reg 600 Try.ntmps188 (by kernel_rfl) ?_ | refine WK.regD 600 (clsM [(25, 0), (30, 0)]) (by kernel_rfl) Try.ntmps188 (by kernel_rfl) (by kernel_rfl) ?_
    intro A hA Q hQ
    have hg3 : (A[3]?).bind (·.dst) = some 21 := by rw [hA]; rfl
    simp [g1, g2, n1, n2, w1, l1, l2, b3, b4, b5, b6, Bg1, Bg2, hg3]
    refine RunQ.callG rfl rfl (by simp [hcl, hc, hg3]) rfl (by rfl) (by simp (maxDischargeDepth := 120) [hcl, hc, hg3]) (hf.c (g i) (g q) (hval i (by omega) (by omega)) (hval q (by omega) (by omega))) (by simp [hcl, hc, hg3]) ?_
    refine RunQ.eval ?_
    simp [hcl, hc, hg3]
    refine hQ _ _ ?_
    clear hQ hA
    repeat (first | refine WK.seq ?_ | refine WK.block ?_ | refine WK.inBlock ?_ | refine WK.skip ?_ | refine WK.label ?_ | refine WK.scope ?_ | refine WK.inScope ?_ | refine WK.exit rfl ?_)
    refine WK.cond2 rfl (fun h => ?_) (fun h => ?_)
    · have hlt : k (g q) < k (g i) := of_decide_eq_true h
      have hqs : s ≤ q := by
        by_cases e : q < s
        · exact absurd hlt (hs.no q (by omega) e)
        · omega
      have e3 := mvL_succ g i q (by omega)
      have t1 := roA_set L (mvL g i (q + 1)) n (q + 1) (g q) l2
      have t2 := roA_set L (setF (mvL g i (q + 1)) (q + 1) (g q)) n q (g i) l1
      repeat (first | refine WK.seq ?_ | refine WK.block ?_ | refine WK.inBlock ?_ | refine WK.skip ?_ | refine WK.label ?_ | refine WK.scope ?_ | refine WK.inScope ?_ | refine WK.exit rfl ?_)
      first | refine WK.reg 700 Try.ntmps188 (by kernel_rfl) ?_ | refine WK.regD 700 (clsM [(45, 0), (49, 0), (51, 0), (52, 0)]) (by kernel_rfl) Try.ntmps188 (by kernel_rfl) (by kernel_rfl) ?_
      intro A hA Q hQ
      simp [g1, g2, n1, n2, w1, l1, l2, b3, b4, b5, b6, b7, b8, t1, t2, e3, Bg1, Bg2]
      refine hQ _ _ ?_
      clear hQ hA
      repeat (first | refine WK.seq ?_ | refine WK.block ?_ | refine WK.inBlock ?_ | refine WK.skip ?_ | refine WK.label ?_ | refine WK.scope ?_ | refine WK.inScope ?_ | refine WK.exit rfl ?_)
      first | refine WK.reg 800 Try.ntmps188 (by kernel_rfl) ?_ | refine WK.regD 800 clsOf (by kernel_rfl) Try.ntmps188 (by kernel_rfl) (by kernel_rfl) ?_
      intro A hA Q hQ
      simp [w1]
      refine hQ _ _ ?_
      clear hQ hA
      repeat (first | refine WK.seq ?_ | refine WK.block ?_ | refine WK.inBlock ?_ | refine WK.skip ?_ | refine WK.label ?_ | refine WK.scope ?_ | refine WK.inScope ?_ | refine WK.exit rfl ?_)
      refine WK.next (fun n => n) (IHj (q) (⟨by omega, by omega⟩) (by first | omega | (dsimp only; omega))) (by repeat (first | exact TmW.nil | refine TmW.upd ?_ (by simp (maxDischargeDepth := 120) [hcl, e3]))) (by repeat (first | exact BxW.nil | refine BxW.upd ?_ (by simp (maxDischargeDepth := 120) [hcl, e3]))) (by first | exact InjW.id | exact InjW.nil | exact InjW.one | exact InjW.two (by simp) | exact InjW.three (by simp) (by simp) (by simp))
    · have hge : ¬ k (g q) < k (g i) := of_decide_eq_false h
      have hqs : q + 1 = s := by
        by_cases e : q < s
        · omega
        · exact absurd (hs.yes q (by omega) (by omega)) hge
      have e3 : mvL g i (q + 1) = insSeq k a f (i + 1) := by rw [hnx, hqs]
      repeat (first | refine WK.seq ?_ | refine WK.block ?_ | refine WK.inBlock ?_ | refine WK.skip ?_ | refine WK.label ?_ | refine WK.scope ?_ | refine WK.inScope ?_ | refine WK.exit rfl ?_)
      first | refine WK.reg 900 Try.ntmps188 (by kernel_rfl) ?_ | refine WK.regD 900 clsOf (by kernel_rfl) Try.ntmps188 (by kernel_rfl) (by kernel_rfl) ?_
      intro A hA Q hQ
      simp [h6]
      refine hQ _ _ ?_
      clear hQ hA
      repeat (first | refine WK.seq ?_ | refine WK.block ?_ | refine WK.inBlock ?_ | refine WK.skip ?_ | refine WK.label ?_ | refine WK.scope ?_ | refine WK.inScope ?_ | refine WK.exit rfl ?_)
      refine WK.next (fun n => n) (IH (i + 1) (⟨by omega, by omega⟩) (by first | omega | (dsimp only; omega))) (by repeat (first | exact TmW.nil | refine TmW.upd ?_ (by simp (maxDischargeDepth := 120) [hcl, e3, h6]))) (by repeat (first | exact BxW.nil | refine BxW.upd ?_ (by simp (maxDischargeDepth := 120) [hcl, e3, h6]))) (by first | exact InjW.id | exact InjW.nil | exact InjW.one | exact InjW.two (by simp) | exact InjW.three (by simp) (by simp) (by simp))
  · simp at h1
    have e4 : insSeq k a f i = insSeq k a f b := by
      by_cases e : i ≤ b
      · rw [show i = b by omega]
      · rw [insSeq_low k a f i (by omega), insSeq_low k a f b (by omega)]
    repeat (first | refine WK.seq ?_ | refine WK.block ?_ | refine WK.inBlock ?_ | refine WK.skip ?_ | refine WK.label ?_ | refine WK.scope ?_ | refine WK.inScope ?_ | refine WK.exit rfl ?_)
    refine WK.retB Try.func188 (by simp (maxDischargeDepth := 120) [Try.results188, e4]) (by simp [e4]) rfl (.inl rfl)
open Classical in
noncomputable def symGA (L : List Action) (cp : Int → Int → Int) (fid : Nat) (caps : List AV) (k : Int → Int) (n : Nat) (f : Nat → Int) (a m b : Nat) : Nat → Int :=
  if h : ∃ g, Good k f g a b ∧ SymBA L cp fid caps n f g a m b then Classical.choose h else f
theorem symGA_spec {L : List Action} {cp : Int → Int → Int} {fid : Nat} {caps : List AV} {k : Int → Int} {n : Nat} (hcl : ClL caps = true) (hn : n ≤ 1000000) (hf : CmpA L cp fid caps k n) {f : Nat → Int} {a m b : Nat} (h : Pre k f n a m b) :
    Good k f (symGA L cp fid caps k n f a m b) a b ∧ SymBA L cp fid caps n f (symGA L cp fid caps k n f a m b) a m b := by
  have hx := symcA_c L cp fid caps k n hcl hn hf _ a m b f (Nat.le_refl _) h
  unfold symGA
  rw [dif_pos hx]
  exact Classical.choose_spec hx
noncomputable def passSeqA (L : List Action) (cp : Int → Int → Int) (fid : Nat) (caps : List AV) (k : Int → Int) (n : Nat) (f : Nat → Int) (w : Nat) : Nat → Nat → Int
  | 0 => f
  | t + 1 => symGA L cp fid caps k n (passSeqA L cp fid caps k n f w t) (t * (2 * w)) (t * (2 * w) + w) (t * (2 * w) + 2 * w)
noncomputable def passFA (L : List Action) (cp : Int → Int → Int) (fid : Nat) (caps : List AV) (k : Int → Int) (n : Nat) (f : Nat → Int) (w : Nat) : Nat → Int :=
  if n / (2 * w) * (2 * w) + w < n then symGA L cp fid caps k n (passSeqA L cp fid caps k n f w (n / (2 * w))) (n / (2 * w) * (2 * w)) (n / (2 * w) * (2 * w) + w) n else passSeqA L cp fid caps k n f w (n / (2 * w))
theorem pass_invA {L : List Action} {cp : Int → Int → Int} {fid : Nat} {caps : List AV} {k : Int → Int} {n : Nat} (hcl : ClL caps = true) (hn : n ≤ 1000000) (hf : CmpA L cp fid caps k n) {f : Nat → Int} {w : Nat} (hw : 1 ≤ w) (hall : AllB k f n w) :
    ∀ t, t * (2 * w) ≤ n → (∀ x, t * (2 * w) ≤ x → passSeqA L cp fid caps k n f w t x = f x) ∧ (∀ c, c < t → Blk k (passSeqA L cp fid caps k n f w t) (c * (2 * w)) (c * (2 * w) + 2 * w)) ∧
      ∀ s, s < t → Pre k (passSeqA L cp fid caps k n f w s) n (s * (2 * w)) (s * (2 * w) + w) (s * (2 * w) + 2 * w)
  | 0, _ => ⟨fun _ _ => rfl, fun c h => by omega, fun c h => by omega⟩
  | t + 1, h => by
    have e3 := (two_mul t w).2.2
    rw [e3] at h
    obtain ⟨h1, h2, h3⟩ := pass_invA hcl hn hf hw hall t (by omega)
    obtain ⟨b1, b2⟩ := halves (t := t) hall (by omega)
    rw [show min (t * (2 * w) + 2 * w) n = t * (2 * w) + 2 * w by omega] at b2
    have b1' := b1.same (g' := passSeqA L cp fid caps k n f w t) fun x i1 i2 => h1 x i1
    have b2' := b2.same (g' := passSeqA L cp fid caps k n f w t) fun x i1 i2 => h1 x (by omega)
    have hp := pre_blk (n := n) (by omega) (by omega) (by omega) b1' b2'
    have hg := (symGA_spec hcl hn hf hp).1
    refine ⟨fun x hx => ?_, fun c hc => ?_, fun s hs => ?_⟩
    · rw [e3] at hx
      rw [passSeqA, hg.out x (by omega), h1 x (by omega)]
    · by_cases e : c = t
      · rw [e, passSeqA]; exact blk_merge (by omega) (by omega) b1' b2' hg
      · have := lt_mul (w := w) (show c < t by omega)
        exact (h2 c (by omega)).same fun x i1 i2 => by rw [passSeqA, hg.out x (by omega)]
    · by_cases e : s = t
      · rw [e]; exact hp
      · exact h3 s (by omega)
theorem pass_lastA {L : List Action} {cp : Int → Int → Int} {fid : Nat} {caps : List AV} {k : Int → Int} {n : Nat} (hcl : ClL caps = true) (hn : n ≤ 1000000) (hf : CmpA L cp fid caps k n) {f : Nat → Int} {w : Nat} (hw : 1 ≤ w) (hall : AllB k f n w)
    (hl : n / (2 * w) * (2 * w) + w < n) : Blk k (passSeqA L cp fid caps k n f w (n / (2 * w))) (n / (2 * w) * (2 * w)) (n / (2 * w) * (2 * w) + w) ∧ Blk k (passSeqA L cp fid caps k n f w (n / (2 * w))) (n / (2 * w) * (2 * w) + w) n := by
  obtain ⟨d1, d2⟩ := div_at n w hw
  obtain ⟨h1, h2, h3⟩ := pass_invA hcl hn hf hw hall (n / (2 * w)) d1
  obtain ⟨b1, b2⟩ := halves (t := n / (2 * w)) hall hl
  rw [show min (n / (2 * w) * (2 * w) + 2 * w) n = n by omega] at b2
  exact ⟨b1.same fun x i1 i2 => h1 x i1, b2.same fun x i1 i2 => h1 x (by omega)⟩
theorem pass_allA {L : List Action} {cp : Int → Int → Int} {fid : Nat} {caps : List AV} {k : Int → Int} {n : Nat} (hcl : ClL caps = true) (hn : n ≤ 1000000) (hf : CmpA L cp fid caps k n) {f : Nat → Int} {w : Nat} (hw : 1 ≤ w) (hall : AllB k f n w) :
    AllB k (passFA L cp fid caps k n f w) n (2 * w) := by
  intro c hc
  obtain ⟨d1, d2⟩ := div_at n w hw
  obtain ⟨h1, h2, h3⟩ := pass_invA hcl hn hf hw hall (n / (2 * w)) d1
  unfold passFA
  by_cases e : c < n / (2 * w)
  · have := lt_mul (w := w) e
    rw [show min (c * (2 * w) + 2 * w) n = c * (2 * w) + 2 * w by omega]
    split
    · rename_i hl
      obtain ⟨b1, b2⟩ := pass_lastA hcl hn hf hw hall hl
      have hg := (symGA_spec hcl hn hf (pre_blk (n := n) (by omega) hl (Nat.le_refl _) b1 b2)).1
      exact (h2 c e).same fun x i1 i2 => hg.out x (by omega)
    · exact h2 c e
  · have e2 : c = n / (2 * w) := by
      by_cases e3 : c = n / (2 * w)
      · exact e3
      · have := lt_mul (w := w) (show n / (2 * w) < c by omega); omega
    rw [e2, show min (n / (2 * w) * (2 * w) + 2 * w) n = n by omega]
    split
    · rename_i hl
      obtain ⟨b1, b2⟩ := pass_lastA hcl hn hf hw hall hl
      exact blk_merge (by omega) hl b1 b2 (symGA_spec hcl hn hf (pre_blk (n := n) (by omega) hl (Nat.le_refl _) b1 b2)).1
    · rename_i hl
      have a1 := hall (2 * (n / (2 * w))) (by rw [(two_mul _ w).1]; rw [← e2]; exact hc)
      rw [(two_mul _ w).1, show min (n / (2 * w) * (2 * w) + w) n = n by omega] at a1
      exact a1.same fun x i1 i2 => h1 x i1
noncomputable def roundFA (L : List Action) (cp : Int → Int → Int) (fid : Nat) (caps : List AV) (k : Int → Int) (n : Nat) : Nat → Nat → Int
  | 0 => baseF k n
  | q + 1 => passFA L cp fid caps k n (roundFA L cp fid caps k n q) (20 * 2 ^ q)
theorem round_allA {L : List Action} {cp : Int → Int → Int} {fid : Nat} {caps : List AV} {k : Int → Int} {n : Nat} (hcl : ClL caps = true) (hn : n ≤ 1000000) (hf : CmpA L cp fid caps k n) : ∀ q, AllB k (roundFA L cp fid caps k n q) n (20 * 2 ^ q)
  | 0 => base_all k n
  | q + 1 => by rw [(pow_step q).1]; exact pass_allA hcl hn hf (pow_step q).2 (round_allA hcl hn hf q)
end Go.Proofs.Ytbncoeoamjcjjaa
end

section
set_option linter.unusedVariables false
set_option linter.unusedSimpArgs false
namespace Go.Proofs.Ytbncoeoamjcjjaa
open Go Go.AI Go.Proofs

def wF (q : Nat) : Nat := 20 * 2 ^ q
theorem wF_zero : wF 0 = 20 := rfl
theorem wF_succ (q : Nat) : wF (q + 1) = 2 * wF q := (pow_step q).1
def pA (w t : Nat) : Nat := t * (2 * w)
theorem pA_zero (w : Nat) : pA w 0 = 0 := by simp [pA]
theorem pA_succ (w t : Nat) : pA w (t + 1) = pA w t + 2 * w := (two_mul t w).2.2
end Go.Proofs.Ytbncoeoamjcjjaa
end

section
set_option linter.unusedVariables false
set_option linter.unusedSimpArgs false
namespace Go.Proofs.Ytbncoeoamjcjjaa
open Go Go.AI Go.Proofs

set_option maxHeartbeats 8000000 in
theorem stableA_c (L : List Action) (cp : Int → Int → Int) (fid : Nat) (caps : List AV) (k : Int → Int) (n : Nat) (hcl : ClL caps = true) (hn : n ≤ 1000000) (hf : CmpA L cp fid caps k n) : ∃ g, Srt k g 0 n ∧ (∀ x, x < n → 0 ≤ g x ∧ g x < n) ∧
    FnB Try.prog 149 [.msl 0 0 n, .int .i64 n, .fn fid caps] (.buf 11 (roA L idF n)) (.tup []) (.buf 11 (roA L g n)) := by
  obtain ⟨r, hr, hlt⟩ := least_round n
  have hall := round_allA hcl hn hf r
  have hblk : 0 < n → Blk k (roundFA L cp fid caps k n r) 0 n := fun h0 => by
    have := hall 0 (by omega)
    rw [Nat.zero_mul, Nat.zero_add, show min (20 * 2 ^ r) n = n by omega] at this
    exact this
  refine ⟨roundFA L cp fid caps k n r, fun x y i1 i2 i3 => (hblk (by omega)).1 x y i1 i2 i3, fun x hx => by have := (hblk (by omega)).2 x (by omega) hx; omega, ?_⟩
  have hz : blkSeq k 0 = idF := rfl
  refine FnB.intro Try.func149 rfl rfl fun G w l => ?_
  repeat (first | refine WK.seq ?_ | refine WK.block ?_ | refine WK.inBlock ?_ | refine WK.skip ?_ | refine WK.label ?_ | refine WK.scope ?_ | refine WK.inScope ?_ | refine WK.exit rfl ?_)
  first | refine WK.reg 100 Try.ntmps149 (by kernel_rfl) ?_ | refine WK.regD 100 clsOf (by kernel_rfl) Try.ntmps149 (by kernel_rfl) (by kernel_rfl) ?_
  intro A hA Q hQ
  simp
  refine hQ _ _ ?_
  clear hQ hA
  repeat (first | refine WK.seq ?_ | refine WK.block ?_ | refine WK.inBlock ?_ | refine WK.skip ?_ | refine WK.label ?_ | refine WK.scope ?_ | refine WK.inScope ?_ | refine WK.exit rfl ?_)
  first | refine WK.reg 200 Try.ntmps149 (by kernel_rfl) ?_ | refine WK.regD 200 clsOf (by kernel_rfl) Try.ntmps149 (by kernel_rfl) (by kernel_rfl) ?_
  intro A hA Q hQ
  simp
  refine hQ _ _ ?_
  clear hQ hA
  repeat (first | refine WK.seq ?_ | refine WK.block ?_ | refine WK.inBlock ?_ | refine WK.skip ?_ | refine WK.label ?_ | refine WK.scope ?_ | refine WK.inScope ?_ | refine WK.exit rfl ?_)
  refine WK.loopI (fun n => n) (fun t : Nat => (⟨(upd (upd (upd (upd (upd (upd J 0 (.msl 0 0 n)) 1 (.int .i64 n)) 2 (.fn fid caps)) 6 (.int .i64 20)) 7 (.int .i64 (20 * t : Nat))) 8 (.int .i64 (20 * t + 20 : Nat))), (upd B0 0 (.buf 11 (roA L (blkSeq k t) n))), 0⟩ : St)) (fun t => 20 * t ≤ n) (fun t => n - t) (0) (by repeat (first | exact TmW.nil | refine TmW.upd ?_ (by simp (maxDischargeDepth := 120) [hcl, hz]))) (by repeat (first | exact BxW.nil | refine BxW.upd ?_ (by simp (maxDischargeDepth := 120) [hcl, hz]))) (by first | exact InjW.id | exact InjW.nil | exact InjW.one | exact InjW.two (by simp) | exact InjW.three (by simp) (by simp) (by simp)) (by omega) (fun t ht IHt => ?_)
  repeat (first | refine WK.seq ?_ | refine WK.block ?_ | refine WK.inBlock ?_ | refine WK.skip ?_ | refine WK.label ?_ | refine WK.scope ?_ | refine WK.inScope ?_ | refine WK.exit rfl ?_)
  first | refine WK.reg 300 Try.ntmps149 (by kernel_rfl) ?_ | refine WK.regD 300 clsOf (by kernel_rfl) Try.ntmps149 (by kernel_rfl) (by kernel_rfl) ?_
  intro A hA Q hQ
  simp
  refine hQ _ _ ?_
  clear hQ hA
  repeat (first | refine WK.seq ?_ | refine WK.block ?_ | refine WK.inBlock ?_ | refine WK.skip ?_ | refine WK.label ?_ | refine WK.scope ?_ | refine WK.inScope ?_ | refine WK.exit rfl ?_)
  refine WK.cond2 rfl (fun h => ?_) (fun h => ?_)
  · simp at h
    have h2 : 20 * t + 20 ≤ n := by omega
    have hx : insSeq k (20 * t) (blkSeq k t) (20 * t + 20) = blkSeq k (t + 1) := rfl
    have w1 : IntKind.i64.wrap (20 * (t : Int) + 20 + 20) = 20 * (t : Int) + 20 + 20 := wrap_i64 (by omega) (by omega)
    have e1 : 20 * ((t : Int) + 1) = 20 * t + 20 := by omega
    repeat (first | refine WK.seq ?_ | refine WK.block ?_ | refine WK.inBlock ?_ | refine WK.skip ?_ | refine WK.label ?_ | refine WK.scope ?_ | refine WK.inScope ?_ | refine WK.exit rfl ?_)
    first | refine WK.reg 400 Try.ntmps149 (by kernel_rfl) ?_ | refine WK.regD 400 clsOf (by kernel_rfl) Try.ntmps149 (by kernel_rfl) (by kernel_rfl) ?_
    intro A hA Q hQ
    simp [hcl]
    refine RunQ.callB 0 rfl rfl rfl (by simp [hcl, hx]) (by rfl) (insA_c L cp fid caps k n hcl hn hf (blkSeq k t) (20 * t) (20 * t + 20) (by omega) (up_id h2 (blk_inv k n t ht).1)) (by simp (maxDischargeDepth := 120) [hcl, hx]) (by simp (maxDischargeDepth := 120) [hcl, hx]) rfl rfl (by simp [hcl, hx]) (by simp [hcl, hx]) ?_
    refine RunQ.eval ?_
    simp [hcl, hx]
    refine hQ _ _ ?_
    clear hQ hA
    repeat (first | refine WK.seq ?_ | refine WK.block ?_ | refine WK.inBlock ?_ | refine WK.skip ?_ | refine WK.label ?_ | refine WK.scope ?_ | refine WK.inScope ?_ | refine WK.exit rfl ?_)
    first | refine WK.reg 500 Try.ntmps149 (by kernel_rfl) ?_ | refine WK.regD 500 clsOf (by kernel_rfl) Try.ntmps149 (by kernel_rfl) (by kernel_rfl) ?_
    intro A hA Q hQ
    simp
    refine hQ _ _ ?_
    clear hQ hA
    repeat (first | refine WK.seq ?_ | refine WK.block ?_ | refine WK.inBlock ?_ | refine WK.skip ?_ | refine WK.label ?_ | refine WK.scope ?_ | refine WK.inScope ?_ | refine WK.exit rfl ?_)
    first | refine WK.reg 600 Try.ntmps149 (by kernel_rfl) ?_ | refine WK.regD 600 clsOf (by kernel_rfl) Try.ntmps149 (by kernel_rfl) (by kernel_rfl) ?_
    intro A hA Q hQ
    simp [w1]
    refine hQ _ _ ?_
    clear hQ hA
    repeat (first | refine WK.seq ?_ | refine WK.block ?_ | refine WK.inBlock ?_ | refine WK.skip ?_ | refine WK.label ?_ | refine WK.scope ?_ | refine WK.inScope ?_ | refine WK.exit rfl ?_)
    refine WK.next (fun n => n) (IHt (t + 1) (by omega) (by first | omega | (dsimp only; omega))) (by repeat (first | exact TmW.nil | refine TmW.upd ?_ (by simp (maxDischargeDepth := 120) [hcl, w1, e1]))) (by repeat (first | exact BxW.nil | refine BxW.upd ?_ (by simp (maxDischargeDepth := 120) [hcl, w1, e1]))) (by first | exact InjW.id | exact InjW.nil | exact InjW.one | exact InjW.two (by simp) | exact InjW.three (by simp) (by simp) (by simp))
  · simp at h
    have hT : t = n / 20 := by omega
    have hx : insSeq k (20 * t) (blkSeq k t) n = roundFA L cp fid caps k n 0 := by rw [hT]; rfl
    repeat (first | refine WK.seq ?_ | refine WK.block ?_ | refine WK.inBlock ?_ | refine WK.skip ?_ | refine WK.label ?_ | refine WK.scope ?_ | refine WK.inScope ?_ | refine WK.exit rfl ?_)
    first | refine WK.reg 700 Try.ntmps149 (by kernel_rfl) ?_ | refine WK.regD 700 clsOf (by kernel_rfl) Try.ntmps149 (by kernel_rfl) (by kernel_rfl) ?_
    intro A hA Q hQ
    simp [hcl]
    refine RunQ.callB 0 rfl rfl rfl (by simp [hcl, hx]) (by rfl) (insA_c L cp fid caps k n hcl hn hf (blkSeq k t) (20 * t) n ht (up_id (Nat.le_refl _) (blk_inv k n t ht).1)) (by simp (maxDischargeDepth := 120) [hcl, hx]) (by simp (maxDischargeDepth := 120) [hcl, hx]) rfl rfl (by simp [hcl, hx]) (by simp [hcl, hx]) ?_
    refine RunQ.eval ?_
    simp [hcl, hx]
    refine hQ _ _ ?_
    clear hQ hA
    repeat (first | refine WK.seq ?_ | refine WK.block ?_ | refine WK.inBlock ?_ | refine WK.skip ?_ | refine WK.label ?_ | refine WK.scope ?_ | refine WK.inScope ?_ | refine WK.exit rfl ?_)
    refine WK.loopI (fun n => n) (fun q : Nat => (⟨(upd (upd (upd (upd J 0 (.msl 0 0 n)) 1 (.int .i64 n)) 2 (.fn fid caps)) 6 (.int .i64 (wF q))), (upd B0 0 (.buf 11 (roA L (roundFA L cp fid caps k n q) n))), 0⟩ : St)) (fun q => q ≤ r) (fun q => r - q) (0) (by repeat (first | exact TmW.nil | refine TmW.upd ?_ (by simp (maxDischargeDepth := 120) [hcl, hx, wF_zero]))) (by repeat (first | exact BxW.nil | refine BxW.upd ?_ (by simp (maxDischargeDepth := 120) [hcl, hx, wF_zero]))) (by first | exact InjW.id | exact InjW.nil | exact InjW.one | exact InjW.two (by simp) | exact InjW.three (by simp) (by simp) (by simp)) (Nat.zero_le _) (fun q hq IHq => ?_)
    have hw1 : 1 ≤ wF q := (pow_step q).2
    have hws := wF_succ q
    have hqa : AllB k (roundFA L cp fid caps k n q) n (wF q) := round_allA hcl hn hf q
    have hnx : roundFA L cp fid caps k n (q + 1) = passFA L cp fid caps k n (roundFA L cp fid caps k n q) (wF q) := rfl
    obtain ⟨f, hfq⟩ : ∃ f, f = roundFA L cp fid caps k n q := ⟨_, rfl⟩
    rw [← hfq] at hqa hnx ⊢
    repeat (first | refine WK.seq ?_ | refine WK.block ?_ | refine WK.inBlock ?_ | refine WK.skip ?_ | refine WK.label ?_ | refine WK.scope ?_ | refine WK.inScope ?_ | refine WK.exit rfl ?_)
    first | refine WK.reg 800 Try.ntmps149 (by kernel_rfl) ?_ | refine WK.regD 800 clsOf (by kernel_rfl) Try.ntmps149 (by kernel_rfl) (by kernel_rfl) ?_
    intro A hA Q hQ
    simp
    refine hQ _ _ ?_
    clear hQ hA
    repeat (first | refine WK.seq ?_ | refine WK.block ?_ | refine WK.inBlock ?_ | refine WK.skip ?_ | refine WK.label ?_ | refine WK.scope ?_ | refine WK.inScope ?_ | refine WK.exit rfl ?_)
    refine WK.cond2 rfl (fun h3 => ?_) (fun h3 => ?_)
    · simp at h3
      obtain ⟨w, hwq⟩ : ∃ w, w = wF q := ⟨_, rfl⟩
      have hqr : q < r := by
        by_cases e : q < r
        · exact e
        · exfalso
          have e2 : q = r := by omega
          have e3 : wF q = 20 * 2 ^ r := by rw [e2]; rfl
          omega
      rw [← hwq] at hw1 hws hqa hnx h3 ⊢
      have m1 : IntKind.i64.wrap (2 * (w : Int)) = 2 * (w : Int) := wrap_i64 (by omega) (by omega)
      have m2 : IntKind.i64.wrap ((w : Int) * 2) = 2 * (w : Int) := by rw [wrap_i64 (by omega) (by omega)]; omega
      have p0 := pA_zero w
      obtain ⟨T, hT⟩ : ∃ T, T = n / (2 * w) := ⟨_, rfl⟩
      obtain ⟨d1, d2⟩ := div_at n w hw1
      rw [← hT] at d1 d2
      obtain ⟨j1, j2, j3⟩ := pass_invA hcl hn hf hw1 hqa T d1
      have hf0 : passSeqA L cp fid caps k n f w 0 = f := rfl
      repeat (first | refine WK.seq ?_ | refine WK.block ?_ | refine WK.inBlock ?_ | refine WK.skip ?_ | refine WK.label ?_ | refine WK.scope ?_ | refine WK.inScope ?_ | refine WK.exit rfl ?_)
      first | refine WK.reg 900 Try.ntmps149 (by kernel_rfl) ?_ | refine WK.regD 900 clsOf (by kernel_rfl) Try.ntmps149 (by kernel_rfl) (by kernel_rfl) ?_
      intro A hA Q hQ
      simp [m1]
      refine hQ _ _ ?_
      clear hQ hA
      repeat (first | refine WK.seq ?_ | refine WK.block ?_ | refine WK.inBlock ?_ | refine WK.skip ?_ | refine WK.label ?_ | refine WK.scope ?_ | refine WK.inScope ?_ | refine WK.exit rfl ?_)
      refine WK.loopI (fun n => n) (fun t : Nat => (⟨(upd (upd (upd (upd (upd (upd J 0 (.msl 0 0 n)) 1 (.int .i64 n)) 2 (.fn fid caps)) 6 (.int .i64 w)) 7 (.int .i64 (pA w t))) 8 (.int .i64 (pA w t + 2 * w : Nat))), (upd B0 0 (.buf 11 (roA L (passSeqA L cp fid caps k n f w t) n))), 0⟩ : St)) (fun t => t ≤ T) (fun t => T - t) (0) (by repeat (first | exact TmW.nil | refine TmW.upd ?_ (by simp (maxDischargeDepth := 120) [hcl, p0, hf0, m1]))) (by repeat (first | exact BxW.nil | refine BxW.upd ?_ (by simp (maxDischargeDepth := 120) [hcl, p0, hf0, m1]))) (by first | exact InjW.id | exact InjW.nil | exact InjW.one | exact InjW.two (by simp) | exact InjW.three (by simp) (by simp) (by simp)) (Nat.zero_le _) (fun t ht IHt => ?_)
      have p1 := pA_succ w t
      have p2 : pA w t ≤ pA w T := Nat.mul_le_mul_right (2 * w) ht
      have p3 : pA w T = T * (2 * w) := rfl
      have pe : pA w t = t * (2 * w) := rfl
      repeat (first | refine WK.seq ?_ | refine WK.block ?_ | refine WK.inBlock ?_ | refine WK.skip ?_ | refine WK.label ?_ | refine WK.scope ?_ | refine WK.inScope ?_ | refine WK.exit rfl ?_)
      first | refine WK.reg 1000 Try.ntmps149 (by kernel_rfl) ?_ | refine WK.regD 1000 clsOf (by kernel_rfl) Try.ntmps149 (by kernel_rfl) (by kernel_rfl) ?_
      intro A hA Q hQ
      simp
      refine hQ _ _ ?_
      clear hQ hA
      repeat (first | refine WK.seq ?_ | refine WK.block ?_ | refine WK.inBlock ?_ | refine WK.skip ?_ | refine WK.label ?_ | refine WK.scope ?_ | refine WK.inScope ?_ | refine WK.exit rfl ?_)
      refine WK.cond2 rfl (fun h4 => ?_) (fun h4 => ?_)
      · simp at h4
        have htT : t < T := by
          by_cases e : t < T
          · exact e
          · exfalso
            have e2 : t = T := by omega
            rw [e2] at h4; omega
        have hsp := (symGA_spec hcl hn hf (j3 t htT)).2
        have hps : symGA L cp fid caps k n (passSeqA L cp fid caps k n f w t) (pA w t) (pA w t + w) (pA w t + 2 * w) = passSeqA L cp fid caps k n f w (t + 1) := rfl
        rw [← pe] at hsp
        have m3 : IntKind.i64.wrap ((pA w t : Int) + w) = (pA w t : Int) + w := wrap_i64 (by omega) (by omega)
        have m4 : IntKind.i64.wrap ((pA w t : Int) + 2 * w + 2 * w) = (pA w t : Int) + 2 * w + 2 * w := wrap_i64 (by omega) (by omega)
        repeat (first | refine WK.seq ?_ | refine WK.block ?_ | refine WK.inBlock ?_ | refine WK.skip ?_ | refine WK.label ?_ | refine WK.scope ?_ | refine WK.inScope ?_ | refine WK.exit rfl ?_)
        first | refine WK.reg 1100 Try.ntmps149 (by kernel_rfl) ?_ | refine WK.regD 1100 clsOf (by kernel_rfl) Try.ntmps149 (by kernel_rfl) (by kernel_rfl) ?_
        intro A hA Q hQ
        simp [hcl, m3]
        refine RunQ.callB 0 rfl rfl rfl (by simp [hcl, hps]) (by rfl) (hsp) (by simp (maxDischargeDepth := 120) [hcl, hps]) (by simp (maxDischargeDepth := 120) [hcl, hps]) rfl rfl (by simp [hcl, hps]) (by simp [hcl, hps]) ?_
        refine RunQ.eval ?_
        simp [hcl, hps]
        refine hQ _ _ ?_
        clear hQ hA
        repeat (first | refine WK.seq ?_ | refine WK.block ?_ | refine WK.inBlock ?_ | refine WK.skip ?_ | refine WK.label ?_ | refine WK.scope ?_ | refine WK.inScope ?_ | refine WK.exit rfl ?_)
        first | refine WK.reg 1200 Try.ntmps149 (by kernel_rfl) ?_ | refine WK.regD 1200 clsOf (by kernel_rfl) Try.ntmps149 (by kernel_rfl) (by kernel_rfl) ?_
        intro A hA Q hQ
        simp
        refine hQ _ _ ?_
        clear hQ hA
        repeat (first | refine WK.seq ?_ | refine WK.block ?_ | refine WK.inBlock ?_ | refine WK.skip ?_ | refine WK.label ?_ | refine WK.scope ?_ | refine WK.inScope ?_ | refine WK.exit rfl ?_)
        first | refine WK.reg 1300 Try.ntmps149 (by kernel_rfl) ?_ | refine WK.regD 1300 clsOf (by kernel_rfl) Try.ntmps149 (by kernel_rfl) (by kernel_rfl) ?_
        intro A hA Q hQ
        simp [m1, m4]
        refine hQ _ _ ?_
        clear hQ hA
        repeat (first | refine WK.seq ?_ | refine WK.block ?_ | refine WK.inBlock ?_ | refine WK.skip ?_ | refine WK.label ?_ | refine WK.scope ?_ | refine WK.inScope ?_ | refine WK.exit rfl ?_)
        refine WK.next (fun n => n) (IHt (t + 1) (by omega) (by first | omega | (dsimp only; omega))) (by repeat (first | exact TmW.nil | refine TmW.upd ?_ (by simp (maxDischargeDepth := 120) [hcl, m1, m4, p1]))) (by repeat (first | exact BxW.nil | refine BxW.upd ?_ (by simp (maxDischargeDepth := 120) [hcl, m1, m4, p1]))) (by first | exact InjW.id | exact InjW.nil | exact InjW.one | exact InjW.two (by simp) | exact InjW.three (by simp) (by simp) (by simp))
      · simp at h4
        have htT : t = T := by
          by_cases e : t < T
          · exfalso
            have := lt_mul (w := w) e
            rw [← pe, ← p3] at this
            omega
          · omega
        have m3 : IntKind.i64.wrap ((pA w t : Int) + w) = (pA w t : Int) + w := wrap_i64 (by omega) (by omega)
        have e1 : pA w t = T * (2 * w) := by rw [htT]; rfl
        repeat (first | refine WK.seq ?_ | refine WK.block ?_ | refine WK.inBlock ?_ | refine WK.skip ?_ | refine WK.label ?_ | refine WK.scope ?_ | refine WK.inScope ?_ | refine WK.exit rfl ?_)
        first | refine WK.reg 1400 Try.ntmps149 (by kernel_rfl) ?_ | refine WK.regD 1400 clsOf (by kernel_rfl) Try.ntmps149 (by kernel_rfl) (by kernel_rfl) ?_
        intro A hA Q hQ
        simp [m3]
        refine hQ _ _ ?_
        clear hQ hA
        repeat (first | refine WK.seq ?_ | refine WK.block ?_ | refine WK.inBlock ?_ | refine WK.skip ?_ | refine WK.label ?_ | refine WK.scope ?_ | refine WK.inScope ?_ | refine WK.exit rfl ?_)
        first | refine WK.reg 1500 Try.ntmps149 (by kernel_rfl) ?_ | refine WK.regD 1500 clsOf (by kernel_rfl) Try.ntmps149 (by kernel_rfl) (by kernel_rfl) ?_
        intro A hA Q hQ
        simp
        refine hQ _ _ ?_
        clear hQ hA
        repeat (first | refine WK.seq ?_ | refine WK.block ?_ | refine WK.inBlock ?_ | refine WK.skip ?_ | refine WK.label ?_ | refine WK.scope ?_ | refine WK.inScope ?_ | refine WK.exit rfl ?_)
        apply WK.cut (⟨(upd (upd (upd (upd J 0 (.msl 0 0 n)) 1 (.int .i64 n)) 2 (.fn fid caps)) 6 (.int .i64 w)), (upd B0 0 (.buf 11 (roA L (roundFA L cp fid caps k n (q + 1)) n))), 0⟩ : St)
        · intro hcut
          repeat (first | refine WK.seq ?_ | refine WK.block ?_ | refine WK.inBlock ?_ | refine WK.skip ?_ | refine WK.label ?_ | refine WK.scope ?_ | refine WK.inScope ?_ | refine WK.exit rfl ?_)
          refine WK.cond2 rfl (fun h5 => ?_) (fun h5 => ?_)
          · simp at h5
            have hl : T * (2 * w) + w < n := by rw [← e1]; omega
            have hpass : passFA L cp fid caps k n f w = symGA L cp fid caps k n (passSeqA L cp fid caps k n f w t) (pA w t) (pA w t + w) n := by
              unfold passFA; rw [← hT, if_pos hl, e1, htT]
            rw [hpass] at hnx
            have hpl := pass_lastA hcl hn hf hw1 hqa (by rw [← hT]; exact hl)
            rw [← hT, ← htT, ← pe] at hpl
            have hsp := (symGA_spec hcl hn hf (pre_blk (n := n) (by omega) (by omega) (Nat.le_refl _) hpl.1 hpl.2)).2
            repeat (first | refine WK.seq ?_ | refine WK.block ?_ | refine WK.inBlock ?_ | refine WK.skip ?_ | refine WK.label ?_ | refine WK.scope ?_ | refine WK.inScope ?_ | refine WK.exit rfl ?_)
            first | refine WK.reg 1600 Try.ntmps149 (by kernel_rfl) ?_ | refine WK.regD 1600 clsOf (by kernel_rfl) Try.ntmps149 (by kernel_rfl) (by kernel_rfl) ?_
            intro A hA Q hQ
            simp [hcl]
            refine RunQ.callB 0 rfl rfl rfl (by simp [hcl]) (by rfl) (hsp) (by simp (maxDischargeDepth := 120) [hcl]) (by simp (maxDischargeDepth := 120) [hcl]) rfl rfl (by simp [hcl]) (by simp [hcl]) ?_
            refine RunQ.eval ?_
            simp [hcl]
            refine hQ _ _ ?_
            clear hQ hA
            repeat (first | refine WK.seq ?_ | refine WK.block ?_ | refine WK.inBlock ?_ | refine WK.skip ?_ | refine WK.label ?_ | refine WK.scope ?_ | refine WK.inScope ?_ | refine WK.exit rfl ?_)
            refine WK.next (fun n => n) hcut (by repeat (first | exact TmW.nil | refine TmW.upd ?_ (by simp (maxDischargeDepth := 120) [hcl, hnx]))) (by repeat (first | exact BxW.nil | refine BxW.upd ?_ (by simp (maxDischargeDepth := 120) [hcl, hnx]))) (by first | exact InjW.id | exact InjW.nil | exact InjW.one | exact InjW.two (by simp) | exact InjW.three (by simp) (by simp) (by simp))
          · simp at h5
            have hl : ¬ T * (2 * w) + w < n := by rw [← e1]; omega
            have hpass : passFA L cp fid caps k n f w = passSeqA L cp fid caps k n f w t := by unfold passFA; rw [← hT, if_neg hl, htT]
            rw [hpass] at hnx
            repeat (first | refine WK.seq ?_ | refine WK.block ?_ | refine WK.inBlock ?_ | refine WK.skip ?_ | refine WK.label ?_ | refine WK.scope ?_ | refine WK.inScope ?_ | refine WK.exit rfl ?_)
            refine WK.next (fun n => n) hcut (by repeat (first | exact TmW.nil | refine TmW.upd ?_ (by simp (maxDischargeDepth := 120) [hcl, hnx]))) (by repeat (first | exact BxW.nil | refine BxW.upd ?_ (by simp (maxDischargeDepth := 120) [hcl, hnx]))) (by first | exact InjW.id | exact InjW.nil | exact InjW.one | exact InjW.two (by simp) | exact InjW.three (by simp) (by simp) (by simp))
        repeat (first | refine WK.seq ?_ | refine WK.block ?_ | refine WK.inBlock ?_ | refine WK.skip ?_ | refine WK.label ?_ | refine WK.scope ?_ | refine WK.inScope ?_ | refine WK.exit rfl ?_)
        first | refine WK.reg 1700 Try.ntmps149 (by kernel_rfl) ?_ | refine WK.regD 1700 clsOf (by kernel_rfl) Try.ntmps149 (by kernel_rfl) (by kernel_rfl) ?_
        intro A hA Q hQ
        simp [m2]
        refine hQ _ _ ?_
        clear hQ hA
        repeat (first | refine WK.seq ?_ | refine WK.block ?_ | refine WK.inBlock ?_ | refine WK.skip ?_ | refine WK.label ?_ | refine WK.scope ?_ | refine WK.inScope ?_ | refine WK.exit rfl ?_)
        refine WK.next (fun n => n) (IHq (q + 1) (by omega) (by first | omega | (dsimp only; omega))) (by repeat (first | exact TmW.nil | refine TmW.upd ?_ (by simp (maxDischargeDepth := 120) [hcl, m2, hws]))) (by repeat (first | exact BxW.nil | refine BxW.upd ?_ (by simp (maxDischargeDepth := 120) [hcl, m2, hws]))) (by first | exact InjW.id | exact InjW.nil | exact InjW.one | exact InjW.two (by simp) | exact InjW.three (by simp) (by simp) (by simp))
    · simp at h3
      have e : q = r := by
        by_cases e : q < r
        · exfalso
          have := hlt q e
          have : wF q = 20 * 2 ^ q := rfl
          omega
        · omega
      have e2 : f = roundFA L cp fid caps k n r := by rw [hfq, e]
      repeat (first | refine WK.seq ?_ | refine WK.block ?_ | refine WK.inBlock ?_ | refine WK.skip ?_ | refine WK.label ?_ | refine WK.scope ?_ | refine WK.inScope ?_ | refine WK.exit rfl ?_)
      refine WK.retB Try.func149 (by simp (maxDischargeDepth := 120) [Try.results149, e2]) (by simp [e2]) rfl (.inl rfl)
theorem sortStableA_c (L : List Action) (cp : Int → Int → Int) (fid : Nat) (caps : List AV) (k : Int → Int) (n : Nat) (hcl : ClL caps = true) (hn : n ≤ 1000000) (hf : CmpA L cp fid caps k n) : ∃ g, Srt k g 0 n ∧ (∀ x, x < n → 0 ≤ g x ∧ g x < n) ∧
    FnB Try.prog 98 [.msl 0 0 n, .fn fid caps] (.buf 11 (roA L idF n)) (.tup []) (.buf 11 (roA L g n)) := by
  obtain ⟨g, h1, h2, h3⟩ := stableA_c L cp fid caps k n hcl hn hf
  refine ⟨g, h1, h2, ?_⟩
  refine FnB.intro Try.func98 rfl rfl fun G w l => ?_
  repeat (first | refine WK.seq ?_ | refine WK.block ?_ | refine WK.inBlock ?_ | refine WK.skip ?_ | refine WK.label ?_ | refine WK.scope ?_ | refine WK.inScope ?_ | refine WK.exit rfl ?_)
  first | refine WK.reg 100 Try.ntmps98 (by kernel_rfl) ?_ | refine WK.regD 100 clsOf (by kernel_rfl) Try.ntmps98 (by kernel_rfl) (by kernel_rfl) ?_
  intro A hA Q hQ
  simp [hcl]
  refine RunQ.callB 0 rfl rfl rfl (by simp [hcl]) (by rfl) (h3) (by simp (maxDischargeDepth := 120) [hcl]) (by simp (maxDischargeDepth := 120) [hcl]) rfl rfl (by simp [hcl]) (by simp [hcl]) ?_
  refine RunQ.eval ?_
  simp [hcl]
  refine hQ _ _ ?_
  clear hQ hA
  repeat (first | refine WK.seq ?_ | refine WK.block ?_ | refine WK.inBlock ?_ | refine WK.skip ?_ | refine WK.label ?_ | refine WK.scope ?_ | refine WK.inScope ?_ | refine WK.exit rfl ?_)
  refine WK.retB Try.func98 (by simp (maxDischargeDepth := 120) [Try.results98]) (by simp) rfl (.inl rfl)
end Go.Proofs.Ytbncoeoamjcjjaa
end

section
set_option linter.unusedVariables false
set_option linter.unusedSimpArgs false
namespace Go.Proofs.Ytbncoeoamjcjjaa
open Go Go.AI Go.Proofs

structure F3 where
  is : Bool
  ty : Int
  code : Int
  deriving DecidableEq
def F3.enc (f : F3) : List AV := [.bool f.is, .int .i64 f.ty, .int .i64 f.code]
def F3.zero : F3 := ⟨false, 0, 0⟩
@[simp] theorem F3.len (f : F3) : f.enc.length = 3 := rfl
@[simp] theorem F3.cl (f : F3) : ClL f.enc = true := by simp [F3.enc, ClL, Cl]
@[simp] theorem F3.ne (f : F3) : (f.enc = []) = False := by simp [F3.enc]
@[simp] theorem F3.take (f : F3) : f.enc.take 3 = f.enc := rfl
@[simp] theorem F3.drop (f : F3) : f.enc.drop 3 = [] := rfl
end Go.Proofs.Ytbncoeoamjcjjaa
end

section
set_option linter.unusedVariables false
set_option linter.unusedSimpArgs false
namespace Go.Proofs.Ytbncoeoamjcjjaa
open Go Go.AI Go.Proofs

theorem takenF (n : Nat) : taken (fun _ => false) n = if n = 0 then 0 else 1 := by cases n <;> rfl
end Go.Proofs.Ytbncoeoamjcjjaa
end

section
set_option linter.unusedVariables false
set_option linter.unusedSimpArgs false
namespace Go.Proofs.Ytbncoeoamjcjjaa
open Go Go.AI Go.Proofs

def keepN {α : Type} (p : α → Bool) (l : List α) (j : Nat) : List α := (l.take j).filter fun x => !p x
def delSeq {α : Type} [Inhabited α] (p : α → Bool) (l : List α) : Nat → List α
  | 0 => l
  | j + 1 => if p (nth l j) then delSeq p l j else (delSeq p l j).set (keepN p l j).length (nth l j)
theorem keepN_succ {α : Type} [Inhabited α] {p : α → Bool} {l : List α} {j : Nat} (h : j < l.length) : keepN p l (j + 1) = if p (nth l j) then keepN p l j else keepN p l j ++ [nth l j] := by
  unfold keepN
  rw [take_nth h, List.filter_append]
  by_cases hp : p (nth l j) = true <;> simp [hp]
theorem keepN_len {α : Type} (p : α → Bool) (l : List α) (j : Nat) : (keepN p l j).length ≤ j := by
  unfold keepN
  have := List.length_filter_le (fun x => !p x) (l.take j)
  have := List.length_take_le j l
  omega
theorem delSeq_len {α : Type} [Inhabited α] (p : α → Bool) (l : List α) : ∀ j, (delSeq p l j).length = l.length
  | 0 => rfl
  | j + 1 => by rw [delSeq]; split; exact delSeq_len p l j; rw [List.length_set]; exact delSeq_len p l j
theorem set_nth {α : Type} [Inhabited α] {l : List α} {p i : Nat} {x : α} (h : p < l.length) : nth (l.set p x) i = if i = p then x else nth l i := by
  unfold nth
  rw [List.getD_eq_getElem?_getD, List.getElem?_set]
  by_cases e : p = i
  · subst e; simp [h]
  · have e2 : ¬ i = p := fun h => e h.symm
    simp [e, e2]
theorem snoc_nth {α : Type} [Inhabited α] {l : List α} {i : Nat} {x : α} (h : i < l.length + 1) : nth (l ++ [x]) i = if i = l.length then x else nth l i := by
  unfold nth
  rw [List.getD_eq_getElem?_getD]
  by_cases e : i = l.length
  · subst e; simp
  · rw [List.getElem?_append_left (by omega), if_neg e, List.getD_eq_getElem?_getD]
theorem delSeq_get {α : Type} [Inhabited α] (p : α → Bool) (l : List α) : ∀ j, j ≤ l.length → (∀ x, j ≤ x → nth (delSeq p l j) x = nth l x) ∧ ∀ x, x < (keepN p l j).length → nth (delSeq p l j) x = nth (keepN p l j) x
  | 0, _ => ⟨fun _ _ => rfl, fun x hx => by have := keepN_len p l 0; omega⟩
  | j + 1, h => by
    obtain ⟨h1, h2⟩ := delSeq_get p l j (by omega)
    have hk := keepN_len p l j
    have hl := delSeq_len p l j
    rw [delSeq, keepN_succ (show j < l.length by omega)]
    by_cases hp : p (nth l j) = true
    · rw [if_pos hp, if_pos hp]
      exact ⟨fun x hx => h1 x (by omega), h2⟩
    · rw [if_neg hp, if_neg hp]
      refine ⟨fun x hx => ?_, fun x hx => ?_⟩
      · rw [set_nth (by omega), if_neg (by omega)]; exact h1 x (by omega)
      · rw [List.length_append, List.length_singleton] at hx
        rw [set_nth (by omega), snoc_nth hx]
        split
        · rfl
        · exact h2 x (by omega)
theorem delSeq_same {α : Type} [Inhabited α] (p : α → Bool) (l : List α) : ∀ j, j ≤ l.length → (∀ x, x < j → p (nth l x) = false) → delSeq p l j = l ∧ keepN p l j = l.take j
  | 0, _, _ => ⟨rfl, by simp [keepN]⟩
  | j + 1, h, hn => by
    obtain ⟨h1, h2⟩ := delSeq_same p l j (by omega) (fun x hx => hn x (by omega))
    have hj := hn j (by omega)
    constructor
    · rw [delSeq, hj, h1, h2]
      simp only [Bool.false_eq_true, if_false, List.length_take]
      rw [show min j l.length = j by omega, nth_eq (show j < l.length by omega), List.set_getElem_self]
    · rw [keepN_succ (show j < l.length by omega), hj, h2, take_nth (show j < l.length by omega)]; rfl
theorem delSeq_take {α : Type} [Inhabited α] (p : α → Bool) (l : List α) : (delSeq p l l.length).take (keepN p l l.length).length = keepN p l l.length := by
  have hk := keepN_len p l l.length
  have hl := delSeq_len p l l.length
  obtain ⟨_, h2⟩ := delSeq_get p l l.length (Nat.le_refl _)
  apply List.ext_getElem
  · rw [List.length_take]; omega
  · intro i h3 h4
    rw [List.getElem_take, ← nth_eq (show i < (delSeq p l l.length).length by omega), ← nth_eq h4]
    exact h2 i h4
theorem idx_cases {α : Type} [Inhabited α] (p : α → Bool) (l : List α) : (idxI p l = -1 ∧ ∀ j, j < l.length → p (nth l j) = false) ∨
    ∃ i, i < l.length ∧ idxI p l = i ∧ p (nth l i) = true ∧ ∀ j, j < i → p (nth l j) = false := by
  have go : ∀ n, n ≤ l.length → (∀ j, j < n → p (nth l j) = false) ∨ ∃ i, i < n ∧ p (nth l i) = true ∧ ∀ j, j < i → p (nth l j) = false := by
    intro n
    induction n with
    | zero => intro _; exact .inl fun j h => by omega
    | succ n ih =>
      intro h
      rcases ih (by omega) with h1 | ⟨i, h1, h2, h3⟩
      · cases hp : p (nth l n)
        · exact .inl fun j hj => by
            by_cases e : j = n
            · rw [e]; exact hp
            · exact h1 j (by omega)
        · exact .inr ⟨n, by omega, hp, h1⟩
      · exact .inr ⟨i, by omega, h2, h3⟩
  rcases go l.length (Nat.le_refl _) with h | ⟨i, h1, h2, h3⟩
  · exact .inl ⟨idxI_none h, h⟩
  · exact .inr ⟨i, h1, idxI_some h1 h2 h3, h2, h3⟩
end Go.Proofs.Ytbncoeoamjcjjaa
end

section
set_option linter.unusedVariables false
set_option linter.unusedSimpArgs false
namespace Go.AI
section
variable {E : Env} {G : Heap} {w : World} {bx : Nat → Box}
/-- an own row, of which the last cells are seen no more -/
theorem HeapOk.trim {n s : Nat} {a b : List AV} (h : HeapOk bx E G w) (hc : bx n = .buf s (a ++ b)) : HeapOk (upd bx n (.buf s a)) E G w := by
  have hl : ∀ m, (upd bx n (.buf s a) m).live = (bx m).live := fun m => by
    by_cases hm : m = n
    · subst hm; simp [hc, Box.live]
    · rw [upd_ne _ _ _ _ hm]
  refine ⟨h.gw, fun m => ?_, fun m m' k k' b h1 h2 h3 h4 h5 h6 => h.sep m m' k k' b (by rw [← hl]; exact h1) (by rw [← hl]; exact h2) h3 h4 h5 h6, fun b hb => h.off b ?_⟩
  · by_cases hm : m = n
    · subst hm
      simp only [upd_same]
      have hb := h.box m
      rw [hc] at hb
      cases hE : E m with
      | none => rw [hE] at hb; simp [BoxOk] at hb
      | some l =>
        rw [hE] at hb
        cases l with
        | var blk => simp [BoxOk] at hb
        | set p => simp [BoxOk] at hb
        | nil => simp only [BoxOk] at hb ⊢; exact (List.append_eq_nil_iff.1 hb).1
        | buf blk sz cap =>
          simp only [BoxOk] at hb ⊢
          obtain ⟨h1, vs, rest, T, g1, g2, g3, g4⟩ := hb
          have hlen := g2.length
          rw [List.length_append] at hlen
          have g2' := g2.take a.length
          rw [List.take_left] at g2'
          refine ⟨h1, vs.take a.length, vs.drop a.length ++ rest, T, ?_, g2', g3.take _, ?_⟩
          · rw [← List.append_assoc, List.take_append_drop]; exact g1
          · rw [← List.append_assoc, List.take_append_drop]; exact g4
    · rw [upd_ne _ _ _ _ hm]; exact h.box m
  · obtain ⟨m, k, g1, g2, g3⟩ := hb
    exact ⟨m, k, by rw [← hl]; exact g1, g2, g3⟩
theorem Live.trim {n s : Nat} {a b : List AV} {x : Nat} (hc : bx n = .buf s (a ++ b)) (h : Live (upd bx n (.buf s a)) E x) : Live bx E x := by
  obtain ⟨m, k, g1, g2, g3⟩ := h
  refine ⟨m, k, ?_, g2, g3⟩
  by_cases hm : m = n
  · subst hm; rw [hc]; rfl
  · rw [upd_ne _ _ _ _ hm] at g1; exact g1
theorem Ghost.trim {tm : Nat → AV} {nx : Nat} (n s : Nat) {a b : List AV} (hc : bx n = .buf s (a ++ b)) : Ghost (fun _ => True) ⟨tm, bx, nx⟩ ⟨tm, upd bx n (.buf s a), nx⟩ := by
  intro C ac w E G _ h
  have hlv : ∀ x, Live (upd bx n (.buf s a)) E x → Live bx E x := fun x hx => Live.trim hc hx
  exact ⟨E, G, h.size, h.tm, h.df, h.ok.trim hc, h.ext.less hlv, keep_less h.keep hlv, h.an, h.ms⟩
end
end Go.AI
end

section
set_option linter.unusedVariables false
set_option linter.unusedSimpArgs false
namespace Go.Proofs.Ytbncoeoamjcjjaa
open Go Go.AI Go.Proofs

theorem act_set (l : List Action) (i : Nat) (g : Action) (h : i < l.length) : (actL l).take (i * 11) ++ (g.enc ++ (actL l).drop (i * 11 + 11)) = actL (l.set i g) := actL_set l i g h
theorem act_full (l : List Action) (n : Nat) (h : n = l.length * 11) : (actL l).take n = actL l := List.take_of_length_le (by simp [h])
theorem indexf_act (fid : Nat) (caps : List AV) (p : Action → Bool) (l : List Action) (hcl : ClL caps = true) (hl : l.length ≤ 1000000)
    (hf : ∀ x, x ∈ l → FnP Try.prog fid (.agg x.enc :: caps) (.bool (p x))) :
    FnP Try.prog 66 [actS l, .fn fid caps] (.int .i64 (idxI p l)) := by
  unfold actS
  refine FnP.intro Try.func66 rfl rfl fun G w => ?_
  repeat (first | refine WK.seq ?_ | refine WK.block ?_ | refine WK.inBlock ?_ | refine WK.skip ?_ | refine WK.label ?_ | refine WK.scope ?_ | refine WK.inScope ?_ | refine WK.exit rfl ?_)
  first | refine WK.reg 100 Try.ntmps66 (by kernel_rfl) ?_ | refine WK.regD 100 clsOf (by kernel_rfl) Try.ntmps66 (by kernel_rfl) (by kernel_rfl) ?_
  intro A hA Q hQ
  simp
  refine hQ _ _ ?_
  clear hQ hA
  repeat (first | refine WK.seq ?_ | refine WK.block ?_ | refine WK.inBlock ?_ | refine WK.skip ?_ | refine WK.label ?_ | refine WK.scope ?_ | refine WK.inScope ?_ | refine WK.exit rfl ?_)
  first | refine WK.reg 200 Try.ntmps66 (by kernel_rfl) ?_ | refine WK.regD 200 clsOf (by kernel_rfl) Try.ntmps66 (by kernel_rfl) (by kernel_rfl) ?_
  intro A hA Q hQ
  simp
  refine hQ _ _ ?_
  clear hQ hA
  repeat (first | refine WK.seq ?_ | refine WK.block ?_ | refine WK.inBlock ?_ | refine WK.skip ?_ | refine WK.label ?_ | refine WK.scope ?_ | refine WK.inScope ?_ | refine WK.exit rfl ?_)
  refine WK.loopI (fun n => n) (fun i : Nat => (⟨(upd (upd (upd (upd J 0 (.sl false l.length (actL l))) 1 (.fn fid caps)) 7 (.int .i64 l.length)) 8 (.int .i64 i)), B0, 0⟩ : St)) (fun i => i ≤ l.length ∧ ∀ j, j < i → p (nth l j) = false) (fun i => l.length - i) (0) (by repeat (first | exact TmW.nil | refine TmW.upd ?_ (by simp (maxDischargeDepth := 120) [hcl]))) (by repeat (first | exact BxW.nil | refine BxW.upd ?_ (by simp (maxDischargeDepth := 120) [hcl]))) (by first | exact InjW.id | exact InjW.nil | exact InjW.one | exact InjW.two (by simp) | exact InjW.three (by simp) (by simp) (by simp)) (⟨by omega, by simp⟩) (fun i hi IH => ?_)
  repeat (first | refine WK.seq ?_ | refine WK.block ?_ | refine WK.inBlock ?_ | refine WK.skip ?_ | refine WK.label ?_ | refine WK.scope ?_ | refine WK.inScope ?_ | refine WK.exit rfl ?_)
  first | refine WK.reg 300 Try.ntmps66 (by kernel_rfl) ?_ | refine WK.regD 300 clsOf (by kernel_rfl) Try.ntmps66 (by kernel_rfl) (by kernel_rfl) ?_
  intro A hA Q hQ
  simp
  refine hQ _ _ ?_
  clear hQ hA
  repeat (first | refine WK.seq ?_ | refine WK.block ?_ | refine WK.inBlock ?_ | refine WK.skip ?_ | refine WK.label ?_ | refine WK.scope ?_ | refine WK.inScope ?_ | refine WK.exit rfl ?_)
  refine WK.cond2 rfl (fun h1 => ?_) (fun h1 => ?_)
  · simp at h1
    have h2 : i < l.length := by omega
    have h3 : 11 ≤ l.length * 11 - i * 11 := by omega
    have h4 := act_sub l i h2
    have h6 : IntKind.i64.wrap ((i : Int) + 1) = i + 1 := wrap_i64 (by omega) (by omega)
    repeat (first | refine WK.seq ?_ | refine WK.block ?_ | refine WK.inBlock ?_ | refine WK.skip ?_ | refine WK.label ?_ | refine WK.scope ?_ | refine WK.inScope ?_ | refine WK.exit rfl ?_)
    first | refine WK.reg 400 Try.ntmps66 (by kernel_rfl) ?_ | refine WK.regD 400 clsOf (by kernel_rfl) Try.ntmps66 (by kernel_rfl) (by kernel_rfl) ?_
    intro A hA Q hQ
    simp
    refine hQ _ _ ?_
    clear hQ hA
    repeat (first | refine WK.seq ?_ | refine WK.block ?_ | refine WK.inBlock ?_ | refine WK.skip ?_ | refine WK.label ?_ | refine WK.scope ?_ | refine WK.inScope ?_ | refine WK.exit rfl ?_)
    first | refine WK.reg 500 Try.ntmps66 (by kernel_rfl) ?_ | refine WK.regD 500 clsOf (by kernel_rfl) Try.ntmps66 (by kernel_rfl) (by kernel_rfl) ?_
    intro A hA Q hQ
    simp [h2, h3, h4]
    refine RunQ.call rfl rfl rfl rfl (by rfl) (by simp (maxDischargeDepth := 120) [hcl]) (hf (nth l i) (nth_mem h2)) (by simp [hcl]) ?_
    refine RunQ.eval ?_
    simp [hcl]
    refine hQ _ _ ?_
    clear hQ hA
    repeat (first | refine WK.seq ?_ | refine WK.block ?_ | refine WK.inBlock ?_ | refine WK.skip ?_ | refine WK.label ?_ | refine WK.scope ?_ | refine WK.inScope ?_ | refine WK.exit rfl ?_)
    refine WK.cond2 rfl (fun h5 => ?_) (fun h5 => ?_)
    · have e := idxI_some h2 h5 hi.2
      repeat (first | refine WK.seq ?_ | refine WK.block ?_ | refine WK.inBlock ?_ | refine WK.skip ?_ | refine WK.label ?_ | refine WK.scope ?_ | refine WK.inScope ?_ | refine WK.exit rfl ?_)
      first | refine WK.reg 600 Try.ntmps66 (by kernel_rfl) ?_ | refine WK.regD 600 clsOf (by kernel_rfl) Try.ntmps66 (by kernel_rfl) (by kernel_rfl) ?_
      intro A hA Q hQ
      simp
      refine hQ _ _ ?_
      clear hQ hA
      repeat (first | refine WK.seq ?_ | refine WK.block ?_ | refine WK.inBlock ?_ | refine WK.skip ?_ | refine WK.label ?_ | refine WK.scope ?_ | refine WK.inScope ?_ | refine WK.exit rfl ?_)
      refine WK.ret Try.func66 (by simp (maxDischargeDepth := 120) [Try.results66, e]) (by simp [e])
    · repeat (first | refine WK.seq ?_ | refine WK.block ?_ | refine WK.inBlock ?_ | refine WK.skip ?_ | refine WK.label ?_ | refine WK.scope ?_ | refine WK.inScope ?_ | refine WK.exit rfl ?_)
      first | refine WK.reg 700 Try.ntmps66 (by kernel_rfl) ?_ | refine WK.regD 700 clsOf (by kernel_rfl) Try.ntmps66 (by kernel_rfl) (by kernel_rfl) ?_
      intro A hA Q hQ
      simp [h6]
      refine hQ _ _ ?_
      clear hQ hA
      repeat (first | refine WK.seq ?_ | refine WK.block ?_ | refine WK.inBlock ?_ | refine WK.skip ?_ | refine WK.label ?_ | refine WK.scope ?_ | refine WK.inScope ?_ | refine WK.exit rfl ?_)
      refine WK.next (fun n => n) (IH (i + 1) (⟨by omega, fun j hj => by by_cases h7 : j = i; (subst h7; exact h5); exact hi.2 j (by omega)⟩) (by first | omega | (dsimp only; omega))) (by repeat (first | exact TmW.nil | refine TmW.upd ?_ (by simp (maxDischargeDepth := 120) [hcl]))) (by repeat (first | exact BxW.nil | refine BxW.upd ?_ (by simp (maxDischargeDepth := 120) [hcl]))) (by first | exact InjW.id | exact InjW.nil | exact InjW.one | exact InjW.two (by simp) | exact InjW.three (by simp) (by simp) (by simp))
  · simp at h1
    have e := idxI_none (p := p) (l := l) (fun j hj => hi.2 j (by omega))
    repeat (first | refine WK.seq ?_ | refine WK.block ?_ | refine WK.inBlock ?_ | refine WK.skip ?_ | refine WK.label ?_ | refine WK.scope ?_ | refine WK.inScope ?_ | refine WK.exit rfl ?_)
    first | refine WK.reg 800 Try.ntmps66 (by kernel_rfl) ?_ | refine WK.regD 800 clsOf (by kernel_rfl) Try.ntmps66 (by kernel_rfl) (by kernel_rfl) ?_
    intro A hA Q hQ
    simp
    refine hQ _ _ ?_
    clear hQ hA
    repeat (first | refine WK.seq ?_ | refine WK.block ?_ | refine WK.inBlock ?_ | refine WK.skip ?_ | refine WK.label ?_ | refine WK.scope ?_ | refine WK.inScope ?_ | refine WK.exit rfl ?_)
    refine WK.ret Try.func66 (by simp (maxDischargeDepth := 120) [Try.results66, e]) (by simp [e])
theorem containsf_act (fid : Nat) (caps : List AV) (p : Action → Bool) (l : List Action) (hcl : ClL caps = true) (hl : l.length ≤ 1000000)
    (hf : ∀ x, x ∈ l → FnP Try.prog fid (.agg x.enc :: caps) (.bool (p x))) :
    FnP Try.prog 17 [actS l, .fn fid caps] (.bool (l.any p)) := by
  have e := idxI_ge p l
  simp only [ge_iff_le] at e
  refine FnP.intro Try.func17 rfl rfl fun G w => ?_
  repeat (first | refine WK.seq ?_ | refine WK.block ?_ | refine WK.inBlock ?_ | refine WK.skip ?_ | refine WK.label ?_ | refine WK.scope ?_ | refine WK.inScope ?_ | refine WK.exit rfl ?_)
  first | refine WK.reg 100 Try.ntmps17 (by kernel_rfl) ?_ | refine WK.regD 100 clsOf (by kernel_rfl) Try.ntmps17 (by kernel_rfl) (by kernel_rfl) ?_
  intro A hA Q hQ
  simp
  refine hQ _ _ ?_
  clear hQ hA
  repeat (first | refine WK.seq ?_ | refine WK.block ?_ | refine WK.inBlock ?_ | refine WK.skip ?_ | refine WK.label ?_ | refine WK.scope ?_ | refine WK.inScope ?_ | refine WK.exit rfl ?_)
  first | refine WK.reg 200 Try.ntmps17 (by kernel_rfl) ?_ | refine WK.regD 200 clsOf (by kernel_rfl) Try.ntmps17 (by kernel_rfl) (by kernel_rfl) ?_
  intro A hA Q hQ
  simp
  refine RunQ.call rfl rfl rfl rfl (by rfl) (by simp (maxDischargeDepth := 120) [hcl]) (indexf_act fid caps p l hcl hl hf) (by simp [hcl]) ?_
  refine RunQ.eval ?_
  simp [hcl]
  refine hQ _ _ ?_
  clear hQ hA
  repeat (first | refine WK.seq ?_ | refine WK.block ?_ | refine WK.inBlock ?_ | refine WK.skip ?_ | refine WK.label ?_ | refine WK.scope ?_ | refine WK.inScope ?_ | refine WK.exit rfl ?_)
  refine WK.ret Try.func17 (by simp (maxDischargeDepth := 120) [Try.results17, e]) (by simp [e])
noncomputable def actZ (n : Nat) : List AV := (List.replicate n (zr Try.prog 30).cells).flatten
theorem actZ_len (n : Nat) : (actZ n).length = n * 11 := by
  have h : (zr Try.prog 30).cells.length = 11 := (appAct).zl
  unfold actZ
  simp [h]
@[simp] theorem actZ_cl (n : Nat) : ClL (actZ n) = true := by
  unfold actZ
  induction n with
  | zero => rfl
  | succ n ih => rw [List.replicate_succ, List.flatten_cons]; simp only [ClL_append, ih]; simp
theorem indexB_act (fid : Nat) (caps : List AV) (p : Action → Bool) (L : List Action) (hcl : ClL caps = true) (hl : L.length ≤ 1000000)
    (hf : ∀ x, x ∈ L → FnP Try.prog fid (.agg x.enc :: caps) (.bool (p x))) :
    FnB Try.prog 66 [.msl 0 0 L.length, .fn fid caps] (.buf 11 (actL L)) (.int .i64 (idxI p L)) (.buf 11 (actL L)) := by
  refine FnB.intro Try.func66 rfl rfl fun G w l => ?_
  repeat (first | refine WK.seq ?_ | refine WK.block ?_ | refine WK.inBlock ?_ | refine WK.skip ?_ | refine WK.label ?_ | refine WK.scope ?_ | refine WK.inScope ?_ | refine WK.exit rfl ?_)
  first | refine WK.reg 100 Try.ntmps66 (by kernel_rfl) ?_ | refine WK.regD 100 clsOf (by kernel_rfl) Try.ntmps66 (by kernel_rfl) (by kernel_rfl) ?_
  intro A hA Q hQ
  simp
  refine hQ _ _ ?_
  clear hQ hA
  repeat (first | refine WK.seq ?_ | refine WK.block ?_ | refine WK.inBlock ?_ | refine WK.skip ?_ | refine WK.label ?_ | refine WK.scope ?_ | refine WK.inScope ?_ | refine WK.exit rfl ?_)
  first | refine WK.reg 200 Try.ntmps66 (by kernel_rfl) ?_ | refine WK.regD 200 clsOf (by kernel_rfl) Try.ntmps66 (by kernel_rfl) (by kernel_rfl) ?_
  intro A hA Q hQ
  simp
  refine hQ _ _ ?_
  clear hQ hA
  repeat (first | refine WK.seq ?_ | refine WK.block ?_ | refine WK.inBlock ?_ | refine WK.skip ?_ | refine WK.label ?_ | refine WK.scope ?_ | refine WK.inScope ?_ | refine WK.exit rfl ?_)
  refine WK.loopI (fun n => n) (fun i : Nat => (⟨(upd (upd (upd (upd J 0 (.msl 0 0 L.length)) 1 (.fn fid caps)) 7 (.int .i64 L.length)) 8 (.int .i64 i)), (upd B0 0 (.buf 11 (actL L))), 0⟩ : St)) (fun i => i ≤ L.length ∧ ∀ j, j < i → p (nth L j) = false) (fun i => L.length - i) (0) (by repeat (first | exact TmW.nil | refine TmW.upd ?_ (by simp (maxDischargeDepth := 120) [hcl]))) (by repeat (first | exact BxW.nil | refine BxW.upd ?_ (by simp (maxDischargeDepth := 120) [hcl]))) (by first | exact InjW.id | exact InjW.nil | exact InjW.one | exact InjW.two (by simp) | exact InjW.three (by simp) (by simp) (by simp)) (⟨by omega, by simp⟩) (fun i hi IH => ?_)
  repeat (first | refine WK.seq ?_ | refine WK.block ?_ | refine WK.inBlock ?_ | refine WK.skip ?_ | refine WK.label ?_ | refine WK.scope ?_ | refine WK.inScope ?_ | refine WK.exit rfl ?_)
  first | refine WK.reg 300 Try.ntmps66 (by kernel_rfl) ?_ | refine WK.regD 300 clsOf (by kernel_rfl) Try.ntmps66 (by kernel_rfl) (by kernel_rfl) ?_
  intro A hA Q hQ
  simp
  refine hQ _ _ ?_
  clear hQ hA
  repeat (first | refine WK.seq ?_ | refine WK.block ?_ | refine WK.inBlock ?_ | refine WK.skip ?_ | refine WK.label ?_ | refine WK.scope ?_ | refine WK.inScope ?_ | refine WK.exit rfl ?_)
  refine WK.cond2 rfl (fun h1 => ?_) (fun h1 => ?_)
  · simp at h1
    have h2 : i < L.length := by omega
    have h3 : 11 ≤ L.length * 11 - i * 11 := by omega
    have h3' : i * 11 + 11 ≤ L.length * 11 := by omega
    have h4 := act_sub L i h2
    have h6 : IntKind.i64.wrap ((i : Int) + 1) = i + 1 := wrap_i64 (by omega) (by omega)
    repeat (first | refine WK.seq ?_ | refine WK.block ?_ | refine WK.inBlock ?_ | refine WK.skip ?_ | refine WK.label ?_ | refine WK.scope ?_ | refine WK.inScope ?_ | refine WK.exit rfl ?_)
    first | refine WK.reg 400 Try.ntmps66 (by kernel_rfl) ?_ | refine WK.regD 400 clsOf (by kernel_rfl) Try.ntmps66 (by kernel_rfl) (by kernel_rfl) ?_
    intro A hA Q hQ
    simp
    refine hQ _ _ ?_
    clear hQ hA
    repeat (first | refine WK.seq ?_ | refine WK.block ?_ | refine WK.inBlock ?_ | refine WK.skip ?_ | refine WK.label ?_ | refine WK.scope ?_ | refine WK.inScope ?_ | refine WK.exit rfl ?_)
    first | refine WK.reg 500 Try.ntmps66 (by kernel_rfl) ?_ | refine WK.regD 500 clsOf (by kernel_rfl) Try.ntmps66 (by kernel_rfl) (by kernel_rfl) ?_
    intro A hA Q hQ
    simp [h2, h3, h3', h4]
    refine RunQ.call rfl rfl rfl rfl (by rfl) (by simp (maxDischargeDepth := 120) [hcl]) (hf (nth L i) (nth_mem h2)) (by simp [hcl]) ?_
    refine RunQ.eval ?_
    simp [hcl]
    refine hQ _ _ ?_
    clear hQ hA
    repeat (first | refine WK.seq ?_ | refine WK.block ?_ | refine WK.inBlock ?_ | refine WK.skip ?_ | refine WK.label ?_ | refine WK.scope ?_ | refine WK.inScope ?_ | refine WK.exit rfl ?_)
    refine WK.cond2 rfl (fun h5 => ?_) (fun h5 => ?_)
    · have e := idxI_some h2 h5 hi.2
      repeat (first | refine WK.seq ?_ | refine WK.block ?_ | refine WK.inBlock ?_ | refine WK.skip ?_ | refine WK.label ?_ | refine WK.scope ?_ | refine WK.inScope ?_ | refine WK.exit rfl ?_)
      first | refine WK.reg 600 Try.ntmps66 (by kernel_rfl) ?_ | refine WK.regD 600 clsOf (by kernel_rfl) Try.ntmps66 (by kernel_rfl) (by kernel_rfl) ?_
      intro A hA Q hQ
      simp
      refine hQ _ _ ?_
      clear hQ hA
      repeat (first | refine WK.seq ?_ | refine WK.block ?_ | refine WK.inBlock ?_ | refine WK.skip ?_ | refine WK.label ?_ | refine WK.scope ?_ | refine WK.inScope ?_ | refine WK.exit rfl ?_)
      refine WK.retB Try.func66 (by simp (maxDischargeDepth := 120) [Try.results66, e]) (by simp [e]) rfl (.inr ⟨_, rfl⟩)
    · repeat (first | refine WK.seq ?_ | refine WK.block ?_ | refine WK.inBlock ?_ | refine WK.skip ?_ | refine WK.label ?_ | refine WK.scope ?_ | refine WK.inScope ?_ | refine WK.exit rfl ?_)
      first | refine WK.reg 700 Try.ntmps66 (by kernel_rfl) ?_ | refine WK.regD 700 clsOf (by kernel_rfl) Try.ntmps66 (by kernel_rfl) (by kernel_rfl) ?_
      intro A hA Q hQ
      simp [h6]
      refine hQ _ _ ?_
      clear hQ hA
      repeat (first | refine WK.seq ?_ | refine WK.block ?_ | refine WK.inBlock ?_ | refine WK.skip ?_ | refine WK.label ?_ | refine WK.scope ?_ | refine WK.inScope ?_ | refine WK.exit rfl ?_)
      refine WK.next (fun n => n) (IH (i + 1) (⟨by omega, fun j hj => by by_cases h7 : j = i; (subst h7; exact h5); exact hi.2 j (by omega)⟩) (by first | omega | (dsimp only; omega))) (by repeat (first | exact TmW.nil | refine TmW.upd ?_ (by simp (maxDischargeDepth := 120) [hcl]))) (by repeat (first | exact BxW.nil | refine BxW.upd ?_ (by simp (maxDischargeDepth := 120) [hcl]))) (by first | exact InjW.id | exact InjW.nil | exact InjW.one | exact InjW.two (by simp) | exact InjW.three (by simp) (by simp) (by simp))
  · simp at h1
    have e := idxI_none (p := p) (l := L) (fun j hj => hi.2 j (by omega))
    repeat (first | refine WK.seq ?_ | refine WK.block ?_ | refine WK.inBlock ?_ | refine WK.skip ?_ | refine WK.label ?_ | refine WK.scope ?_ | refine WK.inScope ?_ | refine WK.exit rfl ?_)
    first | refine WK.reg 800 Try.ntmps66 (by kernel_rfl) ?_ | refine WK.regD 800 clsOf (by kernel_rfl) Try.ntmps66 (by kernel_rfl) (by kernel_rfl) ?_
    intro A hA Q hQ
    simp
    refine hQ _ _ ?_
    clear hQ hA
    repeat (first | refine WK.seq ?_ | refine WK.block ?_ | refine WK.inBlock ?_ | refine WK.skip ?_ | refine WK.label ?_ | refine WK.scope ?_ | refine WK.inScope ?_ | refine WK.exit rfl ?_)
    refine WK.retB Try.func66 (by simp (maxDischargeDepth := 120) [Try.results66, e]) (by simp [e]) rfl (.inr ⟨_, rfl⟩)
set_option maxHeartbeats 2000000 in
theorem delete_act (fid : Nat) (caps : List AV) (p : Action → Bool) (L : List Action) (hcl : ClL caps = true) (hl : L.length ≤ 1000000)
    (hf : ∀ x, x ∈ L → FnP Try.prog fid (.agg x.enc :: caps) (.bool (p x))) :
    FnB Try.prog 95 [.msl 0 0 L.length, .fn fid caps] (.buf 11 (actL L)) (.msl 0 0 (keepN p L L.length).length)
      (.buf 11 (actL (keepN p L L.length) ++ actZ (L.length - (keepN p L L.length).length))) := by
  rcases idx_cases p L with ⟨e, hn⟩ | ⟨i0, hi0, e, hp, hn⟩
  · have h1 := delSeq_same p L L.length (Nat.le_refl _) hn
    have h2 : keepN p L L.length = L := by rw [h1.2, List.take_length]
    have h3 : actZ 0 = [] := rfl
    rw [h2]
    refine FnB.intro Try.func95 rfl rfl fun G w l => ?_
    repeat (first | refine WK.seq ?_ | refine WK.block ?_ | refine WK.inBlock ?_ | refine WK.skip ?_ | refine WK.label ?_ | refine WK.scope ?_ | refine WK.inScope ?_ | refine WK.exit rfl ?_)
    first | refine WK.reg 100 Try.ntmps95 (by kernel_rfl) ?_ | refine WK.regD 100 clsOf (by kernel_rfl) Try.ntmps95 (by kernel_rfl) (by kernel_rfl) ?_
    intro A hA Q hQ
    simp
    refine hQ _ _ ?_
    clear hQ hA
    repeat (first | refine WK.seq ?_ | refine WK.block ?_ | refine WK.inBlock ?_ | refine WK.skip ?_ | refine WK.label ?_ | refine WK.scope ?_ | refine WK.inScope ?_ | refine WK.exit rfl ?_)
    first | refine WK.reg 200 Try.ntmps95 (by kernel_rfl) ?_ | refine WK.regD 200 clsOf (by kernel_rfl) Try.ntmps95 (by kernel_rfl) (by kernel_rfl) ?_
    intro A hA Q hQ
    simp [hcl]
    refine RunQ.callB 0 rfl rfl rfl (by simp [hcl, e]) (by rfl) (indexB_act fid caps p L hcl hl hf) (by simp (maxDischargeDepth := 120) [hcl, e]) (by simp (maxDischargeDepth := 120) [hcl, e]) rfl rfl (by simp [hcl, e]) (by simp [hcl, e]) ?_
    refine RunQ.eval ?_
    simp [hcl, e]
    refine hQ _ _ ?_
    clear hQ hA
    repeat (first | refine WK.seq ?_ | refine WK.block ?_ | refine WK.inBlock ?_ | refine WK.skip ?_ | refine WK.label ?_ | refine WK.scope ?_ | refine WK.inScope ?_ | refine WK.exit rfl ?_)
    first | refine WK.reg 300 Try.ntmps95 (by kernel_rfl) ?_ | refine WK.regD 300 clsOf (by kernel_rfl) Try.ntmps95 (by kernel_rfl) (by kernel_rfl) ?_
    intro A hA Q hQ
    simp
    refine hQ _ _ ?_
    clear hQ hA
    repeat (first | refine WK.seq ?_ | refine WK.block ?_ | refine WK.inBlock ?_ | refine WK.skip ?_ | refine WK.label ?_ | refine WK.scope ?_ | refine WK.inScope ?_ | refine WK.exit rfl ?_)
    refine WK.cond2 rfl (fun h => ?_) (fun h => ?_)
    · repeat (first | refine WK.seq ?_ | refine WK.block ?_ | refine WK.inBlock ?_ | refine WK.skip ?_ | refine WK.label ?_ | refine WK.scope ?_ | refine WK.inScope ?_ | refine WK.exit rfl ?_)
      first | refine WK.reg 400 Try.ntmps95 (by kernel_rfl) ?_ | refine WK.regD 400 clsOf (by kernel_rfl) Try.ntmps95 (by kernel_rfl) (by kernel_rfl) ?_
      intro A hA Q hQ
      simp
      refine hQ _ _ ?_
      clear hQ hA
      repeat (first | refine WK.seq ?_ | refine WK.block ?_ | refine WK.inBlock ?_ | refine WK.skip ?_ | refine WK.label ?_ | refine WK.scope ?_ | refine WK.inScope ?_ | refine WK.exit rfl ?_)
      refine WK.retB Try.func95 (by simp (maxDischargeDepth := 120) [Try.results95, h3]) (by simp [h3]) rfl (.inr ⟨_, rfl⟩)
    · cases h
  · have h6 : IntKind.i64.wrap ((i0 : Int) + 1) = i0 + 1 := wrap_i64 (by omega) (by omega)
    have s1 := delSeq_same p L i0 (by omega) hn
    have s2 : delSeq p L (i0 + 1) = L := by rw [delSeq, hp]; exact s1.1
    have s3 : (keepN p L (i0 + 1)).length = i0 := by rw [keepN_succ hi0, hp, s1.2]; simp; omega
    refine FnB.intro Try.func95 rfl rfl fun G w l => ?_
    repeat (first | refine WK.seq ?_ | refine WK.block ?_ | refine WK.inBlock ?_ | refine WK.skip ?_ | refine WK.label ?_ | refine WK.scope ?_ | refine WK.inScope ?_ | refine WK.exit rfl ?_)
    first | refine WK.reg 100 Try.ntmps95 (by kernel_rfl) ?_ | refine WK.regD 100 clsOf (by kernel_rfl) Try.ntmps95 (by kernel_rfl) (by kernel_rfl) ?_
    intro A hA Q hQ
    simp
    refine hQ _ _ ?_
    clear hQ hA
    repeat (first | refine WK.seq ?_ | refine WK.block ?_ | refine WK.inBlock ?_ | refine WK.skip ?_ | refine WK.label ?_ | refine WK.scope ?_ | refine WK.inScope ?_ | refine WK.exit rfl ?_)
    first | refine WK.reg 200 Try.ntmps95 (by kernel_rfl) ?_ | refine WK.regD 200 clsOf (by kernel_rfl) Try.ntmps95 (by kernel_rfl) (by kernel_rfl) ?_
    intro A hA Q hQ
    simp [hcl]
    refine RunQ.callB 0 rfl rfl rfl (by simp [hcl, e]) (by rfl) (indexB_act fid caps p L hcl hl hf) (by simp (maxDischargeDepth := 120) [hcl, e]) (by simp (maxDischargeDepth := 120) [hcl, e]) rfl rfl (by simp [hcl, e]) (by simp [hcl, e]) ?_
    refine RunQ.eval ?_
    simp [hcl, e]
    refine hQ _ _ ?_
    clear hQ hA
    repeat (first | refine WK.seq ?_ | refine WK.block ?_ | refine WK.inBlock ?_ | refine WK.skip ?_ | refine WK.label ?_ | refine WK.scope ?_ | refine WK.inScope ?_ | refine WK.exit rfl ?_)
    first | refine WK.reg 300 Try.ntmps95 (by kernel_rfl) ?_ | refine WK.regD 300 clsOf (by kernel_rfl) Try.ntmps95 (by kernel_rfl) (by kernel_rfl) ?_
    intro A hA Q hQ
    simp
    refine hQ _ _ ?_
    clear hQ hA
    repeat (first | refine WK.seq ?_ | refine WK.block ?_ | refine WK.inBlock ?_ | refine WK.skip ?_ | refine WK.label ?_ | refine WK.scope ?_ | refine WK.inScope ?_ | refine WK.exit rfl ?_)
    refine WK.cond2 rfl (fun h => ?_) (fun h => ?_)
    · simp at h
    repeat (first | refine WK.seq ?_ | refine WK.block ?_ | refine WK.inBlock ?_ | refine WK.skip ?_ | refine WK.label ?_ | refine WK.scope ?_ | refine WK.inScope ?_ | refine WK.exit rfl ?_)
    first | refine WK.reg 400 Try.ntmps95 (by kernel_rfl) ?_ | refine WK.regD 400 clsOf (by kernel_rfl) Try.ntmps95 (by kernel_rfl) (by kernel_rfl) ?_
    intro A hA Q hQ
    simp [h6]
    refine hQ _ _ ?_
    clear hQ hA
    repeat (first | refine WK.seq ?_ | refine WK.block ?_ | refine WK.inBlock ?_ | refine WK.skip ?_ | refine WK.label ?_ | refine WK.scope ?_ | refine WK.inScope ?_ | refine WK.exit rfl ?_)
    refine WK.loopI (fun n => n) (fun j : Nat => (⟨(upd (upd (upd (upd J 0 (.msl 0 0 L.length)) 1 (.fn fid caps)) 5 (.int .i64 (keepN p L j).length)) 6 (.int .i64 j)), (upd B0 0 (.buf 11 (actL (delSeq p L j)))), 0⟩ : St)) (fun j => i0 + 1 ≤ j ∧ j ≤ L.length ∧ (keepN p L j).length < j) (fun j => L.length - j) (i0 + 1) (by repeat (first | exact TmW.nil | refine TmW.upd ?_ (by simp (maxDischargeDepth := 120) [hcl, s2, s3]))) (by repeat (first | exact BxW.nil | refine BxW.upd ?_ (by simp (maxDischargeDepth := 120) [hcl, s2, s3]))) (by first | exact InjW.id | exact InjW.nil | exact InjW.one | exact InjW.two (by simp) | exact InjW.three (by simp) (by simp) (by simp)) (⟨Nat.le_refl _, by omega, by omega⟩) (fun j hj IHj => ?_)
    have dl := delSeq_len p L j
    repeat (first | refine WK.seq ?_ | refine WK.block ?_ | refine WK.inBlock ?_ | refine WK.skip ?_ | refine WK.label ?_ | refine WK.scope ?_ | refine WK.inScope ?_ | refine WK.exit rfl ?_)
    first | refine WK.reg 500 Try.ntmps95 (by kernel_rfl) ?_ | refine WK.regD 500 clsOf (by kernel_rfl) Try.ntmps95 (by kernel_rfl) (by kernel_rfl) ?_
    intro A hA Q hQ
    simp
    refine hQ _ _ ?_
    clear hQ hA
    repeat (first | refine WK.seq ?_ | refine WK.block ?_ | refine WK.inBlock ?_ | refine WK.skip ?_ | refine WK.label ?_ | refine WK.scope ?_ | refine WK.inScope ?_ | refine WK.exit rfl ?_)
    refine WK.cond2 rfl (fun h1 => ?_) (fun h1 => ?_)
    · simp at h1
      have h2 : j < L.length := by omega
      have h3' : j * 11 + 11 ≤ L.length * 11 := by omega
      have g := (delSeq_get p L j hj.2.1).1 j (Nat.le_refl _)
      have h4 := act_sub (delSeq p L j) j (by omega)
      rw [g] at h4
      have h7 : IntKind.i64.wrap ((j : Int) + 1) = j + 1 := wrap_i64 (by omega) (by omega)
      have hs := keepN_succ (p := p) h2
      have hd : delSeq p L (j + 1) = if p (nth L j) then delSeq p L j else (delSeq p L j).set (keepN p L j).length (nth L j) := rfl
      cases hpj : p (nth L j)
      · rw [hpj] at hs hd
        simp only [Bool.false_eq_true, if_false] at hs hd
        have hk : (keepN p L j).length < L.length := by omega
        have b1 : (keepN p L j).length * 11 + 11 ≤ L.length * 11 := by omega
        have e2 := act_set (delSeq p L j) (keepN p L j).length (nth L j) (by omega)
        rw [← hd] at e2
        have h8 : IntKind.i64.wrap (((keepN p L j).length : Int) + 1) = (keepN p L j).length + 1 := wrap_i64 (by omega) (by omega)
        have hs2 : (keepN p L (j + 1)).length = (keepN p L j).length + 1 := by rw [hs, List.length_append]; rfl
        repeat (first | refine WK.seq ?_ | refine WK.block ?_ | refine WK.inBlock ?_ | refine WK.skip ?_ | refine WK.label ?_ | refine WK.scope ?_ | refine WK.inScope ?_ | refine WK.exit rfl ?_)
        first | refine WK.reg 600 Try.ntmps95 (by kernel_rfl) ?_ | refine WK.regD 600 clsOf (by kernel_rfl) Try.ntmps95 (by kernel_rfl) (by kernel_rfl) ?_
        intro A hA Q hQ
        simp [h2, h3', h4, dl]
        refine hQ _ _ ?_
        clear hQ hA
        repeat (first | refine WK.seq ?_ | refine WK.block ?_ | refine WK.inBlock ?_ | refine WK.skip ?_ | refine WK.label ?_ | refine WK.scope ?_ | refine WK.inScope ?_ | refine WK.exit rfl ?_)
        first | refine WK.reg 700 Try.ntmps95 (by kernel_rfl) ?_ | refine WK.regD 700 clsOf (by kernel_rfl) Try.ntmps95 (by kernel_rfl) (by kernel_rfl) ?_
        intro A hA Q hQ
        simp [hcl]
        refine RunQ.call rfl rfl rfl rfl (by rfl) (by simp (maxDischargeDepth := 120) [hcl, hpj]) (hf (nth L j) (nth_mem h2)) (by simp [hcl, hpj]) ?_
        refine RunQ.eval ?_
        simp [hcl, hpj]
        refine hQ _ _ ?_
        clear hQ hA
        repeat (first | refine WK.seq ?_ | refine WK.block ?_ | refine WK.inBlock ?_ | refine WK.skip ?_ | refine WK.label ?_ | refine WK.scope ?_ | refine WK.inScope ?_ | refine WK.exit rfl ?_)
        refine WK.cond2 rfl (fun h5 => ?_) (fun h5 => ?_)
        · repeat (first | refine WK.seq ?_ | refine WK.block ?_ | refine WK.inBlock ?_ | refine WK.skip ?_ | refine WK.label ?_ | refine WK.scope ?_ | refine WK.inScope ?_ | refine WK.exit rfl ?_)
          first | refine WK.reg 800 Try.ntmps95 (by kernel_rfl) ?_ | refine WK.regD 800 clsOf (by kernel_rfl) Try.ntmps95 (by kernel_rfl) (by kernel_rfl) ?_
          intro A hA Q hQ
          simp [hk, b1, dl]
          refine hQ _ _ ?_
          clear hQ hA
          repeat (first | refine WK.seq ?_ | refine WK.block ?_ | refine WK.inBlock ?_ | refine WK.skip ?_ | refine WK.label ?_ | refine WK.scope ?_ | refine WK.inScope ?_ | refine WK.exit rfl ?_)
          first | refine WK.reg 900 Try.ntmps95 (by kernel_rfl) ?_ | refine WK.regD 900 clsOf (by kernel_rfl) Try.ntmps95 (by kernel_rfl) (by kernel_rfl) ?_
          intro A hA Q hQ
          simp [h8]
          refine hQ _ _ ?_
          clear hQ hA
          repeat (first | refine WK.seq ?_ | refine WK.block ?_ | refine WK.inBlock ?_ | refine WK.skip ?_ | refine WK.label ?_ | refine WK.scope ?_ | refine WK.inScope ?_ | refine WK.exit rfl ?_)
          first | refine WK.reg 1000 Try.ntmps95 (by kernel_rfl) ?_ | refine WK.regD 1000 clsOf (by kernel_rfl) Try.ntmps95 (by kernel_rfl) (by kernel_rfl) ?_
          intro A hA Q hQ
          simp [h7]
          refine hQ _ _ ?_
          clear hQ hA
          repeat (first | refine WK.seq ?_ | refine WK.block ?_ | refine WK.inBlock ?_ | refine WK.skip ?_ | refine WK.label ?_ | refine WK.scope ?_ | refine WK.inScope ?_ | refine WK.exit rfl ?_)
          refine WK.next (fun n => n) (IHj (j + 1) (⟨by omega, by omega, by omega⟩) (by first | omega | (dsimp only; omega))) (by repeat (first | exact TmW.nil | refine TmW.upd ?_ (by simp (maxDischargeDepth := 120) [hcl, e2, hs2, h7, h8]))) (by repeat (first | exact BxW.nil | refine BxW.upd ?_ (by simp (maxDischargeDepth := 120) [hcl, e2, hs2, h7, h8]))) (by first | exact InjW.id | exact InjW.nil | exact InjW.one | exact InjW.two (by simp) | exact InjW.three (by simp) (by simp) (by simp))
        · cases h5
      · rw [hpj] at hs hd
        simp only [if_true] at hs hd
        repeat (first | refine WK.seq ?_ | refine WK.block ?_ | refine WK.inBlock ?_ | refine WK.skip ?_ | refine WK.label ?_ | refine WK.scope ?_ | refine WK.inScope ?_ | refine WK.exit rfl ?_)
        first | refine WK.reg 1100 Try.ntmps95 (by kernel_rfl) ?_ | refine WK.regD 1100 clsOf (by kernel_rfl) Try.ntmps95 (by kernel_rfl) (by kernel_rfl) ?_
        intro A hA Q hQ
        simp [h2, h3', h4, dl]
        refine hQ _ _ ?_
        clear hQ hA
        repeat (first | refine WK.seq ?_ | refine WK.block ?_ | refine WK.inBlock ?_ | refine WK.skip ?_ | refine WK.label ?_ | refine WK.scope ?_ | refine WK.inScope ?_ | refine WK.exit rfl ?_)
        first | refine WK.reg 1200 Try.ntmps95 (by kernel_rfl) ?_ | refine WK.regD 1200 clsOf (by kernel_rfl) Try.ntmps95 (by kernel_rfl) (by kernel_rfl) ?_
        intro A hA Q hQ
        simp [hcl]
        refine RunQ.call rfl rfl rfl rfl (by rfl) (by simp (maxDischargeDepth := 120) [hcl, hpj]) (hf (nth L j) (nth_mem h2)) (by simp [hcl, hpj]) ?_
        refine RunQ.eval ?_
        simp [hcl, hpj]
        refine hQ _ _ ?_
        clear hQ hA
        repeat (first | refine WK.seq ?_ | refine WK.block ?_ | refine WK.inBlock ?_ | refine WK.skip ?_ | refine WK.label ?_ | refine WK.scope ?_ | refine WK.inScope ?_ | refine WK.exit rfl ?_)
        refine WK.cond2 rfl (fun h5 => ?_) (fun h5 => ?_)
        · cases h5
        · repeat (first | refine WK.seq ?_ | refine WK.block ?_ | refine WK.inBlock ?_ | refine WK.skip ?_ | refine WK.label ?_ | refine WK.scope ?_ | refine WK.inScope ?_ | refine WK.exit rfl ?_)
          first | refine WK.reg 1300 Try.ntmps95 (by kernel_rfl) ?_ | refine WK.regD 1300 clsOf (by kernel_rfl) Try.ntmps95 (by kernel_rfl) (by kernel_rfl) ?_
          intro A hA Q hQ
          simp [h7]
          refine hQ _ _ ?_
          clear hQ hA
          repeat (first | refine WK.seq ?_ | refine WK.block ?_ | refine WK.inBlock ?_ | refine WK.skip ?_ | refine WK.label ?_ | refine WK.scope ?_ | refine WK.inScope ?_ | refine WK.exit rfl ?_)
          refine WK.next (fun n => n) (IHj (j + 1) (⟨by omega, by omega, by rw [hs]; omega⟩) (by first | omega | (dsimp only; omega))) (by repeat (first | exact TmW.nil | refine TmW.upd ?_ (by simp (maxDischargeDepth := 120) [hcl, hd, hs, h7]))) (by repeat (first | exact BxW.nil | refine BxW.upd ?_ (by simp (maxDischargeDepth := 120) [hcl, hd, hs, h7]))) (by first | exact InjW.id | exact InjW.nil | exact InjW.one | exact InjW.two (by simp) | exact InjW.three (by simp) (by simp) (by simp))
    · simp at h1
      have hje : j = L.length := by omega
      subst hje
      obtain ⟨k, hk⟩ : ∃ k, k = (keepN p L L.length).length := ⟨_, rfl⟩
      have hkl : k < L.length := by omega
      have hkl' : k ≤ L.length := by omega
      have hpre := delSeq_take p L
      rw [← hk] at hpre ⊢
      have hz := actZ_len (L.length - k)
      have hsp : splice (actL (delSeq p L L.length)) (k * 11) (actZ (L.length - k)) = actL (keepN p L L.length) ++ actZ (L.length - k) := by
        have e1 : (actL (delSeq p L L.length)).take (k * 11) = actL (keepN p L L.length) := by rw [show actL = fun l => l.flatMap Action.enc from rfl]; dsimp only; rw [fm_take Action.len, hpre]
        unfold splice
        rw [e1, List.drop_of_length_le (by rw [hz, actL_len, dl]; omega), List.append_nil]
      have hb : k * 11 + (L.length - k) * 11 ≤ (actL (delSeq p L L.length)).length := by rw [actL_len, dl]; omega
      repeat (first | refine WK.seq ?_ | refine WK.block ?_ | refine WK.inBlock ?_ | refine WK.skip ?_ | refine WK.label ?_ | refine WK.scope ?_ | refine WK.inScope ?_ | refine WK.exit rfl ?_)
      first | refine WK.reg 1400 Try.ntmps95 (by kernel_rfl) ?_ | refine WK.regD 1400 clsOf (by kernel_rfl) Try.ntmps95 (by kernel_rfl) (by kernel_rfl) ?_
      intro A hA Q hQ
      simp
      refine RunQ.slOwn (a := k) (b := L.length) appAct rfl (by simp [hkl']) rfl rfl rfl (by simp [boundsA, intA, hkl']) (by first | exact .inr rfl | (left; omega)) ?_
      refine RunQ.eval ?_
      simp [hkl']
      refine RunQ.clear (k := L.length - k) (appAct) rfl rfl rfl rfl (by simp) rfl rfl rfl hb ?_
      rw [show (List.replicate (L.length - k) (zr Try.prog 30).cells).flatten = actZ (L.length - k) from rfl, hsp]
      refine RunQ.eval ?_
      simp
      refine hQ _ _ ?_
      clear hQ hA
      repeat (first | refine WK.seq ?_ | refine WK.block ?_ | refine WK.inBlock ?_ | refine WK.skip ?_ | refine WK.label ?_ | refine WK.scope ?_ | refine WK.inScope ?_ | refine WK.exit rfl ?_)
      first | refine WK.reg 1500 Try.ntmps95 (by kernel_rfl) ?_ | refine WK.regD 1500 clsOf (by kernel_rfl) Try.ntmps95 (by kernel_rfl) (by kernel_rfl) ?_
      intro A hA Q hQ
      simp
      refine RunQ.slOwn (a := 0) (b := k) appAct rfl (by simp [hkl']) rfl rfl rfl (by simp [boundsA, intA, hkl']) (by first | exact .inr rfl | (left; omega)) ?_
      refine RunQ.eval ?_
      simp [hkl']
      refine hQ _ _ ?_
      clear hQ hA
      repeat (first | refine WK.seq ?_ | refine WK.block ?_ | refine WK.inBlock ?_ | refine WK.skip ?_ | refine WK.label ?_ | refine WK.scope ?_ | refine WK.inScope ?_ | refine WK.exit rfl ?_)
      refine WK.retB Try.func95 (by simp (maxDischargeDepth := 120) [Try.results95]) (by simp) rfl (.inr ⟨_, rfl⟩)
end Go.Proofs.Ytbncoeoamjcjjaa
end
