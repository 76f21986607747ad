/- Rows of actions: blocks turned round, and merged. -/
import Derived.Test.YtbncoeoamjcjjaaWk3
set_option linter.all false
set_option linter.unnecessarySimpa false
set_option linter.unusedVariables false
set_option linter.unusedSimpArgs false
namespace Go.Proofs.Ytbncoeoamjcjjaa
open Go Go.AI Go.Proofs

set_option maxHeartbeats 2000000 in
theorem rotA_c (L : List Action) (cp : Int → Int → Int) (fid : Nat) (caps : List AV) (n : Nat) (f : Nat → Int) (a m b : Nat) (hcl : ClL caps = true) (hn : n ≤ 1000000) (h1 : a < m) (h2 : m < b) (h3 : b ≤ n) :
    FnB Try.prog 218 [.msl 0 0 n, .int .i64 a, .int .i64 m, .int .i64 b, .fn fid caps] (.buf 11 (roA L f n)) (.tup []) (.buf 11 (roA L (rotF f a m b) n)) := by
  obtain ⟨i0, hi0⟩ : ∃ i0, i0 = m - a := ⟨_, rfl⟩
  obtain ⟨j0, hj0⟩ : ∃ j0, j0 = b - m := ⟨_, rfl⟩
  have w1 : IntKind.i64.wrap ((m : Int) - a) = i0 := by rw [wrap_i64 (by omega) (by omega)]; omega
  have w2 : IntKind.i64.wrap ((b : Int) - m) = j0 := by rw [wrap_i64 (by omega) (by omega)]; omega
  have e0 : rotF f (m - i0) m (m + j0) = rotF f a m b := by rw [show m - i0 = a by omega, show m + j0 = b by omega]
  refine FnB.intro Try.func218 rfl rfl fun G w l => ?_
  repeat (first | refine WK.seq ?_ | refine WK.block ?_ | refine WK.inBlock ?_ | refine WK.skip ?_ | refine WK.label ?_ | refine WK.scope ?_ | refine WK.inScope ?_ | refine WK.exit rfl ?_)
  first | refine WK.reg 100 Try.ntmps218 (by kernel_rfl) ?_ | refine WK.regD 100 clsOf (by kernel_rfl) Try.ntmps218 (by kernel_rfl) (by kernel_rfl) ?_
  intro A hA Q hQ
  simp [w1]
  refine hQ _ _ ?_
  clear hQ hA
  repeat (first | refine WK.seq ?_ | refine WK.block ?_ | refine WK.inBlock ?_ | refine WK.skip ?_ | refine WK.label ?_ | refine WK.scope ?_ | refine WK.inScope ?_ | refine WK.exit rfl ?_)
  first | refine WK.reg 200 Try.ntmps218 (by kernel_rfl) ?_ | refine WK.regD 200 clsOf (by kernel_rfl) Try.ntmps218 (by kernel_rfl) (by kernel_rfl) ?_
  intro A hA Q hQ
  simp [w2]
  refine hQ _ _ ?_
  clear hQ hA
  repeat (first | refine WK.seq ?_ | refine WK.block ?_ | refine WK.inBlock ?_ | refine WK.skip ?_ | refine WK.label ?_ | refine WK.scope ?_ | refine WK.inScope ?_ | refine WK.exit rfl ?_)
  refine WK.loopI (fun n => n) (fun p : Nat × Nat × (Nat → Int) => (⟨(upd (upd (upd (upd (upd (upd (upd J 0 (.msl 0 0 n)) 1 (.int .i64 a)) 2 (.int .i64 m)) 3 (.int .i64 b)) 4 (.fn fid caps)) 10 (.int .i64 p.1)) 11 (.int .i64 p.2.1)), (upd B0 0 (.buf 11 (roA L p.2.2 n))), 0⟩ : St)) (fun p => 1 ≤ p.1 ∧ 1 ≤ p.2.1 ∧ p.1 ≤ m ∧ m + p.2.1 ≤ n ∧ rotF p.2.2 (m - p.1) m (m + p.2.1) = rotF f a m b) (fun p => p.1 + p.2.1) ((i0, j0, f)) (by repeat (first | exact TmW.nil | refine TmW.upd ?_ (by simp (maxDischargeDepth := 120) [hcl]))) (by repeat (first | exact BxW.nil | refine BxW.upd ?_ (by simp (maxDischargeDepth := 120) [hcl]))) (by first | exact InjW.id | exact InjW.nil | exact InjW.one | exact InjW.two (by simp) | exact InjW.three (by simp) (by simp) (by simp)) (⟨by dsimp only; omega, by dsimp only; omega, by dsimp only; omega, by dsimp only; omega, e0⟩) (fun p hp IHp => ?_)
  obtain ⟨i, j, g⟩ := p
  obtain ⟨i1, i2, i3, i4, i5⟩ := hp
  dsimp only at i1 i2 i3 i4 i5 IHp ⊢
  obtain ⟨s, hs⟩ : ∃ s, s = m - i := ⟨_, rfl⟩
  have w3 : IntKind.i64.wrap ((m : Int) - i) = s := by rw [wrap_i64 (by omega) (by omega)]; omega
  repeat (first | refine WK.seq ?_ | refine WK.block ?_ | refine WK.inBlock ?_ | refine WK.skip ?_ | refine WK.label ?_ | refine WK.scope ?_ | refine WK.inScope ?_ | refine WK.exit rfl ?_)
  first | refine WK.reg 300 Try.ntmps218 (by kernel_rfl) ?_ | refine WK.regD 300 clsOf (by kernel_rfl) Try.ntmps218 (by kernel_rfl) (by kernel_rfl) ?_
  intro A hA Q hQ
  simp
  refine hQ _ _ ?_
  clear hQ hA
  repeat (first | refine WK.seq ?_ | refine WK.block ?_ | refine WK.inBlock ?_ | refine WK.skip ?_ | refine WK.label ?_ | refine WK.scope ?_ | refine WK.inScope ?_ | refine WK.exit rfl ?_)
  refine WK.cond2 rfl (fun hne => ?_) (fun hne => ?_)
  · simp at hne
    repeat (first | refine WK.seq ?_ | refine WK.block ?_ | refine WK.inBlock ?_ | refine WK.skip ?_ | refine WK.label ?_ | refine WK.scope ?_ | refine WK.inScope ?_ | refine WK.exit rfl ?_)
    first | refine WK.reg 400 Try.ntmps218 (by kernel_rfl) ?_ | refine WK.regD 400 clsOf (by kernel_rfl) Try.ntmps218 (by kernel_rfl) (by kernel_rfl) ?_
    intro A hA Q hQ
    simp
    refine hQ _ _ ?_
    clear hQ hA
    repeat (first | refine WK.seq ?_ | refine WK.block ?_ | refine WK.inBlock ?_ | refine WK.skip ?_ | refine WK.label ?_ | refine WK.scope ?_ | refine WK.inScope ?_ | refine WK.exit rfl ?_)
    refine WK.cond2 rfl (fun hgt => ?_) (fun hgt => ?_)
    · simp at hgt
      have hlt : j < i := by omega
      have w4 : IntKind.i64.wrap ((i : Int) - j) = (i - j : Nat) := by rw [wrap_i64 (by omega) (by omega)]; omega
      have e1 := rot_one g i j m hlt i3
      rw [i5, ← hs] at e1
      repeat (first | refine WK.seq ?_ | refine WK.block ?_ | refine WK.inBlock ?_ | refine WK.skip ?_ | refine WK.label ?_ | refine WK.scope ?_ | refine WK.inScope ?_ | refine WK.exit rfl ?_)
      first | refine WK.reg 500 Try.ntmps218 (by kernel_rfl) ?_ | refine WK.regD 500 clsOf (by kernel_rfl) Try.ntmps218 (by kernel_rfl) (by kernel_rfl) ?_
      intro A hA Q hQ
      simp [w3, hcl]
      refine RunQ.callB 0 rfl rfl rfl (by simp [hcl]) (by rfl) (swapA_c L cp fid caps n g s m j hcl hn (by omega) (by omega)) (by simp (maxDischargeDepth := 120) [hcl]) (by simp (maxDischargeDepth := 120) [hcl]) rfl rfl (by simp [hcl]) (by simp [hcl]) ?_
      refine RunQ.eval ?_
      simp [hcl]
      refine hQ _ _ ?_
      clear hQ hA
      repeat (first | refine WK.seq ?_ | refine WK.block ?_ | refine WK.inBlock ?_ | refine WK.skip ?_ | refine WK.label ?_ | refine WK.scope ?_ | refine WK.inScope ?_ | refine WK.exit rfl ?_)
      first | refine WK.reg 600 Try.ntmps218 (by kernel_rfl) ?_ | refine WK.regD 600 clsOf (by kernel_rfl) Try.ntmps218 (by kernel_rfl) (by kernel_rfl) ?_
      intro A hA Q hQ
      simp [w4]
      refine hQ _ _ ?_
      clear hQ hA
      repeat (first | refine WK.seq ?_ | refine WK.block ?_ | refine WK.inBlock ?_ | refine WK.skip ?_ | refine WK.label ?_ | refine WK.scope ?_ | refine WK.inScope ?_ | refine WK.exit rfl ?_)
      refine WK.next (fun n => n) (IHp ((i - j, j, swF g s m j)) (show _ ∧ _ ∧ _ ∧ _ ∧ _ from ⟨by dsimp only; omega, i2, by dsimp only; omega, i4, e1⟩) (by first | omega | (dsimp only; omega))) (by repeat (first | exact TmW.nil | refine TmW.upd ?_ (by simp (maxDischargeDepth := 120) [hcl]))) (by repeat (first | exact BxW.nil | refine BxW.upd ?_ (by simp (maxDischargeDepth := 120) [hcl]))) (by first | exact InjW.id | exact InjW.nil | exact InjW.one | exact InjW.two (by simp) | exact InjW.three (by simp) (by simp) (by simp))
    · simp at hgt
      have hlt : i < j := by omega
      obtain ⟨q, hq⟩ : ∃ q, q = m + j - i := ⟨_, rfl⟩
      have w4 : IntKind.i64.wrap ((j : Int) - i) = (j - i : Nat) := by rw [wrap_i64 (by omega) (by omega)]; omega
      have w5 : IntKind.i64.wrap ((m : Int) + j) = (m + j : Nat) := by rw [wrap_i64 (by omega) (by omega)]; omega
      have w6 : IntKind.i64.wrap (((m : Int) + j) - i) = q := by rw [wrap_i64 (by omega) (by omega)]; omega
      have e1 := rot_two g i j m hlt i3
      rw [i5, ← hs, ← hq] at e1
      rw [← hs] at i5
      repeat (first | refine WK.seq ?_ | refine WK.block ?_ | refine WK.inBlock ?_ | refine WK.skip ?_ | refine WK.label ?_ | refine WK.scope ?_ | refine WK.inScope ?_ | refine WK.exit rfl ?_)
      first | refine WK.reg 700 Try.ntmps218 (by kernel_rfl) ?_ | refine WK.regD 700 clsOf (by kernel_rfl) Try.ntmps218 (by kernel_rfl) (by kernel_rfl) ?_
      intro A hA Q hQ
      simp [w3, w5, w6, hcl]
      refine RunQ.callB 0 rfl rfl rfl (by simp [hcl]) (by rfl) (swapA_c L cp fid caps n g s q i hcl hn (by omega) (by omega)) (by simp (maxDischargeDepth := 120) [hcl]) (by simp (maxDischargeDepth := 120) [hcl]) rfl rfl (by simp [hcl]) (by simp [hcl]) ?_
      refine RunQ.eval ?_
      simp [hcl]
      refine hQ _ _ ?_
      clear hQ hA
      repeat (first | refine WK.seq ?_ | refine WK.block ?_ | refine WK.inBlock ?_ | refine WK.skip ?_ | refine WK.label ?_ | refine WK.scope ?_ | refine WK.inScope ?_ | refine WK.exit rfl ?_)
      first | refine WK.reg 800 Try.ntmps218 (by kernel_rfl) ?_ | refine WK.regD 800 clsOf (by kernel_rfl) Try.ntmps218 (by kernel_rfl) (by kernel_rfl) ?_
      intro A hA Q hQ
      simp [w4]
      refine hQ _ _ ?_
      clear hQ hA
      repeat (first | refine WK.seq ?_ | refine WK.block ?_ | refine WK.inBlock ?_ | refine WK.skip ?_ | refine WK.label ?_ | refine WK.scope ?_ | refine WK.inScope ?_ | refine WK.exit rfl ?_)
      refine WK.next (fun n => n) (IHp ((i, j - i, swF g s q i)) (show _ ∧ _ ∧ _ ∧ _ ∧ _ from ⟨i1, by dsimp only; omega, i3, by dsimp only; omega, by dsimp only; rw [← hs]; exact e1⟩) (by first | omega | (dsimp only; omega))) (by repeat (first | exact TmW.nil | refine TmW.upd ?_ (by simp (maxDischargeDepth := 120) [hcl]))) (by repeat (first | exact BxW.nil | refine BxW.upd ?_ (by simp (maxDischargeDepth := 120) [hcl]))) (by first | exact InjW.id | exact InjW.nil | exact InjW.one | exact InjW.two (by simp) | exact InjW.three (by simp) (by simp) (by simp))
  · simp at hne
    have hij : i = j := by omega
    subst hij
    have e1 := rot_eq g i m i3
    rw [i5, ← hs] at e1
    repeat (first | refine WK.seq ?_ | refine WK.block ?_ | refine WK.inBlock ?_ | refine WK.skip ?_ | refine WK.label ?_ | refine WK.scope ?_ | refine WK.inScope ?_ | refine WK.exit rfl ?_)
    first | refine WK.reg 900 Try.ntmps218 (by kernel_rfl) ?_ | refine WK.regD 900 clsOf (by kernel_rfl) Try.ntmps218 (by kernel_rfl) (by kernel_rfl) ?_
    intro A hA Q hQ
    simp [w3, hcl]
    refine RunQ.callB 0 rfl rfl rfl (by simp [hcl]) (by rfl) (swapA_c L cp fid caps n g s m i hcl hn (by omega) (by omega)) (by simp (maxDischargeDepth := 120) [hcl]) (by simp (maxDischargeDepth := 120) [hcl]) rfl rfl (by simp [hcl]) (by simp [hcl]) ?_
    refine RunQ.eval ?_
    simp [hcl]
    refine hQ _ _ ?_
    clear hQ hA
    repeat (first | refine WK.seq ?_ | refine WK.block ?_ | refine WK.inBlock ?_ | refine WK.skip ?_ | refine WK.label ?_ | refine WK.scope ?_ | refine WK.inScope ?_ | refine WK.exit rfl ?_)
    refine WK.retB Try.func218 (by simp (maxDischargeDepth := 120) [Try.results218, e1]) (by simp [e1]) rfl (.inl rfl)
abbrev SymBA (L : List Action) (cp : Int → Int → Int) (fid : Nat) (caps : List AV) (n : Nat) (f g : Nat → Int) (a m b : Nat) : Prop :=
  FnB Try.prog 189 [.msl 0 0 n, .int .i64 a, .int .i64 m, .int .i64 b, .fn fid caps] (.buf 11 (roA L f n)) (.tup []) (.buf 11 (roA L g n))
set_option maxHeartbeats 4000000 in
theorem symAA_c (L : List Action) (cp : Int → Int → Int) (fid : Nat) (caps : List AV) (k : Int → Int) (n : Nat) (hcl : ClL caps = true) (hn : n ≤ 1000000) (hf : CmpA L cp fid caps k n)
    (a m b : Nat) (f : Nat → Int) (hm : m = a + 1) (h : Pre k f n a m b) : ∃ g, Good k f g a b ∧ SymBA L cp fid caps n f g a m b := by
  obtain ⟨s, s1, s2, s3, s4, hG⟩ := mergeA' hm h
  refine ⟨_, hG, ?_⟩
  have am := h.am
  have mb := h.mb
  have bn := h.bn
  have ra := h.rng a (Nat.le_refl _) (by omega)
  have w1 : IntKind.i64.wrap ((m : Int) - a) = 1 := by rw [wrap_i64 (by omega) (by omega)]; omega
  have l2 : a < n := by omega
  have g2 := roA_sub L f n a l2
  have Bg2 : a * 11 + 11 ≤ n * 11 := by omega
  have hz := mvR_zero f a
  obtain ⟨s', hs'⟩ : ∃ s', s' = s - 1 := ⟨_, rfl⟩
  have w5 : IntKind.i64.wrap ((s : Int) - 1) = s' := by rw [wrap_i64 (by omega) (by omega)]; omega
  unfold SymBA
  refine FnB.intro Try.func189 rfl rfl fun G w l => ?_
  repeat (first | refine WK.seq ?_ | refine WK.block ?_ | refine WK.inBlock ?_ | refine WK.skip ?_ | refine WK.label ?_ | refine WK.scope ?_ | refine WK.inScope ?_ | refine WK.exit rfl ?_)
  first | refine WK.reg 100 Try.ntmps189 (by kernel_rfl) ?_ | refine WK.regD 100 clsOf (by kernel_rfl) Try.ntmps189 (by kernel_rfl) (by kernel_rfl) ?_
  intro A hA Q hQ
  simp [w1]
  refine hQ _ _ ?_
  clear hQ hA
  repeat (first | refine WK.seq ?_ | refine WK.block ?_ | refine WK.inBlock ?_ | refine WK.skip ?_ | refine WK.label ?_ | refine WK.scope ?_ | refine WK.inScope ?_ | refine WK.exit rfl ?_)
  refine WK.cond2 rfl (fun h0 => ?_) (fun h0 => ?_)
  · repeat (first | refine WK.seq ?_ | refine WK.block ?_ | refine WK.inBlock ?_ | refine WK.skip ?_ | refine WK.label ?_ | refine WK.scope ?_ | refine WK.inScope ?_ | refine WK.exit rfl ?_)
    first | refine WK.reg 200 Try.ntmps189 (by kernel_rfl) ?_ | refine WK.regD 200 clsOf (by kernel_rfl) Try.ntmps189 (by kernel_rfl) (by kernel_rfl) ?_
    intro A hA Q hQ
    simp
    refine hQ _ _ ?_
    clear hQ hA
    repeat (first | refine WK.seq ?_ | refine WK.block ?_ | refine WK.inBlock ?_ | refine WK.skip ?_ | refine WK.label ?_ | refine WK.scope ?_ | refine WK.inScope ?_ | refine WK.exit rfl ?_)
    first | refine WK.reg 300 Try.ntmps189 (by kernel_rfl) ?_ | refine WK.regD 300 clsOf (by kernel_rfl) Try.ntmps189 (by kernel_rfl) (by kernel_rfl) ?_
    intro A hA Q hQ
    simp
    refine hQ _ _ ?_
    clear hQ hA
    repeat (first | refine WK.seq ?_ | refine WK.block ?_ | refine WK.inBlock ?_ | refine WK.skip ?_ | refine WK.label ?_ | refine WK.scope ?_ | refine WK.inScope ?_ | refine WK.exit rfl ?_)
    refine WK.loopI (fun n => n) (fun p : Nat × Nat => (⟨(upd (upd (upd (upd (upd (upd (upd J 0 (.msl 0 0 n)) 1 (.int .i64 a)) 2 (.int .i64 m)) 3 (.int .i64 b)) 4 (.fn fid caps)) 10 (.int .i64 p.1)) 11 (.int .i64 p.2)), (upd B0 0 (.buf 11 (roA L f n))), 0⟩ : St)) (fun p => m ≤ p.1 ∧ p.1 ≤ s ∧ s ≤ p.2 ∧ p.2 ≤ b) (fun p => p.2 - p.1) ((m, b)) (by repeat (first | exact TmW.nil | refine TmW.upd ?_ (by simp (maxDischargeDepth := 120) [hcl]))) (by repeat (first | exact BxW.nil | refine BxW.upd ?_ (by simp (maxDischargeDepth := 120) [hcl]))) (by first | exact InjW.id | exact InjW.nil | exact InjW.one | exact InjW.two (by simp) | exact InjW.three (by simp) (by simp) (by simp)) (⟨Nat.le_refl _, s1, s2, Nat.le_refl _⟩) (fun p hp IHp => ?_)
    obtain ⟨i, j⟩ := p
    obtain ⟨i1, i2, i3, i4⟩ := hp
    dsimp only at i1 i2 i3 i4 IHp ⊢
    repeat (first | refine WK.seq ?_ | refine WK.block ?_ | refine WK.inBlock ?_ | refine WK.skip ?_ | refine WK.label ?_ | refine WK.scope ?_ | refine WK.inScope ?_ | refine WK.exit rfl ?_)
    first | refine WK.reg 400 Try.ntmps189 (by kernel_rfl) ?_ | refine WK.regD 400 clsOf (by kernel_rfl) Try.ntmps189 (by kernel_rfl) (by kernel_rfl) ?_
    intro A hA Q hQ
    simp
    refine hQ _ _ ?_
    clear hQ hA
    repeat (first | refine WK.seq ?_ | refine WK.block ?_ | refine WK.inBlock ?_ | refine WK.skip ?_ | refine WK.label ?_ | refine WK.scope ?_ | refine WK.inScope ?_ | refine WK.exit rfl ?_)
    refine WK.cond2 rfl (fun hlt => ?_) (fun hlt => ?_)
    · simp at hlt
      obtain ⟨c, hc⟩ : ∃ c, c = (i + j) / 2 := ⟨_, rfl⟩
      have v1 : IntKind.i64.wrap ((i : Int) + j) = i + j := wrap_i64 (by omega) (by omega)
      have v2 : IntKind.u64.wrap ((i : Int) + j) = i + j := wrap_u64i (by omega) (by omega)
      have v3 := half_eq i j c hc
      have v4 : IntKind.i64.wrap (c : Int) = c := wrap_i64 (by omega) (by omega)
      have v5 : IntKind.i64.wrap ((c : Int) + 1) = c + 1 := wrap_i64 (by omega) (by omega)
      have l1 : c < n := by omega
      have g1 := roA_sub L f n c l1
      have Bg1 : c * 11 + 11 ≤ n * 11 := by omega
      have rc := h.rng c (by omega) (by omega)
      have hcc := hf.neg (f c) (f a)
      repeat (first | refine WK.seq ?_ | refine WK.block ?_ | refine WK.inBlock ?_ | refine WK.skip ?_ | refine WK.label ?_ | refine WK.scope ?_ | refine WK.inScope ?_ | refine WK.exit rfl ?_)
      first | refine WK.reg 500 Try.ntmps189 (by kernel_rfl) ?_ | refine WK.regD 500 clsOf (by kernel_rfl) Try.ntmps189 (by kernel_rfl) (by kernel_rfl) ?_
      intro A hA Q hQ
      simp [v1, v2, v3, v4]
      refine hQ _ _ ?_
      clear hQ hA
      repeat (first | refine WK.seq ?_ | refine WK.block ?_ | refine WK.inBlock ?_ | refine WK.skip ?_ | refine WK.label ?_ | refine WK.scope ?_ | refine WK.inScope ?_ | refine WK.exit rfl ?_)
      first | refine WK.reg 600 Try.ntmps189 (by kernel_rfl) ?_ | refine WK.regD 600 (clsM [(44, 0), (48, 0)]) (by kernel_rfl) Try.ntmps189 (by kernel_rfl) (by kernel_rfl) ?_
      intro A hA Q hQ
      simp [g1, g2, l1, l2, Bg1, Bg2]
      refine RunQ.call rfl rfl rfl rfl (by rfl) (by simp (maxDischargeDepth := 120) [hcl, hcc]) (hf.c (f c) (f a) rc ra) (by simp [hcl, hcc]) ?_
      refine RunQ.eval ?_
      simp [hcl, hcc]
      refine hQ _ _ ?_
      clear hQ hA
      repeat (first | refine WK.seq ?_ | refine WK.block ?_ | refine WK.inBlock ?_ | refine WK.skip ?_ | refine WK.label ?_ | refine WK.scope ?_ | refine WK.inScope ?_ | refine WK.exit rfl ?_)
      refine WK.cond2 rfl (fun hx => ?_) (fun hx => ?_)
      · have hx' : k (f a) < k (f c) := of_decide_eq_true hx
        have hcs : c < s := by
          by_cases e : c < s
          · exact e
          · exact absurd hx' (s4 c (by omega) (by omega))
        repeat (first | refine WK.seq ?_ | refine WK.block ?_ | refine WK.inBlock ?_ | refine WK.skip ?_ | refine WK.label ?_ | refine WK.scope ?_ | refine WK.inScope ?_ | refine WK.exit rfl ?_)
        first | refine WK.reg 700 Try.ntmps189 (by kernel_rfl) ?_ | refine WK.regD 700 clsOf (by kernel_rfl) Try.ntmps189 (by kernel_rfl) (by kernel_rfl) ?_
        intro A hA Q hQ
        simp [v5]
        refine hQ _ _ ?_
        clear hQ hA
        repeat (first | refine WK.seq ?_ | refine WK.block ?_ | refine WK.inBlock ?_ | refine WK.skip ?_ | refine WK.label ?_ | refine WK.scope ?_ | refine WK.inScope ?_ | refine WK.exit rfl ?_)
        refine WK.next (fun n => n) (IHp ((c + 1, j)) (show _ ∧ _ ∧ _ ∧ _ from ⟨by dsimp only; omega, hcs, i3, i4⟩) (by first | omega | (dsimp only; omega))) (by repeat (first | exact TmW.nil | refine TmW.upd ?_ (by simp (maxDischargeDepth := 120) [hcl]))) (by repeat (first | exact BxW.nil | refine BxW.upd ?_ (by simp (maxDischargeDepth := 120) [hcl]))) (by first | exact InjW.id | exact InjW.nil | exact InjW.one | exact InjW.two (by simp) | exact InjW.three (by simp) (by simp) (by simp))
      · have hx' : ¬ k (f a) < k (f c) := of_decide_eq_false hx
        have hcs : s ≤ c := by
          by_cases e : c < s
          · exact absurd (s3 c (by omega) e) hx'
          · omega
        repeat (first | refine WK.seq ?_ | refine WK.block ?_ | refine WK.inBlock ?_ | refine WK.skip ?_ | refine WK.label ?_ | refine WK.scope ?_ | refine WK.inScope ?_ | refine WK.exit rfl ?_)
        first | refine WK.reg 800 Try.ntmps189 (by kernel_rfl) ?_ | refine WK.regD 800 clsOf (by kernel_rfl) Try.ntmps189 (by kernel_rfl) (by kernel_rfl) ?_
        intro A hA Q hQ
        simp
        refine hQ _ _ ?_
        clear hQ hA
        repeat (first | refine WK.seq ?_ | refine WK.block ?_ | refine WK.inBlock ?_ | refine WK.skip ?_ | refine WK.label ?_ | refine WK.scope ?_ | refine WK.inScope ?_ | refine WK.exit rfl ?_)
        refine WK.next (fun n => n) (IHp ((i, c)) (show _ ∧ _ ∧ _ ∧ _ from ⟨i1, i2, hcs, by dsimp only; omega⟩) (by first | omega | (dsimp only; omega))) (by repeat (first | exact TmW.nil | refine TmW.upd ?_ (by simp (maxDischargeDepth := 120) [hcl]))) (by repeat (first | exact BxW.nil | refine BxW.upd ?_ (by simp (maxDischargeDepth := 120) [hcl]))) (by first | exact InjW.id | exact InjW.nil | exact InjW.one | exact InjW.two (by simp) | exact InjW.three (by simp) (by simp) (by simp))
    · simp at hlt
      have e1 : i = s := by omega
      subst e1
      repeat (first | refine WK.seq ?_ | refine WK.block ?_ | refine WK.inBlock ?_ | refine WK.skip ?_ | refine WK.label ?_ | refine WK.scope ?_ | refine WK.inScope ?_ | refine WK.exit rfl ?_)
      first | refine WK.reg 900 Try.ntmps189 (by kernel_rfl) ?_ | refine WK.regD 900 clsOf (by kernel_rfl) Try.ntmps189 (by kernel_rfl) (by kernel_rfl) ?_
      intro A hA Q hQ
      simp
      refine hQ _ _ ?_
      clear hQ hA
      repeat (first | refine WK.seq ?_ | refine WK.block ?_ | refine WK.inBlock ?_ | refine WK.skip ?_ | refine WK.label ?_ | refine WK.scope ?_ | refine WK.inScope ?_ | refine WK.exit rfl ?_)
      refine WK.loopI (fun n => n) (fun q : Nat => (⟨(upd (upd (upd (upd (upd (upd (upd J 0 (.msl 0 0 n)) 1 (.int .i64 a)) 2 (.int .i64 m)) 3 (.int .i64 b)) 4 (.fn fid caps)) 10 (.int .i64 i)) 13 (.int .i64 q)), (upd B0 0 (.buf 11 (roA L (mvR f a (q + 1)) n))), 0⟩ : St)) (fun q => a ≤ q ∧ q + 1 ≤ i) (fun q => i - q) (a) (by repeat (first | exact TmW.nil | refine TmW.upd ?_ (by simp (maxDischargeDepth := 120) [hcl, hz]))) (by repeat (first | exact BxW.nil | refine BxW.upd ?_ (by simp (maxDischargeDepth := 120) [hcl, hz]))) (by first | exact InjW.id | exact InjW.nil | exact InjW.one | exact InjW.two (by simp) | exact InjW.three (by simp) (by simp) (by simp)) (⟨Nat.le_refl _, by omega⟩) (fun q hq IHq => ?_)
      repeat (first | refine WK.seq ?_ | refine WK.block ?_ | refine WK.inBlock ?_ | refine WK.skip ?_ | refine WK.label ?_ | refine WK.scope ?_ | refine WK.inScope ?_ | refine WK.exit rfl ?_)
      first | refine WK.reg 1000 Try.ntmps189 (by kernel_rfl) ?_ | refine WK.regD 1000 clsOf (by kernel_rfl) Try.ntmps189 (by kernel_rfl) (by kernel_rfl) ?_
      intro A hA Q hQ
      simp [w5]
      refine hQ _ _ ?_
      clear hQ hA
      repeat (first | refine WK.seq ?_ | refine WK.block ?_ | refine WK.inBlock ?_ | refine WK.skip ?_ | refine WK.label ?_ | refine WK.scope ?_ | refine WK.inScope ?_ | refine WK.exit rfl ?_)
      refine WK.cond2 rfl (fun hlt2 => ?_) (fun hlt2 => ?_)
      · simp at hlt2
        have l3 : q < n := by omega
        have l4 : q + 1 < n := by omega
        have v6 : IntKind.i64.wrap ((q : Int) + 1) = q + 1 := wrap_i64 (by omega) (by omega)
        have x1 := mvR_at f a q
        have x2 := mvR_at1 f a q
        have g3 := roA_sub L (mvR f a (q + 1)) n q l3
        have Bg3 : q * 11 + 11 ≤ n * 11 := by omega
        have g4 := roA_sub L (mvR f a (q + 1)) n (q + 1) l4
        have Bg4 : (q + 1) * 11 + 11 ≤ n * 11 := by omega
        have x3 := mvR_succ f a q hq.1
        have t1 := roA_set L (mvR f a (q + 1)) n q (f (q + 1)) l3
        have t2 := roA_set L (setF (mvR f a (q + 1)) q (f (q + 1))) n (q + 1) (f a) l4
        have c1 : (0 : Int) ≤ (q : Int) + 1 := by omega
        have c2 : (q : Int) + 1 < n := by omega
        have c3 : ((q : Int) + 1).toNat = q + 1 := by omega
        have c4 : q + 1 ≤ n := by omega
        have c5 : q + 1 + 1 ≤ n := by omega
        repeat (first | refine WK.seq ?_ | refine WK.block ?_ | refine WK.inBlock ?_ | refine WK.skip ?_ | refine WK.label ?_ | refine WK.scope ?_ | refine WK.inScope ?_ | refine WK.exit rfl ?_)
        first | refine WK.reg 1100 Try.ntmps189 (by kernel_rfl) ?_ | refine WK.regD 1100 (clsM [(70, 0), (74, 0), (75, 0), (76, 0)]) (by kernel_rfl) Try.ntmps189 (by kernel_rfl) (by kernel_rfl) ?_
        intro A hA Q hQ
        simp [v6, g3, g4, l3, l4, x1, x2, x3, t1, t2, c1, c2, c3, c4, c5, Bg3, Bg4]
        refine hQ _ _ ?_
        clear hQ hA
        repeat (first | refine WK.seq ?_ | refine WK.block ?_ | refine WK.inBlock ?_ | refine WK.skip ?_ | refine WK.label ?_ | refine WK.scope ?_ | refine WK.inScope ?_ | refine WK.exit rfl ?_)
        first | refine WK.reg 1200 Try.ntmps189 (by kernel_rfl) ?_ | refine WK.regD 1200 clsOf (by kernel_rfl) Try.ntmps189 (by kernel_rfl) (by kernel_rfl) ?_
        intro A hA Q hQ
        simp [v6]
        refine hQ _ _ ?_
        clear hQ hA
        repeat (first | refine WK.seq ?_ | refine WK.block ?_ | refine WK.inBlock ?_ | refine WK.skip ?_ | refine WK.label ?_ | refine WK.scope ?_ | refine WK.inScope ?_ | refine WK.exit rfl ?_)
        refine WK.next (fun n => n) (IHq (q + 1) (⟨by omega, by omega⟩) (by first | omega | (dsimp only; omega))) (by repeat (first | exact TmW.nil | refine TmW.upd ?_ (by simp (maxDischargeDepth := 120) [hcl, x3]))) (by repeat (first | exact BxW.nil | refine BxW.upd ?_ (by simp (maxDischargeDepth := 120) [hcl, x3]))) (by first | exact InjW.id | exact InjW.nil | exact InjW.one | exact InjW.two (by simp) | exact InjW.three (by simp) (by simp) (by simp))
      · simp at hlt2
        have e2 : q + 1 = i := by omega
        repeat (first | refine WK.seq ?_ | refine WK.block ?_ | refine WK.inBlock ?_ | refine WK.skip ?_ | refine WK.label ?_ | refine WK.scope ?_ | refine WK.inScope ?_ | refine WK.exit rfl ?_)
        refine WK.retB Try.func189 (by simp (maxDischargeDepth := 120) [Try.results189, e2]) (by simp [e2]) rfl (.inr ⟨_, rfl⟩)
  · cases h0
set_option maxHeartbeats 4000000 in
theorem symBA_c (L : List Action) (cp : Int → Int → Int) (fid : Nat) (caps : List AV) (k : Int → Int) (n : Nat) (hcl : ClL caps = true) (hn : n ≤ 1000000) (hf : CmpA L cp fid caps k n)
    (a m b : Nat) (f : Nat → Int) (hm : ¬ m = a + 1) (hb : b = m + 1) (h : Pre k f n a m b) : ∃ g, Good k f g a b ∧ SymBA L cp fid caps n f g a m b := by
  obtain ⟨s, s1, s2, s3, s4, hG⟩ := mergeB' hb h
  refine ⟨_, hG, ?_⟩
  have am := h.am
  have mb := h.mb
  have bn := h.bn
  have ra := h.rng m (by omega) (by omega)
  have w0 : IntKind.i64.wrap ((m : Int) - a) = (m : Int) - a := by rw [wrap_i64 (by omega) (by omega)]
  have w1 : IntKind.i64.wrap ((b : Int) - m) = 1 := by rw [wrap_i64 (by omega) (by omega)]; omega
  have w2 : decide ((m : Int) - a = 1) = false := decide_eq_false (by omega)
  have l2 : m < n := by omega
  have g2 := roA_sub L f n m l2
  have Bg2 : m * 11 + 11 ≤ n * 11 := by omega
  have hz := mvL_zero f m
  unfold SymBA
  refine FnB.intro Try.func189 rfl rfl fun G w l => ?_
  repeat (first | refine WK.seq ?_ | refine WK.block ?_ | refine WK.inBlock ?_ | refine WK.skip ?_ | refine WK.label ?_ | refine WK.scope ?_ | refine WK.inScope ?_ | refine WK.exit rfl ?_)
  first | refine WK.reg 100 Try.ntmps189 (by kernel_rfl) ?_ | refine WK.regD 100 clsOf (by kernel_rfl) Try.ntmps189 (by kernel_rfl) (by kernel_rfl) ?_
  intro A hA Q hQ
  simp [w0, w2]
  refine hQ _ _ ?_
  clear hQ hA
  repeat (first | refine WK.seq ?_ | refine WK.block ?_ | refine WK.inBlock ?_ | refine WK.skip ?_ | refine WK.label ?_ | refine WK.scope ?_ | refine WK.inScope ?_ | refine WK.exit rfl ?_)
  refine WK.cond2 rfl (fun h0 => ?_) (fun h0 => ?_)
  · simp at h0; omega
  repeat (first | refine WK.seq ?_ | refine WK.block ?_ | refine WK.inBlock ?_ | refine WK.skip ?_ | refine WK.label ?_ | refine WK.scope ?_ | refine WK.inScope ?_ | refine WK.exit rfl ?_)
  first | refine WK.reg 200 Try.ntmps189 (by kernel_rfl) ?_ | refine WK.regD 200 clsOf (by kernel_rfl) Try.ntmps189 (by kernel_rfl) (by kernel_rfl) ?_
  intro A hA Q hQ
  simp [w1]
  refine hQ _ _ ?_
  clear hQ hA
  repeat (first | refine WK.seq ?_ | refine WK.block ?_ | refine WK.inBlock ?_ | refine WK.skip ?_ | refine WK.label ?_ | refine WK.scope ?_ | refine WK.inScope ?_ | refine WK.exit rfl ?_)
  refine WK.cond2 rfl (fun h0 => ?_) (fun h0 => ?_)
  · repeat (first | refine WK.seq ?_ | refine WK.block ?_ | refine WK.inBlock ?_ | refine WK.skip ?_ | refine WK.label ?_ | refine WK.scope ?_ | refine WK.inScope ?_ | refine WK.exit rfl ?_)
    first | refine WK.reg 300 Try.ntmps189 (by kernel_rfl) ?_ | refine WK.regD 300 clsOf (by kernel_rfl) Try.ntmps189 (by kernel_rfl) (by kernel_rfl) ?_
    intro A hA Q hQ
    simp
    refine hQ _ _ ?_
    clear hQ hA
    repeat (first | refine WK.seq ?_ | refine WK.block ?_ | refine WK.inBlock ?_ | refine WK.skip ?_ | refine WK.label ?_ | refine WK.scope ?_ | refine WK.inScope ?_ | refine WK.exit rfl ?_)
    first | refine WK.reg 400 Try.ntmps189 (by kernel_rfl) ?_ | refine WK.regD 400 clsOf (by kernel_rfl) Try.ntmps189 (by kernel_rfl) (by kernel_rfl) ?_
    intro A hA Q hQ
    simp
    refine hQ _ _ ?_
    clear hQ hA
    repeat (first | refine WK.seq ?_ | refine WK.block ?_ | refine WK.inBlock ?_ | refine WK.skip ?_ | refine WK.label ?_ | refine WK.scope ?_ | refine WK.inScope ?_ | refine WK.exit rfl ?_)
    refine WK.loopI (fun n => n) (fun p : Nat × Nat => (⟨(upd (upd (upd (upd (upd (upd (upd J 0 (.msl 0 0 n)) 1 (.int .i64 a)) 2 (.int .i64 m)) 3 (.int .i64 b)) 4 (.fn fid caps)) 14 (.int .i64 p.1)) 15 (.int .i64 p.2)), (upd B0 0 (.buf 11 (roA L f n))), 0⟩ : St)) (fun p => a ≤ p.1 ∧ p.1 ≤ s ∧ s ≤ p.2 ∧ p.2 ≤ m) (fun p => p.2 - p.1) ((a, m)) (by repeat (first | exact TmW.nil | refine TmW.upd ?_ (by simp (maxDischargeDepth := 120) [hcl]))) (by repeat (first | exact BxW.nil | refine BxW.upd ?_ (by simp (maxDischargeDepth := 120) [hcl]))) (by first | exact InjW.id | exact InjW.nil | exact InjW.one | exact InjW.two (by simp) | exact InjW.three (by simp) (by simp) (by simp)) (⟨Nat.le_refl _, s1, s2, Nat.le_refl _⟩) (fun p hp IHp => ?_)
    obtain ⟨i, j⟩ := p
    obtain ⟨i1, i2, i3, i4⟩ := hp
    dsimp only at i1 i2 i3 i4 IHp ⊢
    repeat (first | refine WK.seq ?_ | refine WK.block ?_ | refine WK.inBlock ?_ | refine WK.skip ?_ | refine WK.label ?_ | refine WK.scope ?_ | refine WK.inScope ?_ | refine WK.exit rfl ?_)
    first | refine WK.reg 500 Try.ntmps189 (by kernel_rfl) ?_ | refine WK.regD 500 clsOf (by kernel_rfl) Try.ntmps189 (by kernel_rfl) (by kernel_rfl) ?_
    intro A hA Q hQ
    simp
    refine hQ _ _ ?_
    clear hQ hA
    repeat (first | refine WK.seq ?_ | refine WK.block ?_ | refine WK.inBlock ?_ | refine WK.skip ?_ | refine WK.label ?_ | refine WK.scope ?_ | refine WK.inScope ?_ | refine WK.exit rfl ?_)
    refine WK.cond2 rfl (fun hlt => ?_) (fun hlt => ?_)
    · simp at hlt
      obtain ⟨c, hc⟩ : ∃ c, c = (i + j) / 2 := ⟨_, rfl⟩
      have v1 : IntKind.i64.wrap ((i : Int) + j) = i + j := wrap_i64 (by omega) (by omega)
      have v2 : IntKind.u64.wrap ((i : Int) + j) = i + j := wrap_u64i (by omega) (by omega)
      have v3 := half_eq i j c hc
      have v4 : IntKind.i64.wrap (c : Int) = c := wrap_i64 (by omega) (by omega)
      have v5 : IntKind.i64.wrap ((c : Int) + 1) = c + 1 := wrap_i64 (by omega) (by omega)
      have l1 : c < n := by omega
      have g1 := roA_sub L f n c l1
      have Bg1 : c * 11 + 11 ≤ n * 11 := by omega
      have rc := h.rng c (by omega) (by omega)
      have hcc := hf.neg (f m) (f c)
      repeat (first | refine WK.seq ?_ | refine WK.block ?_ | refine WK.inBlock ?_ | refine WK.skip ?_ | refine WK.label ?_ | refine WK.scope ?_ | refine WK.inScope ?_ | refine WK.exit rfl ?_)
      first | refine WK.reg 600 Try.ntmps189 (by kernel_rfl) ?_ | refine WK.regD 600 clsOf (by kernel_rfl) Try.ntmps189 (by kernel_rfl) (by kernel_rfl) ?_
      intro A hA Q hQ
      simp [v1, v2, v3, v4]
      refine hQ _ _ ?_
      clear hQ hA
      repeat (first | refine WK.seq ?_ | refine WK.block ?_ | refine WK.inBlock ?_ | refine WK.skip ?_ | refine WK.label ?_ | refine WK.scope ?_ | refine WK.inScope ?_ | refine WK.exit rfl ?_)
      first | refine WK.reg 700 Try.ntmps189 (by kernel_rfl) ?_ | refine WK.regD 700 (clsM [(96, 0), (100, 0)]) (by kernel_rfl) Try.ntmps189 (by kernel_rfl) (by kernel_rfl) ?_
      intro A hA Q hQ
      simp [g1, g2, l1, l2, Bg1, Bg2]
      refine RunQ.call rfl rfl rfl rfl (by rfl) (by simp (maxDischargeDepth := 120) [hcl, hcc]) (hf.c (f m) (f c) ra rc) (by simp [hcl, hcc]) ?_
      refine RunQ.eval ?_
      simp [hcl, hcc]
      refine hQ _ _ ?_
      clear hQ hA
      repeat (first | refine WK.seq ?_ | refine WK.block ?_ | refine WK.inBlock ?_ | refine WK.skip ?_ | refine WK.label ?_ | refine WK.scope ?_ | refine WK.inScope ?_ | refine WK.exit rfl ?_)
      refine WK.cond2 rfl (fun hx => ?_) (fun hx => ?_)
      · have hx' : ¬ k (f c) < k (f m) := by simpa using hx
        have hcs : c < s := by
          by_cases e : c < s
          · exact e
          · exact absurd (s4 c (by omega) (by omega)) hx'
        repeat (first | refine WK.seq ?_ | refine WK.block ?_ | refine WK.inBlock ?_ | refine WK.skip ?_ | refine WK.label ?_ | refine WK.scope ?_ | refine WK.inScope ?_ | refine WK.exit rfl ?_)
        first | refine WK.reg 800 Try.ntmps189 (by kernel_rfl) ?_ | refine WK.regD 800 clsOf (by kernel_rfl) Try.ntmps189 (by kernel_rfl) (by kernel_rfl) ?_
        intro A hA Q hQ
        simp [v5]
        refine hQ _ _ ?_
        clear hQ hA
        repeat (first | refine WK.seq ?_ | refine WK.block ?_ | refine WK.inBlock ?_ | refine WK.skip ?_ | refine WK.label ?_ | refine WK.scope ?_ | refine WK.inScope ?_ | refine WK.exit rfl ?_)
        refine WK.next (fun n => n) (IHp ((c + 1, j)) (show _ ∧ _ ∧ _ ∧ _ from ⟨by dsimp only; omega, hcs, i3, i4⟩) (by first | omega | (dsimp only; omega))) (by repeat (first | exact TmW.nil | refine TmW.upd ?_ (by simp (maxDischargeDepth := 120) [hcl]))) (by repeat (first | exact BxW.nil | refine BxW.upd ?_ (by simp (maxDischargeDepth := 120) [hcl]))) (by first | exact InjW.id | exact InjW.nil | exact InjW.one | exact InjW.two (by simp) | exact InjW.three (by simp) (by simp) (by simp))
      · have hx' : k (f c) < k (f m) := by simpa using hx
        have hcs : s ≤ c := by
          by_cases e : c < s
          · exact absurd hx' (s3 c (by omega) e)
          · omega
        repeat (first | refine WK.seq ?_ | refine WK.block ?_ | refine WK.inBlock ?_ | refine WK.skip ?_ | refine WK.label ?_ | refine WK.scope ?_ | refine WK.inScope ?_ | refine WK.exit rfl ?_)
        first | refine WK.reg 900 Try.ntmps189 (by kernel_rfl) ?_ | refine WK.regD 900 clsOf (by kernel_rfl) Try.ntmps189 (by kernel_rfl) (by kernel_rfl) ?_
        intro A hA Q hQ
        simp
        refine hQ _ _ ?_
        clear hQ hA
        repeat (first | refine WK.seq ?_ | refine WK.block ?_ | refine WK.inBlock ?_ | refine WK.skip ?_ | refine WK.label ?_ | refine WK.scope ?_ | refine WK.inScope ?_ | refine WK.exit rfl ?_)
        refine WK.next (fun n => n) (IHp ((i, c)) (show _ ∧ _ ∧ _ ∧ _ from ⟨i1, i2, hcs, by dsimp only; omega⟩) (by first | omega | (dsimp only; omega))) (by repeat (first | exact TmW.nil | refine TmW.upd ?_ (by simp (maxDischargeDepth := 120) [hcl]))) (by repeat (first | exact BxW.nil | refine BxW.upd ?_ (by simp (maxDischargeDepth := 120) [hcl]))) (by first | exact InjW.id | exact InjW.nil | exact InjW.one | exact InjW.two (by simp) | exact InjW.three (by simp) (by simp) (by simp))
    · simp at hlt
      have e1 : i = s := by omega
      subst e1
      repeat (first | refine WK.seq ?_ | refine WK.block ?_ | refine WK.inBlock ?_ | refine WK.skip ?_ | refine WK.label ?_ | refine WK.scope ?_ | refine WK.inScope ?_ | refine WK.exit rfl ?_)
      first | refine WK.reg 1000 Try.ntmps189 (by kernel_rfl) ?_ | refine WK.regD 1000 clsOf (by kernel_rfl) Try.ntmps189 (by kernel_rfl) (by kernel_rfl) ?_
      intro A hA Q hQ
      simp
      refine hQ _ _ ?_
      clear hQ hA
      repeat (first | refine WK.seq ?_ | refine WK.block ?_ | refine WK.inBlock ?_ | refine WK.skip ?_ | refine WK.label ?_ | refine WK.scope ?_ | refine WK.inScope ?_ | refine WK.exit rfl ?_)
      refine WK.loopI (fun n => n) (fun q : Nat => (⟨(upd (upd (upd (upd (upd (upd (upd J 0 (.msl 0 0 n)) 1 (.int .i64 a)) 2 (.int .i64 m)) 3 (.int .i64 b)) 4 (.fn fid caps)) 14 (.int .i64 i)) 17 (.int .i64 q)), (upd B0 0 (.buf 11 (roA L (mvL f m q) n))), 0⟩ : St)) (fun q => i ≤ q ∧ q ≤ m) (fun q => q) (m) (by repeat (first | exact TmW.nil | refine TmW.upd ?_ (by simp (maxDischargeDepth := 120) [hcl, hz]))) (by repeat (first | exact BxW.nil | refine BxW.upd ?_ (by simp (maxDischargeDepth := 120) [hcl, hz]))) (by first | exact InjW.id | exact InjW.nil | exact InjW.one | exact InjW.two (by simp) | exact InjW.three (by simp) (by simp) (by simp)) (⟨by omega, Nat.le_refl _⟩) (fun q hq IHq => ?_)
      repeat (first | refine WK.seq ?_ | refine WK.block ?_ | refine WK.inBlock ?_ | refine WK.skip ?_ | refine WK.label ?_ | refine WK.scope ?_ | refine WK.inScope ?_ | refine WK.exit rfl ?_)
      first | refine WK.reg 1100 Try.ntmps189 (by kernel_rfl) ?_ | refine WK.regD 1100 clsOf (by kernel_rfl) Try.ntmps189 (by kernel_rfl) (by kernel_rfl) ?_
      intro A hA Q hQ
      simp
      refine hQ _ _ ?_
      clear hQ hA
      repeat (first | refine WK.seq ?_ | refine WK.block ?_ | refine WK.inBlock ?_ | refine WK.skip ?_ | refine WK.label ?_ | refine WK.scope ?_ | refine WK.inScope ?_ | refine WK.exit rfl ?_)
      refine WK.cond2 rfl (fun hlt2 => ?_) (fun hlt2 => ?_)
      · simp at hlt2
        obtain ⟨t, rfl⟩ : ∃ t, q = t + 1 := ⟨q - 1, by omega⟩
        have l3 : t < n := by omega
        have l4 : t + 1 < n := by omega
        have v6 : IntKind.i64.wrap (t : Int) = t := wrap_i64 (by omega) (by omega)
        have x1 := mvL_at f m (t + 1)
        have x2 := mvL_at1 f m t
        have g3 := roA_sub L (mvL f m (t + 1)) n t l3
        have Bg3 : t * 11 + 11 ≤ n * 11 := by omega
        have g4 := roA_sub L (mvL f m (t + 1)) n (t + 1) l4
        have Bg4 : (t + 1) * 11 + 11 ≤ n * 11 := by omega
        have x3 := mvL_succ f m t hq.2
        have t1 := roA_set L (mvL f m (t + 1)) n (t + 1) (f t) l4
        have t2 := roA_set L (setF (mvL f m (t + 1)) (t + 1) (f t)) n t (f m) l3
        have c1 : (0 : Int) ≤ (t : Int) + 1 := by omega
        have c2 : (t : Int) + 1 < n := by omega
        have c3 : ((t : Int) + 1).toNat = t + 1 := by omega
        have c4 : t + 1 ≤ n := by omega
        have c5 : t + 1 + 1 ≤ n := by omega
        repeat (first | refine WK.seq ?_ | refine WK.block ?_ | refine WK.inBlock ?_ | refine WK.skip ?_ | refine WK.label ?_ | refine WK.scope ?_ | refine WK.inScope ?_ | refine WK.exit rfl ?_)
        first | refine WK.reg 1200 Try.ntmps189 (by kernel_rfl) ?_ | refine WK.regD 1200 (clsM [(122, 0), (126, 0), (127, 0), (128, 0)]) (by kernel_rfl) Try.ntmps189 (by kernel_rfl) (by kernel_rfl) ?_
        intro A hA Q hQ
        simp [v6, g3, g4, l3, l4, x1, x2, x3, t1, t2, c1, c2, c3, c4, c5, Bg3, Bg4]
        refine hQ _ _ ?_
        clear hQ hA
        repeat (first | refine WK.seq ?_ | refine WK.block ?_ | refine WK.inBlock ?_ | refine WK.skip ?_ | refine WK.label ?_ | refine WK.scope ?_ | refine WK.inScope ?_ | refine WK.exit rfl ?_)
        first | refine WK.reg 1300 Try.ntmps189 (by kernel_rfl) ?_ | refine WK.regD 1300 clsOf (by kernel_rfl) Try.ntmps189 (by kernel_rfl) (by kernel_rfl) ?_
        intro A hA Q hQ
        simp [v6]
        refine hQ _ _ ?_
        clear hQ hA
        repeat (first | refine WK.seq ?_ | refine WK.block ?_ | refine WK.inBlock ?_ | refine WK.skip ?_ | refine WK.label ?_ | refine WK.scope ?_ | refine WK.inScope ?_ | refine WK.exit rfl ?_)
        refine WK.next (fun n => n) (IHq (t) (⟨by omega, by omega⟩) (by first | omega | (dsimp only; omega))) (by repeat (first | exact TmW.nil | refine TmW.upd ?_ (by simp (maxDischargeDepth := 120) [hcl, x3]))) (by repeat (first | exact BxW.nil | refine BxW.upd ?_ (by simp (maxDischargeDepth := 120) [hcl, x3]))) (by first | exact InjW.id | exact InjW.nil | exact InjW.one | exact InjW.two (by simp) | exact InjW.three (by simp) (by simp) (by simp))
      · simp at hlt2
        have e2 : q = i := by omega
        repeat (first | refine WK.seq ?_ | refine WK.block ?_ | refine WK.inBlock ?_ | refine WK.skip ?_ | refine WK.label ?_ | refine WK.scope ?_ | refine WK.inScope ?_ | refine WK.exit rfl ?_)
        refine WK.retB Try.func189 (by simp (maxDischargeDepth := 120) [Try.results189, e2]) (by simp [e2]) rfl (.inr ⟨_, rfl⟩)
  · cases h0
set_option maxHeartbeats 8000000 in
theorem symcA_c (L : List Action) (cp : Int → Int → Int) (fid : Nat) (caps : List AV) (k : Int → Int) (n : Nat) (hcl : ClL caps = true) (hn : n ≤ 1000000) (hf : CmpA L cp fid caps k n) :
    ∀ d a m b (f : Nat → Int), b - a ≤ d → Pre k f n a m b → ∃ g, Good k f g a b ∧ SymBA L cp fid caps n f g a m b := by
  intro d
  induction d with
  | zero => intro a m b f hd h; have := h.am; have := h.mb; omega
  | succ d ih =>
  intro a m b f hd h
  by_cases hA : m = a + 1
  · exact symAA_c L cp fid caps k n hcl hn hf a m b f hA h
  by_cases hB : b = m + 1
  · exact symBA_c L cp fid caps k n hcl hn hf a m b f hA hB h
  have am := h.am
  have mb := h.mb
  have bn := h.bn
  obtain ⟨mid, hmid⟩ : ∃ mid, mid = (a + b) / 2 := ⟨_, rfl⟩
  obtain ⟨S, hS⟩ : ∃ S, S = if mid < m then mid + m - b else a := ⟨_, rfl⟩
  obtain ⟨R, hR⟩ : ∃ R, R = if mid < m then mid else m := ⟨_, rfl⟩
  obtain ⟨s, s1, s2, s3, s4, s5, s6, s7, hlo, hhi, hcc, ho, hv, hcr, r1, r2, r3, r4, p1, p2⟩ := mergeC h hmid hS hR
  have hRn : R ≤ m := by subst hR; split <;> omega
  obtain ⟨e, he⟩ : ∃ e, e = mid + m - s := ⟨_, rfl⟩
  rw [← he] at s6 s7 ho hv hcr r1 r2 r3 r4 p1 p2
  obtain ⟨g1, hg1⟩ : ∃ g1, g1 = rotF f s m e := ⟨_, rfl⟩
  rw [← hg1] at ho hv hcr r1 r2 r3 r4 p1 p2
  have rg : ∀ x, a ≤ x → x < b → 0 ≤ g1 x ∧ g1 x < n := fun x i1 i2 => by
    obtain ⟨y, j1, j2, j3⟩ := hv x i1 i2
    rw [j3]; exact h.rng y j1 j2
  obtain ⟨g2, hG2, hF2⟩ : ∃ g2, Good k g1 g2 a mid ∧ if a < s ∧ s < mid then SymBA L cp fid caps n g1 g2 a s mid else g2 = g1 := by
    by_cases c : a < s ∧ s < mid
    · obtain ⟨g2, i1, i2⟩ := ih a s mid g1 (by omega) ⟨c.1, c.2, by omega, r1, r2, p1, fun x i1 i2 => rg x i1 (by omega)⟩
      exact ⟨g2, i1, by rw [if_pos c]; exact i2⟩
    · refine ⟨g1, good_refl ?_, by rw [if_neg c]⟩
      by_cases c2 : a < s
      · intro x y i1 i2 i3; exact r1 x y i1 i2 (by omega)
      · intro x y i1 i2 i3; exact r2 x y (by omega) i2 i3
  have q2 : ∀ x, mid ≤ x → g2 x = g1 x := fun x hx => hG2.out x (by omega)
  have r3' : Srt k g2 mid e := fun x y i1 i2 i3 => by rw [q2 x i1, q2 y (by omega)]; exact r3 x y i1 i2 i3
  have r4' : Srt k g2 e b := fun x y i1 i2 i3 => by rw [q2 x (by omega), q2 y (by omega)]; exact r4 x y i1 i2 i3
  obtain ⟨g3, hG3, hF3⟩ : ∃ g3, Good k g2 g3 mid b ∧ if mid < e ∧ e < b then SymBA L cp fid caps n g2 g3 mid e b else g3 = g2 := by
    by_cases c : mid < e ∧ e < b
    · obtain ⟨g3, i1, i2⟩ := ih mid e b g2 (by omega) ⟨c.1, c.2, bn, r3', r4', fun x y i1 i2 i3 i4 => by rw [q2 x i1, q2 y (by omega)]; exact p2 x y i1 i2 i3 i4, fun x i1 i2 => by rw [q2 x i1]; exact rg x (by omega) i2⟩
      exact ⟨g3, i1, by rw [if_pos c]; exact i2⟩
    · refine ⟨g2, good_refl ?_, by rw [if_neg c]⟩
      by_cases c2 : mid < e
      · intro x y i1 i2 i3; exact r3' x y i1 i2 (by omega)
      · intro x y i1 i2 i3; exact r4' x y (by omega) i2 i3
  refine ⟨g3, mergeD (by omega) (by omega) ho hv hcr hG2 hG3, ?_⟩
  have w0 : IntKind.i64.wrap ((m : Int) - a) = (m : Int) - a := by rw [wrap_i64 (by omega) (by omega)]
  have w1 : IntKind.i64.wrap ((b : Int) - m) = (b : Int) - m := by rw [wrap_i64 (by omega) (by omega)]
  have w2 : decide ((m : Int) - a = 1) = false := decide_eq_false (by omega)
  have w3 : decide ((b : Int) - m = 1) = false := decide_eq_false (by omega)
  have v1 : IntKind.i64.wrap ((a : Int) + b) = a + b := wrap_i64 (by omega) (by omega)
  have v2 : IntKind.u64.wrap ((a : Int) + b) = a + b := wrap_u64i (by omega) (by omega)
  have v3 := half_eq a b mid hmid
  have v4 : IntKind.i64.wrap (mid : Int) = mid := wrap_i64 (by omega) (by omega)
  obtain ⟨N, hN⟩ : ∃ N, N = mid + m := ⟨_, rfl⟩
  have v5 : IntKind.i64.wrap ((mid : Int) + m) = N := by rw [wrap_i64 (by omega) (by omega)]; omega
  obtain ⟨p, hp⟩ : ∃ p, p = N - 1 := ⟨_, rfl⟩
  have v6 : IntKind.i64.wrap ((N : Int) - 1) = p := by rw [wrap_i64 (by omega) (by omega)]; omega
  have v7 : IntKind.i64.wrap ((N : Int) - s) = e := by rw [wrap_i64 (by omega) (by omega)]; omega
  unfold SymBA
  refine FnB.intro Try.func189 rfl rfl fun G w l => ?_
  repeat (first | refine WK.seq ?_ | refine WK.block ?_ | refine WK.inBlock ?_ | refine WK.skip ?_ | refine WK.label ?_ | refine WK.scope ?_ | refine WK.inScope ?_ | refine WK.exit rfl ?_)
  first | refine WK.reg 100 Try.ntmps189 (by kernel_rfl) ?_ | refine WK.regD 100 clsOf (by kernel_rfl) Try.ntmps189 (by kernel_rfl) (by kernel_rfl) ?_
  intro A hA Q hQ
  simp [w0, w2]
  refine hQ _ _ ?_
  clear hQ hA
  repeat (first | refine WK.seq ?_ | refine WK.block ?_ | refine WK.inBlock ?_ | refine WK.skip ?_ | refine WK.label ?_ | refine WK.scope ?_ | refine WK.inScope ?_ | refine WK.exit rfl ?_)
  refine WK.cond2 rfl (fun h0 => ?_) (fun h0 => ?_)
  · simp at h0; omega
  repeat (first | refine WK.seq ?_ | refine WK.block ?_ | refine WK.inBlock ?_ | refine WK.skip ?_ | refine WK.label ?_ | refine WK.scope ?_ | refine WK.inScope ?_ | refine WK.exit rfl ?_)
  first | refine WK.reg 200 Try.ntmps189 (by kernel_rfl) ?_ | refine WK.regD 200 clsOf (by kernel_rfl) Try.ntmps189 (by kernel_rfl) (by kernel_rfl) ?_
  intro A hA Q hQ
  simp [w1, w3]
  refine hQ _ _ ?_
  clear hQ hA
  repeat (first | refine WK.seq ?_ | refine WK.block ?_ | refine WK.inBlock ?_ | refine WK.skip ?_ | refine WK.label ?_ | refine WK.scope ?_ | refine WK.inScope ?_ | refine WK.exit rfl ?_)
  refine WK.cond2 rfl (fun h0 => ?_) (fun h0 => ?_)
  · simp at h0; omega
  repeat (first | refine WK.seq ?_ | refine WK.block ?_ | refine WK.inBlock ?_ | refine WK.skip ?_ | refine WK.label ?_ | refine WK.scope ?_ | refine WK.inScope ?_ | refine WK.exit rfl ?_)
  first | refine WK.reg 300 Try.ntmps189 (by kernel_rfl) ?_ | refine WK.regD 300 clsOf (by kernel_rfl) Try.ntmps189 (by kernel_rfl) (by kernel_rfl) ?_
  intro A hA Q hQ
  simp [v1, v2, v3, v4]
  refine hQ _ _ ?_
  clear hQ hA
  repeat (first | refine WK.seq ?_ | refine WK.block ?_ | refine WK.inBlock ?_ | refine WK.skip ?_ | refine WK.label ?_ | refine WK.scope ?_ | refine WK.inScope ?_ | refine WK.exit rfl ?_)
  first | refine WK.reg 400 Try.ntmps189 (by kernel_rfl) ?_ | refine WK.regD 400 clsOf (by kernel_rfl) Try.ntmps189 (by kernel_rfl) (by kernel_rfl) ?_
  intro A hA Q hQ
  simp [v5]
  refine hQ _ _ ?_
  clear hQ hA
  repeat (first | refine WK.seq ?_ | refine WK.block ?_ | refine WK.inBlock ?_ | refine WK.skip ?_ | refine WK.label ?_ | refine WK.scope ?_ | refine WK.inScope ?_ | refine WK.exit rfl ?_)
  first | refine WK.reg 500 Try.ntmps189 (by kernel_rfl) ?_ | refine WK.regD 500 clsOf (by kernel_rfl) Try.ntmps189 (by kernel_rfl) (by kernel_rfl) ?_
  intro A hA Q hQ
  simp
  refine hQ _ _ ?_
  clear hQ hA
  repeat (first | refine WK.seq ?_ | refine WK.block ?_ | refine WK.inBlock ?_ | refine WK.skip ?_ | refine WK.label ?_ | refine WK.scope ?_ | refine WK.inScope ?_ | refine WK.exit rfl ?_)
  first | refine WK.reg 600 Try.ntmps189 (by kernel_rfl) ?_ | refine WK.regD 600 clsOf (by kernel_rfl) Try.ntmps189 (by kernel_rfl) (by kernel_rfl) ?_
  intro A hA Q hQ
  simp
  refine hQ _ _ ?_
  clear hQ hA
  repeat (first | refine WK.seq ?_ | refine WK.block ?_ | refine WK.inBlock ?_ | refine WK.skip ?_ | refine WK.label ?_ | refine WK.scope ?_ | refine WK.inScope ?_ | refine WK.exit rfl ?_)
  apply WK.cut (⟨(upd (upd (upd (upd (upd (upd (upd (upd (upd J 0 (.msl 0 0 n)) 1 (.int .i64 a)) 2 (.int .i64 m)) 3 (.int .i64 b)) 4 (.fn fid caps)) 18 (.int .i64 mid)) 19 (.int .i64 N)) 20 (.int .i64 S)) 21 (.int .i64 R)), (upd B0 0 (.buf 11 (roA L f n))), 0⟩ : St)
  · intro hcut
    repeat (first | refine WK.seq ?_ | refine WK.block ?_ | refine WK.inBlock ?_ | refine WK.skip ?_ | refine WK.label ?_ | refine WK.scope ?_ | refine WK.inScope ?_ | refine WK.exit rfl ?_)
    refine WK.cond2 rfl (fun hm => ?_) (fun hm => ?_)
    · simp at hm
      rw [if_pos hm] at hS hR
      have v8 : IntKind.i64.wrap ((N : Int) - b) = S := by rw [wrap_i64 (by omega) (by omega)]; omega
      repeat (first | refine WK.seq ?_ | refine WK.block ?_ | refine WK.inBlock ?_ | refine WK.skip ?_ | refine WK.label ?_ | refine WK.scope ?_ | refine WK.inScope ?_ | refine WK.exit rfl ?_)
      first | refine WK.reg 700 Try.ntmps189 (by kernel_rfl) ?_ | refine WK.regD 700 clsOf (by kernel_rfl) Try.ntmps189 (by kernel_rfl) (by kernel_rfl) ?_
      intro A hA Q hQ
      simp [v8]
      refine hQ _ _ ?_
      clear hQ hA
      repeat (first | refine WK.seq ?_ | refine WK.block ?_ | refine WK.inBlock ?_ | refine WK.skip ?_ | refine WK.label ?_ | refine WK.scope ?_ | refine WK.inScope ?_ | refine WK.exit rfl ?_)
      first | refine WK.reg 800 Try.ntmps189 (by kernel_rfl) ?_ | refine WK.regD 800 clsOf (by kernel_rfl) Try.ntmps189 (by kernel_rfl) (by kernel_rfl) ?_
      intro A hA Q hQ
      simp
      refine hQ _ _ ?_
      clear hQ hA
      repeat (first | refine WK.seq ?_ | refine WK.block ?_ | refine WK.inBlock ?_ | refine WK.skip ?_ | refine WK.label ?_ | refine WK.scope ?_ | refine WK.inScope ?_ | refine WK.exit rfl ?_)
      refine WK.next (fun n => n) hcut (by repeat (first | exact TmW.nil | refine TmW.upd ?_ (by simp (maxDischargeDepth := 120) [hcl, hR]))) (by repeat (first | exact BxW.nil | refine BxW.upd ?_ (by simp (maxDischargeDepth := 120) [hcl, hR]))) (by first | exact InjW.id | exact InjW.nil | exact InjW.one | exact InjW.two (by simp) | exact InjW.three (by simp) (by simp) (by simp))
    · simp at hm
      rw [if_neg (by omega)] at hS hR
      repeat (first | refine WK.seq ?_ | refine WK.block ?_ | refine WK.inBlock ?_ | refine WK.skip ?_ | refine WK.label ?_ | refine WK.scope ?_ | refine WK.inScope ?_ | refine WK.exit rfl ?_)
      first | refine WK.reg 900 Try.ntmps189 (by kernel_rfl) ?_ | refine WK.regD 900 clsOf (by kernel_rfl) Try.ntmps189 (by kernel_rfl) (by kernel_rfl) ?_
      intro A hA Q hQ
      simp
      refine hQ _ _ ?_
      clear hQ hA
      repeat (first | refine WK.seq ?_ | refine WK.block ?_ | refine WK.inBlock ?_ | refine WK.skip ?_ | refine WK.label ?_ | refine WK.scope ?_ | refine WK.inScope ?_ | refine WK.exit rfl ?_)
      first | refine WK.reg 1000 Try.ntmps189 (by kernel_rfl) ?_ | refine WK.regD 1000 clsOf (by kernel_rfl) Try.ntmps189 (by kernel_rfl) (by kernel_rfl) ?_
      intro A hA Q hQ
      simp
      refine hQ _ _ ?_
      clear hQ hA
      repeat (first | refine WK.seq ?_ | refine WK.block ?_ | refine WK.inBlock ?_ | refine WK.skip ?_ | refine WK.label ?_ | refine WK.scope ?_ | refine WK.inScope ?_ | refine WK.exit rfl ?_)
      refine WK.next (fun n => n) hcut (by repeat (first | exact TmW.nil | refine TmW.upd ?_ (by simp (maxDischargeDepth := 120) [hcl, hS, hR]))) (by repeat (first | exact BxW.nil | refine BxW.upd ?_ (by simp (maxDischargeDepth := 120) [hcl, hS, hR]))) (by first | exact InjW.id | exact InjW.nil | exact InjW.one | exact InjW.two (by simp) | exact InjW.three (by simp) (by simp) (by simp))
  repeat (first | refine WK.seq ?_ | refine WK.block ?_ | refine WK.inBlock ?_ | refine WK.skip ?_ | refine WK.label ?_ | refine WK.scope ?_ | refine WK.inScope ?_ | refine WK.exit rfl ?_)
  first | refine WK.reg 1100 Try.ntmps189 (by kernel_rfl) ?_ | refine WK.regD 1100 clsOf (by kernel_rfl) Try.ntmps189 (by kernel_rfl) (by kernel_rfl) ?_
  intro A hA Q hQ
  simp [v6]
  refine hQ _ _ ?_
  clear hQ hA
  repeat (first | refine WK.seq ?_ | refine WK.block ?_ | refine WK.inBlock ?_ | refine WK.skip ?_ | refine WK.label ?_ | refine WK.scope ?_ | refine WK.inScope ?_ | refine WK.exit rfl ?_)
  refine WK.loopI (fun n => n) (fun q : Nat × Nat => (⟨(upd (upd (upd (upd (upd (upd (upd (upd (upd (upd J 0 (.msl 0 0 n)) 1 (.int .i64 a)) 2 (.int .i64 m)) 3 (.int .i64 b)) 4 (.fn fid caps)) 18 (.int .i64 mid)) 19 (.int .i64 N)) 20 (.int .i64 q.1)) 21 (.int .i64 q.2)) 22 (.int .i64 p)), (upd B0 0 (.buf 11 (roA L f n))), 0⟩ : St)) (fun q => S ≤ q.1 ∧ q.1 ≤ s ∧ s ≤ q.2 ∧ q.2 ≤ R) (fun q => q.2 - q.1) ((S, R)) (by repeat (first | exact TmW.nil | refine TmW.upd ?_ (by simp (maxDischargeDepth := 120) [hcl]))) (by repeat (first | exact BxW.nil | refine BxW.upd ?_ (by simp (maxDischargeDepth := 120) [hcl]))) (by first | exact InjW.id | exact InjW.nil | exact InjW.one | exact InjW.two (by simp) | exact InjW.three (by simp) (by simp) (by simp)) (⟨Nat.le_refl _, s1, s2, Nat.le_refl _⟩) (fun q hq IHq => ?_)
  obtain ⟨i, j⟩ := q
  obtain ⟨i1, i2, i3, i4⟩ := hq
  dsimp only at i1 i2 i3 i4 IHq ⊢
  repeat (first | refine WK.seq ?_ | refine WK.block ?_ | refine WK.inBlock ?_ | refine WK.skip ?_ | refine WK.label ?_ | refine WK.scope ?_ | refine WK.inScope ?_ | refine WK.exit rfl ?_)
  first | refine WK.reg 1200 Try.ntmps189 (by kernel_rfl) ?_ | refine WK.regD 1200 clsOf (by kernel_rfl) Try.ntmps189 (by kernel_rfl) (by kernel_rfl) ?_
  intro A hA Q hQ
  simp
  refine hQ _ _ ?_
  clear hQ hA
  repeat (first | refine WK.seq ?_ | refine WK.block ?_ | refine WK.inBlock ?_ | refine WK.skip ?_ | refine WK.label ?_ | refine WK.scope ?_ | refine WK.inScope ?_ | refine WK.exit rfl ?_)
  refine WK.cond2 rfl (fun hlt => ?_) (fun hlt => ?_)
  · simp at hlt
    obtain ⟨c, hc⟩ : ∃ c, c = (i + j) / 2 := ⟨_, rfl⟩
    have u1 : IntKind.i64.wrap ((i : Int) + j) = i + j := wrap_i64 (by omega) (by omega)
    have u2 : IntKind.u64.wrap ((i : Int) + j) = i + j := wrap_u64i (by omega) (by omega)
    have u3 := half_eq i j c hc
    have u4 : IntKind.i64.wrap (c : Int) = c := wrap_i64 (by omega) (by omega)
    have u5 : IntKind.i64.wrap ((c : Int) + 1) = c + 1 := wrap_i64 (by omega) (by omega)
    obtain ⟨c1, c2, c3, c4⟩ := hcc c (by omega) (by omega)
    have hlo' := hlo c (by omega)
    have hhi' := fun i => hhi c i (by omega)
    obtain ⟨z, hz⟩ : ∃ z, z = mid + m - 1 - c := ⟨_, rfl⟩
    rw [← hz] at c3 c4 hlo' hhi'
    have u6 : IntKind.i64.wrap ((p : Int) - c) = z := by rw [wrap_i64 (by omega) (by omega)]; omega
    have l1 : c < n := by omega
    have l2 : z < n := by omega
    have t1 := roA_sub L f n c l1
    have Bt1 : c * 11 + 11 ≤ n * 11 := by omega
    have t2 := roA_sub L f n z l2
    have Bt2 : z * 11 + 11 ≤ n * 11 := by omega
    have rc := h.rng c (by omega) (by omega)
    have rz := h.rng z (by omega) (by omega)
    have hneg := hf.neg (f z) (f c)
    repeat (first | refine WK.seq ?_ | refine WK.block ?_ | refine WK.inBlock ?_ | refine WK.skip ?_ | refine WK.label ?_ | refine WK.scope ?_ | refine WK.inScope ?_ | refine WK.exit rfl ?_)
    first | refine WK.reg 1300 Try.ntmps189 (by kernel_rfl) ?_ | refine WK.regD 1300 clsOf (by kernel_rfl) Try.ntmps189 (by kernel_rfl) (by kernel_rfl) ?_
    intro A hA Q hQ
    simp [u1, u2, u3, u4]
    refine hQ _ _ ?_
    clear hQ hA
    repeat (first | refine WK.seq ?_ | refine WK.block ?_ | refine WK.inBlock ?_ | refine WK.skip ?_ | refine WK.label ?_ | refine WK.scope ?_ | refine WK.inScope ?_ | refine WK.exit rfl ?_)
    first | refine WK.reg 1400 Try.ntmps189 (by kernel_rfl) ?_ | refine WK.regD 1400 (clsM [(164, 0), (168, 0)]) (by kernel_rfl) Try.ntmps189 (by kernel_rfl) (by kernel_rfl) ?_
    intro A hA Q hQ
    simp [u6, t1, t2, l1, l2, Bt1, Bt2]
    refine RunQ.call rfl rfl rfl rfl (by rfl) (by simp (maxDischargeDepth := 120) [hcl, hneg]) (hf.c (f z) (f c) rz rc) (by simp [hcl, hneg]) ?_
    refine RunQ.eval ?_
    simp [hcl, hneg]
    refine hQ _ _ ?_
    clear hQ hA
    repeat (first | refine WK.seq ?_ | refine WK.block ?_ | refine WK.inBlock ?_ | refine WK.skip ?_ | refine WK.label ?_ | refine WK.scope ?_ | refine WK.inScope ?_ | refine WK.exit rfl ?_)
    refine WK.cond2 rfl (fun hx => ?_) (fun hx => ?_)
    · have hx' : ¬ k (f c) < k (f z) := by simpa using hx
      have hcs : c < s := by
        by_cases e : c < s
        · exact e
        · exact absurd (hhi' (by omega)) hx'
      repeat (first | refine WK.seq ?_ | refine WK.block ?_ | refine WK.inBlock ?_ | refine WK.skip ?_ | refine WK.label ?_ | refine WK.scope ?_ | refine WK.inScope ?_ | refine WK.exit rfl ?_)
      first | refine WK.reg 1500 Try.ntmps189 (by kernel_rfl) ?_ | refine WK.regD 1500 clsOf (by kernel_rfl) Try.ntmps189 (by kernel_rfl) (by kernel_rfl) ?_
      intro A hA Q hQ
      simp [u5]
      refine hQ _ _ ?_
      clear hQ hA
      repeat (first | refine WK.seq ?_ | refine WK.block ?_ | refine WK.inBlock ?_ | refine WK.skip ?_ | refine WK.label ?_ | refine WK.scope ?_ | refine WK.inScope ?_ | refine WK.exit rfl ?_)
      refine WK.next (fun n => n) (IHq ((c + 1, j)) (show _ ∧ _ ∧ _ ∧ _ from ⟨by dsimp only; omega, hcs, i3, i4⟩) (by first | omega | (dsimp only; omega))) (by repeat (first | exact TmW.nil | refine TmW.upd ?_ (by simp (maxDischargeDepth := 120) [hcl]))) (by repeat (first | exact BxW.nil | refine BxW.upd ?_ (by simp (maxDischargeDepth := 120) [hcl]))) (by first | exact InjW.id | exact InjW.nil | exact InjW.one | exact InjW.two (by simp) | exact InjW.three (by simp) (by simp) (by simp))
    · have hx' : k (f c) < k (f z) := by simpa using hx
      have hcs : s ≤ c := by
        by_cases e : c < s
        · exact absurd hx' (hlo' e)
        · omega
      repeat (first | refine WK.seq ?_ | refine WK.block ?_ | refine WK.inBlock ?_ | refine WK.skip ?_ | refine WK.label ?_ | refine WK.scope ?_ | refine WK.inScope ?_ | refine WK.exit rfl ?_)
      first | refine WK.reg 1600 Try.ntmps189 (by kernel_rfl) ?_ | refine WK.regD 1600 clsOf (by kernel_rfl) Try.ntmps189 (by kernel_rfl) (by kernel_rfl) ?_
      intro A hA Q hQ
      simp
      refine hQ _ _ ?_
      clear hQ hA
      repeat (first | refine WK.seq ?_ | refine WK.block ?_ | refine WK.inBlock ?_ | refine WK.skip ?_ | refine WK.label ?_ | refine WK.scope ?_ | refine WK.inScope ?_ | refine WK.exit rfl ?_)
      refine WK.next (fun n => n) (IHq ((i, c)) (show _ ∧ _ ∧ _ ∧ _ from ⟨i1, i2, hcs, by dsimp only; omega⟩) (by first | omega | (dsimp only; omega))) (by repeat (first | exact TmW.nil | refine TmW.upd ?_ (by simp (maxDischargeDepth := 120) [hcl]))) (by repeat (first | exact BxW.nil | refine BxW.upd ?_ (by simp (maxDischargeDepth := 120) [hcl]))) (by first | exact InjW.id | exact InjW.nil | exact InjW.one | exact InjW.two (by simp) | exact InjW.three (by simp) (by simp) (by simp))
  simp at hlt
  have e1 : i = s := by omega
  subst e1
  repeat (first | refine WK.seq ?_ | refine WK.block ?_ | refine WK.inBlock ?_ | refine WK.skip ?_ | refine WK.label ?_ | refine WK.scope ?_ | refine WK.inScope ?_ | refine WK.exit rfl ?_)
  first | refine WK.reg 1700 Try.ntmps189 (by kernel_rfl) ?_ | refine WK.regD 1700 clsOf (by kernel_rfl) Try.ntmps189 (by kernel_rfl) (by kernel_rfl) ?_
  intro A hA Q hQ
  simp [v7]
  refine hQ _ _ ?_
  clear hQ hA
  repeat (first | refine WK.seq ?_ | refine WK.block ?_ | refine WK.inBlock ?_ | refine WK.skip ?_ | refine WK.label ?_ | refine WK.scope ?_ | refine WK.inScope ?_ | refine WK.exit rfl ?_)
  apply WK.cut (⟨(upd (upd (upd (upd (upd (upd (upd (upd J 0 (.msl 0 0 n)) 1 (.int .i64 a)) 2 (.int .i64 m)) 3 (.int .i64 b)) 4 (.fn fid caps)) 18 (.int .i64 mid)) 20 (.int .i64 i)) 24 (.int .i64 e)), (upd B0 0 (.buf 11 (roA L g1 n))), 0⟩ : St)
  · intro hcut
    by_cases c1 : i < m
    · by_cases c2 : m < e
      · repeat (first | refine WK.seq ?_ | refine WK.block ?_ | refine WK.inBlock ?_ | refine WK.skip ?_ | refine WK.label ?_ | refine WK.scope ?_ | refine WK.inScope ?_ | refine WK.exit rfl ?_)
        first | refine WK.reg 1800 Try.ntmps189 (by kernel_rfl) ?_ | refine WK.regD 1800 clsOf (by kernel_rfl) Try.ntmps189 (by kernel_rfl) (by kernel_rfl) ?_
        intro A hA Q hQ
        have hg3 : (A[3]?).bind (·.dst) = some 181 := by rw [hA]; rfl
        simp [c1, c2, hg3]
        refine hQ _ _ ?_
        clear hQ hA
        repeat (first | refine WK.seq ?_ | refine WK.block ?_ | refine WK.inBlock ?_ | refine WK.skip ?_ | refine WK.label ?_ | refine WK.scope ?_ | refine WK.inScope ?_ | refine WK.exit rfl ?_)
        refine WK.cond2 rfl (fun hy => ?_) (fun hy => ?_)
        · repeat (first | refine WK.seq ?_ | refine WK.block ?_ | refine WK.inBlock ?_ | refine WK.skip ?_ | refine WK.label ?_ | refine WK.scope ?_ | refine WK.inScope ?_ | refine WK.exit rfl ?_)
          first | refine WK.reg 1900 Try.ntmps189 (by kernel_rfl) ?_ | refine WK.regD 1900 clsOf (by kernel_rfl) Try.ntmps189 (by kernel_rfl) (by kernel_rfl) ?_
          intro A hA Q hQ
          simp [hcl]
          refine RunQ.callB 0 rfl rfl rfl (by simp [hcl, hg1]) (by rfl) (rotA_c L cp fid caps n f i m e hcl hn c1 c2 (by omega)) (by simp (maxDischargeDepth := 120) [hcl, hg1]) (by simp (maxDischargeDepth := 120) [hcl, hg1]) rfl rfl (by simp [hcl, hg1]) (by simp [hcl, hg1]) ?_
          refine RunQ.eval ?_
          simp [hcl, hg1]
          refine hQ _ _ ?_
          clear hQ hA
          repeat (first | refine WK.seq ?_ | refine WK.block ?_ | refine WK.inBlock ?_ | refine WK.skip ?_ | refine WK.label ?_ | refine WK.scope ?_ | refine WK.inScope ?_ | refine WK.exit rfl ?_)
          refine WK.next (fun n => n) hcut (by repeat (first | exact TmW.nil | refine TmW.upd ?_ (by simp (maxDischargeDepth := 120) [hcl, hg1]))) (by repeat (first | exact BxW.nil | refine BxW.upd ?_ (by simp (maxDischargeDepth := 120) [hcl, hg1]))) (by first | exact InjW.id | exact InjW.nil | exact InjW.one | exact InjW.two (by simp) | exact InjW.three (by simp) (by simp) (by simp))
        · cases hy
      · have hg : g1 = f := by rw [hg1]; exact rot_none f i m e (by omega)
        repeat (first | refine WK.seq ?_ | refine WK.block ?_ | refine WK.inBlock ?_ | refine WK.skip ?_ | refine WK.label ?_ | refine WK.scope ?_ | refine WK.inScope ?_ | refine WK.exit rfl ?_)
        first | refine WK.reg 2000 Try.ntmps189 (by kernel_rfl) ?_ | refine WK.regD 2000 clsOf (by kernel_rfl) Try.ntmps189 (by kernel_rfl) (by kernel_rfl) ?_
        intro A hA Q hQ
        have hg3 : (A[3]?).bind (·.dst) = some 181 := by rw [hA]; rfl
        simp [c1, c2, hg3]
        refine hQ _ _ ?_
        clear hQ hA
        repeat (first | refine WK.seq ?_ | refine WK.block ?_ | refine WK.inBlock ?_ | refine WK.skip ?_ | refine WK.label ?_ | refine WK.scope ?_ | refine WK.inScope ?_ | refine WK.exit rfl ?_)
        refine WK.cond2 rfl (fun hy => ?_) (fun hy => ?_)
        · cases hy
        · repeat (first | refine WK.seq ?_ | refine WK.block ?_ | refine WK.inBlock ?_ | refine WK.skip ?_ | refine WK.label ?_ | refine WK.scope ?_ | refine WK.inScope ?_ | refine WK.exit rfl ?_)
          refine WK.next (fun n => n) hcut (by repeat (first | exact TmW.nil | refine TmW.upd ?_ (by simp (maxDischargeDepth := 120) [hcl, hg]))) (by repeat (first | exact BxW.nil | refine BxW.upd ?_ (by simp (maxDischargeDepth := 120) [hcl, hg]))) (by first | exact InjW.id | exact InjW.nil | exact InjW.one | exact InjW.two (by simp) | exact InjW.three (by simp) (by simp) (by simp))
    · have hg : g1 = f := by rw [hg1]; exact rot_none f i m e (by omega)
      repeat (first | refine WK.seq ?_ | refine WK.block ?_ | refine WK.inBlock ?_ | refine WK.skip ?_ | refine WK.label ?_ | refine WK.scope ?_ | refine WK.inScope ?_ | refine WK.exit rfl ?_)
      first | refine WK.reg 2100 Try.ntmps189 (by kernel_rfl) ?_ | refine WK.regD 2100 clsOf (by kernel_rfl) Try.ntmps189 (by kernel_rfl) (by kernel_rfl) ?_
      intro A hA Q hQ
      have hg3 : (A[3]?).bind (·.dst) = some 181 := by rw [hA]; rfl
      simp [c1, hg3]
      refine hQ _ _ ?_
      clear hQ hA
      repeat (first | refine WK.seq ?_ | refine WK.block ?_ | refine WK.inBlock ?_ | refine WK.skip ?_ | refine WK.label ?_ | refine WK.scope ?_ | refine WK.inScope ?_ | refine WK.exit rfl ?_)
      refine WK.cond2 rfl (fun hy => ?_) (fun hy => ?_)
      · cases hy
      · repeat (first | refine WK.seq ?_ | refine WK.block ?_ | refine WK.inBlock ?_ | refine WK.skip ?_ | refine WK.label ?_ | refine WK.scope ?_ | refine WK.inScope ?_ | refine WK.exit rfl ?_)
        refine WK.next (fun n => n) hcut (by repeat (first | exact TmW.nil | refine TmW.upd ?_ (by simp (maxDischargeDepth := 120) [hcl, hg]))) (by repeat (first | exact BxW.nil | refine BxW.upd ?_ (by simp (maxDischargeDepth := 120) [hcl, hg]))) (by first | exact InjW.id | exact InjW.nil | exact InjW.one | exact InjW.two (by simp) | exact InjW.three (by simp) (by simp) (by simp))
  repeat (first | refine WK.seq ?_ | refine WK.block ?_ | refine WK.inBlock ?_ | refine WK.skip ?_ | refine WK.label ?_ | refine WK.scope ?_ | refine WK.inScope ?_ | refine WK.exit rfl ?_)
  apply WK.cut (⟨(upd (upd (upd (upd (upd (upd (upd (upd J 0 (.msl 0 0 n)) 1 (.int .i64 a)) 2 (.int .i64 m)) 3 (.int .i64 b)) 4 (.fn fid caps)) 18 (.int .i64 mid)) 20 (.int .i64 i)) 24 (.int .i64 e)), (upd B0 0 (.buf 11 (roA L g2 n))), 0⟩ : St)
  · intro hcut
    by_cases c1 : a < i
    · by_cases c2 : i < mid
      · rw [if_pos ⟨c1, c2⟩] at hF2
        repeat (first | refine WK.seq ?_ | refine WK.block ?_ | refine WK.inBlock ?_ | refine WK.skip ?_ | refine WK.label ?_ | refine WK.scope ?_ | refine WK.inScope ?_ | refine WK.exit rfl ?_)
        first | refine WK.reg 2200 Try.ntmps189 (by kernel_rfl) ?_ | refine WK.regD 2200 clsOf (by kernel_rfl) Try.ntmps189 (by kernel_rfl) (by kernel_rfl) ?_
        intro A hA Q hQ
        have hg3 : (A[3]?).bind (·.dst) = some 195 := by rw [hA]; rfl
        simp [c1, c2, hg3]
        refine hQ _ _ ?_
        clear hQ hA
        repeat (first | refine WK.seq ?_ | refine WK.block ?_ | refine WK.inBlock ?_ | refine WK.skip ?_ | refine WK.label ?_ | refine WK.scope ?_ | refine WK.inScope ?_ | refine WK.exit rfl ?_)
        refine WK.cond2 rfl (fun hy => ?_) (fun hy => ?_)
        · repeat (first | refine WK.seq ?_ | refine WK.block ?_ | refine WK.inBlock ?_ | refine WK.skip ?_ | refine WK.label ?_ | refine WK.scope ?_ | refine WK.inScope ?_ | refine WK.exit rfl ?_)
          first | refine WK.reg 2300 Try.ntmps189 (by kernel_rfl) ?_ | refine WK.regD 2300 clsOf (by kernel_rfl) Try.ntmps189 (by kernel_rfl) (by kernel_rfl) ?_
          intro A hA Q hQ
          simp [hcl]
          refine RunQ.callB 0 rfl rfl rfl (by simp [hcl]) (by rfl) (hF2) (by simp (maxDischargeDepth := 120) [hcl]) (by simp (maxDischargeDepth := 120) [hcl]) rfl rfl (by simp [hcl]) (by simp [hcl]) ?_
          refine RunQ.eval ?_
          simp [hcl]
          refine hQ _ _ ?_
          clear hQ hA
          repeat (first | refine WK.seq ?_ | refine WK.block ?_ | refine WK.inBlock ?_ | refine WK.skip ?_ | refine WK.label ?_ | refine WK.scope ?_ | refine WK.inScope ?_ | refine WK.exit rfl ?_)
          refine WK.next (fun n => n) hcut (by repeat (first | exact TmW.nil | refine TmW.upd ?_ (by simp (maxDischargeDepth := 120) [hcl]))) (by repeat (first | exact BxW.nil | refine BxW.upd ?_ (by simp (maxDischargeDepth := 120) [hcl]))) (by first | exact InjW.id | exact InjW.nil | exact InjW.one | exact InjW.two (by simp) | exact InjW.three (by simp) (by simp) (by simp))
        · cases hy
      · rw [if_neg (by omega)] at hF2
        repeat (first | refine WK.seq ?_ | refine WK.block ?_ | refine WK.inBlock ?_ | refine WK.skip ?_ | refine WK.label ?_ | refine WK.scope ?_ | refine WK.inScope ?_ | refine WK.exit rfl ?_)
        first | refine WK.reg 2400 Try.ntmps189 (by kernel_rfl) ?_ | refine WK.regD 2400 clsOf (by kernel_rfl) Try.ntmps189 (by kernel_rfl) (by kernel_rfl) ?_
        intro A hA Q hQ
        have hg3 : (A[3]?).bind (·.dst) = some 195 := by rw [hA]; rfl
        simp [c1, c2, hg3]
        refine hQ _ _ ?_
        clear hQ hA
        repeat (first | refine WK.seq ?_ | refine WK.block ?_ | refine WK.inBlock ?_ | refine WK.skip ?_ | refine WK.label ?_ | refine WK.scope ?_ | refine WK.inScope ?_ | refine WK.exit rfl ?_)
        refine WK.cond2 rfl (fun hy => ?_) (fun hy => ?_)
        · cases hy
        · repeat (first | refine WK.seq ?_ | refine WK.block ?_ | refine WK.inBlock ?_ | refine WK.skip ?_ | refine WK.label ?_ | refine WK.scope ?_ | refine WK.inScope ?_ | refine WK.exit rfl ?_)
          refine WK.next (fun n => n) hcut (by repeat (first | exact TmW.nil | refine TmW.upd ?_ (by simp (maxDischargeDepth := 120) [hcl, hF2]))) (by repeat (first | exact BxW.nil | refine BxW.upd ?_ (by simp (maxDischargeDepth := 120) [hcl, hF2]))) (by first | exact InjW.id | exact InjW.nil | exact InjW.one | exact InjW.two (by simp) | exact InjW.three (by simp) (by simp) (by simp))
    · rw [if_neg (by omega)] at hF2
      repeat (first | refine WK.seq ?_ | refine WK.block ?_ | refine WK.inBlock ?_ | refine WK.skip ?_ | refine WK.label ?_ | refine WK.scope ?_ | refine WK.inScope ?_ | refine WK.exit rfl ?_)
      first | refine WK.reg 2500 Try.ntmps189 (by kernel_rfl) ?_ | refine WK.regD 2500 clsOf (by kernel_rfl) Try.ntmps189 (by kernel_rfl) (by kernel_rfl) ?_
      intro A hA Q hQ
      have hg3 : (A[3]?).bind (·.dst) = some 195 := by rw [hA]; rfl
      simp [c1, hg3]
      refine hQ _ _ ?_
      clear hQ hA
      repeat (first | refine WK.seq ?_ | refine WK.block ?_ | refine WK.inBlock ?_ | refine WK.skip ?_ | refine WK.label ?_ | refine WK.scope ?_ | refine WK.inScope ?_ | refine WK.exit rfl ?_)
      refine WK.cond2 rfl (fun hy => ?_) (fun hy => ?_)
      · cases hy
      · repeat (first | refine WK.seq ?_ | refine WK.block ?_ | refine WK.inBlock ?_ | refine WK.skip ?_ | refine WK.label ?_ | refine WK.scope ?_ | refine WK.inScope ?_ | refine WK.exit rfl ?_)
        refine WK.next (fun n => n) hcut (by repeat (first | exact TmW.nil | refine TmW.upd ?_ (by simp (maxDischargeDepth := 120) [hcl, hF2]))) (by repeat (first | exact BxW.nil | refine BxW.upd ?_ (by simp (maxDischargeDepth := 120) [hcl, hF2]))) (by first | exact InjW.id | exact InjW.nil | exact InjW.one | exact InjW.two (by simp) | exact InjW.three (by simp) (by simp) (by simp))
  by_cases c1 : mid < e
  · by_cases c2 : e < b
    · rw [if_pos ⟨c1, c2⟩] at hF3
      repeat (first | refine WK.seq ?_ | refine WK.block ?_ | refine WK.inBlock ?_ | refine WK.skip ?_ | refine WK.label ?_ | refine WK.scope ?_ | refine WK.inScope ?_ | refine WK.exit rfl ?_)
      first | refine WK.reg 2600 Try.ntmps189 (by kernel_rfl) ?_ | refine WK.regD 2600 clsOf (by kernel_rfl) Try.ntmps189 (by kernel_rfl) (by kernel_rfl) ?_
      intro A hA Q hQ
      have hg3 : (A[3]?).bind (·.dst) = some 209 := by rw [hA]; rfl
      simp [c1, c2, hg3]
      refine hQ _ _ ?_
      clear hQ hA
      repeat (first | refine WK.seq ?_ | refine WK.block ?_ | refine WK.inBlock ?_ | refine WK.skip ?_ | refine WK.label ?_ | refine WK.scope ?_ | refine WK.inScope ?_ | refine WK.exit rfl ?_)
      refine WK.cond2 rfl (fun hy => ?_) (fun hy => ?_)
      · repeat (first | refine WK.seq ?_ | refine WK.block ?_ | refine WK.inBlock ?_ | refine WK.skip ?_ | refine WK.label ?_ | refine WK.scope ?_ | refine WK.inScope ?_ | refine WK.exit rfl ?_)
        first | refine WK.reg 2700 Try.ntmps189 (by kernel_rfl) ?_ | refine WK.regD 2700 clsOf (by kernel_rfl) Try.ntmps189 (by kernel_rfl) (by kernel_rfl) ?_
        intro A hA Q hQ
        simp [hcl]
        refine RunQ.callB 0 rfl rfl rfl (by simp [hcl]) (by rfl) (hF3) (by simp (maxDischargeDepth := 120) [hcl]) (by simp (maxDischargeDepth := 120) [hcl]) rfl rfl (by simp [hcl]) (by simp [hcl]) ?_
        refine RunQ.eval ?_
        simp [hcl]
        refine hQ _ _ ?_
        clear hQ hA
        repeat (first | refine WK.seq ?_ | refine WK.block ?_ | refine WK.inBlock ?_ | refine WK.skip ?_ | refine WK.label ?_ | refine WK.scope ?_ | refine WK.inScope ?_ | refine WK.exit rfl ?_)
        refine WK.retB Try.func189 (by simp (maxDischargeDepth := 120) [Try.results189]) (by simp) rfl (.inl rfl)
      · cases hy
    · rw [if_neg (by omega)] at hF3
      repeat (first | refine WK.seq ?_ | refine WK.block ?_ | refine WK.inBlock ?_ | refine WK.skip ?_ | refine WK.label ?_ | refine WK.scope ?_ | refine WK.inScope ?_ | refine WK.exit rfl ?_)
      first | refine WK.reg 2800 Try.ntmps189 (by kernel_rfl) ?_ | refine WK.regD 2800 clsOf (by kernel_rfl) Try.ntmps189 (by kernel_rfl) (by kernel_rfl) ?_
      intro A hA Q hQ
      have hg3 : (A[3]?).bind (·.dst) = some 209 := by rw [hA]; rfl
      simp [c1, c2, hg3]
      refine hQ _ _ ?_
      clear hQ hA
      repeat (first | refine WK.seq ?_ | refine WK.block ?_ | refine WK.inBlock ?_ | refine WK.skip ?_ | refine WK.label ?_ | refine WK.scope ?_ | refine WK.inScope ?_ | refine WK.exit rfl ?_)
      refine WK.cond2 rfl (fun hy => ?_) (fun hy => ?_)
      · cases hy
      · repeat (first | refine WK.seq ?_ | refine WK.block ?_ | refine WK.inBlock ?_ | refine WK.skip ?_ | refine WK.label ?_ | refine WK.scope ?_ | refine WK.inScope ?_ | refine WK.exit rfl ?_)
        refine WK.retB Try.func189 (by simp (maxDischargeDepth := 120) [Try.results189, hF3]) (by simp [hF3]) rfl (.inl rfl)
  · rw [if_neg (by omega)] at hF3
    repeat (first | refine WK.seq ?_ | refine WK.block ?_ | refine WK.inBlock ?_ | refine WK.skip ?_ | refine WK.label ?_ | refine WK.scope ?_ | refine WK.inScope ?_ | refine WK.exit rfl ?_)
    first | refine WK.reg 2900 Try.ntmps189 (by kernel_rfl) ?_ | refine WK.regD 2900 clsOf (by kernel_rfl) Try.ntmps189 (by kernel_rfl) (by kernel_rfl) ?_
    intro A hA Q hQ
    have hg3 : (A[3]?).bind (·.dst) = some 209 := by rw [hA]; rfl
    simp [c1, hg3]
    refine hQ _ _ ?_
    clear hQ hA
    repeat (first | refine WK.seq ?_ | refine WK.block ?_ | refine WK.inBlock ?_ | refine WK.skip ?_ | refine WK.label ?_ | refine WK.scope ?_ | refine WK.inScope ?_ | refine WK.exit rfl ?_)
    refine WK.cond2 rfl (fun hy => ?_) (fun hy => ?_)
    · cases hy
    · repeat (first | refine WK.seq ?_ | refine WK.block ?_ | refine WK.inBlock ?_ | refine WK.skip ?_ | refine WK.label ?_ | refine WK.scope ?_ | refine WK.inScope ?_ | refine WK.exit rfl ?_)
      refine WK.retB Try.func189 (by simp (maxDischargeDepth := 120) [Try.results189, hF3]) (by simp [hF3]) rfl (.inl rfl)
end Go.Proofs.Ytbncoeoamjcjjaa
