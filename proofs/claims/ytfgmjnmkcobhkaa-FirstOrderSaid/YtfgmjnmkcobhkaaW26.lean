/- Turning blocks round, and merging by turning: the walks. -/
import Derived.Test.YtfgmjnmkcobhkaaW25
set_option linter.all false
set_option linter.unnecessarySimpa false
set_option linter.unusedVariables false
set_option linter.unusedSimpArgs false
namespace Go.Proofs.Ytfgmjnmkcobhkaa
open Go Go.AI Go.Proofs

set_option maxHeartbeats 2000000 in
theorem rot_c (fid : Nat) (caps : List AV) (n : Nat) (f : Nat → Int) (a m b : Nat) (hcl : ClL caps = true) (hn : n ≤ 1000000) (h1 : a < m) (h2 : m < b) (h3 : b ≤ n) :
    FnB Try.prog 157 [.msl 0 0 n, .int .i64 a, .int .i64 m, .int .i64 b, .fn fid caps] (.buf 1 (intL (ro f n))) (.tup []) (.buf 1 (intL (ro (rotF f a m b) n))) := by
  obtain ⟨i0, hi0⟩ : ∃ i0, i0 = m - a := ⟨_, rfl⟩
  obtain ⟨j0, hj0⟩ : ∃ j0, j0 = b - m := ⟨_, rfl⟩
  have w1 : IntKind.i64.wrap ((m : Int) - a) = i0 := by rw [wrap_i64 (by omega) (by omega)]; omega
  have w2 : IntKind.i64.wrap ((b : Int) - m) = j0 := by rw [wrap_i64 (by omega) (by omega)]; omega
  have e0 : rotF f (m - i0) m (m + j0) = rotF f a m b := by rw [show m - i0 = a by omega, show m + j0 = b by omega]
  refine FnB.intro Try.func157 rfl rfl fun G w l => ?_
  repeat (first | refine WK.seq ?_ | refine WK.block ?_ | refine WK.inBlock ?_ | refine WK.skip ?_ | refine WK.label ?_ | refine WK.scope ?_ | refine WK.inScope ?_ | refine WK.exit rfl ?_)
  first | refine WK.reg 100 Try.ntmps157 (by kernel_rfl) ?_ | refine WK.regD 100 clsOf (by kernel_rfl) Try.ntmps157 (by kernel_rfl) (by kernel_rfl) ?_
  intro A hA Q hQ
  simp [w1]
  refine hQ _ _ ?_
  clear hQ hA
  repeat (first | refine WK.seq ?_ | refine WK.block ?_ | refine WK.inBlock ?_ | refine WK.skip ?_ | refine WK.label ?_ | refine WK.scope ?_ | refine WK.inScope ?_ | refine WK.exit rfl ?_)
  first | refine WK.reg 200 Try.ntmps157 (by kernel_rfl) ?_ | refine WK.regD 200 clsOf (by kernel_rfl) Try.ntmps157 (by kernel_rfl) (by kernel_rfl) ?_
  intro A hA Q hQ
  simp [w2]
  refine hQ _ _ ?_
  clear hQ hA
  repeat (first | refine WK.seq ?_ | refine WK.block ?_ | refine WK.inBlock ?_ | refine WK.skip ?_ | refine WK.label ?_ | refine WK.scope ?_ | refine WK.inScope ?_ | refine WK.exit rfl ?_)
  refine WK.loopI (fun n => n) (fun p : Nat × Nat × (Nat → Int) => (⟨(upd (upd (upd (upd (upd (upd (upd J 0 (.msl 0 0 n)) 1 (.int .i64 a)) 2 (.int .i64 m)) 3 (.int .i64 b)) 4 (.fn fid caps)) 10 (.int .i64 p.1)) 11 (.int .i64 p.2.1)), (upd B0 0 (.buf 1 (intL (ro p.2.2 n)))), 0⟩ : St)) (fun p => 1 ≤ p.1 ∧ 1 ≤ p.2.1 ∧ p.1 ≤ m ∧ m + p.2.1 ≤ n ∧ rotF p.2.2 (m - p.1) m (m + p.2.1) = rotF f a m b) (fun p => p.1 + p.2.1) ((i0, j0, f)) (by repeat (first | exact TmW.nil | refine TmW.upd ?_ (by simp (maxDischargeDepth := 120) [hcl]))) (by repeat (first | exact BxW.nil | refine BxW.upd ?_ (by simp (maxDischargeDepth := 120) [hcl]))) (by first | exact InjW.id | exact InjW.nil | exact InjW.one | exact InjW.two (by simp) | exact InjW.three (by simp) (by simp) (by simp)) (⟨by dsimp only; omega, by dsimp only; omega, by dsimp only; omega, by dsimp only; omega, e0⟩) (fun p hp IHp => ?_)
  obtain ⟨i, j, g⟩ := p
  obtain ⟨i1, i2, i3, i4, i5⟩ := hp
  dsimp only at i1 i2 i3 i4 i5 IHp ⊢
  obtain ⟨s, hs⟩ : ∃ s, s = m - i := ⟨_, rfl⟩
  have w3 : IntKind.i64.wrap ((m : Int) - i) = s := by rw [wrap_i64 (by omega) (by omega)]; omega
  repeat (first | refine WK.seq ?_ | refine WK.block ?_ | refine WK.inBlock ?_ | refine WK.skip ?_ | refine WK.label ?_ | refine WK.scope ?_ | refine WK.inScope ?_ | refine WK.exit rfl ?_)
  first | refine WK.reg 300 Try.ntmps157 (by kernel_rfl) ?_ | refine WK.regD 300 clsOf (by kernel_rfl) Try.ntmps157 (by kernel_rfl) (by kernel_rfl) ?_
  intro A hA Q hQ
  simp
  refine hQ _ _ ?_
  clear hQ hA
  repeat (first | refine WK.seq ?_ | refine WK.block ?_ | refine WK.inBlock ?_ | refine WK.skip ?_ | refine WK.label ?_ | refine WK.scope ?_ | refine WK.inScope ?_ | refine WK.exit rfl ?_)
  refine WK.cond2 rfl (fun hne => ?_) (fun hne => ?_)
  · simp at hne
    repeat (first | refine WK.seq ?_ | refine WK.block ?_ | refine WK.inBlock ?_ | refine WK.skip ?_ | refine WK.label ?_ | refine WK.scope ?_ | refine WK.inScope ?_ | refine WK.exit rfl ?_)
    first | refine WK.reg 400 Try.ntmps157 (by kernel_rfl) ?_ | refine WK.regD 400 clsOf (by kernel_rfl) Try.ntmps157 (by kernel_rfl) (by kernel_rfl) ?_
    intro A hA Q hQ
    simp
    refine hQ _ _ ?_
    clear hQ hA
    repeat (first | refine WK.seq ?_ | refine WK.block ?_ | refine WK.inBlock ?_ | refine WK.skip ?_ | refine WK.label ?_ | refine WK.scope ?_ | refine WK.inScope ?_ | refine WK.exit rfl ?_)
    refine WK.cond2 rfl (fun hgt => ?_) (fun hgt => ?_)
    · simp at hgt
      have hlt : j < i := by omega
      have w4 : IntKind.i64.wrap ((i : Int) - j) = (i - j : Nat) := by rw [wrap_i64 (by omega) (by omega)]; omega
      have e1 := rot_one g i j m hlt i3
      rw [i5, ← hs] at e1
      repeat (first | refine WK.seq ?_ | refine WK.block ?_ | refine WK.inBlock ?_ | refine WK.skip ?_ | refine WK.label ?_ | refine WK.scope ?_ | refine WK.inScope ?_ | refine WK.exit rfl ?_)
      first | refine WK.reg 500 Try.ntmps157 (by kernel_rfl) ?_ | refine WK.regD 500 clsOf (by kernel_rfl) Try.ntmps157 (by kernel_rfl) (by kernel_rfl) ?_
      intro A hA Q hQ
      simp [w3, hcl]
      refine RunQ.callB 0 rfl rfl rfl (by simp [hcl]) (by rfl) (swap_c fid caps n g s m j hcl hn (by omega) (by omega)) (by simp (maxDischargeDepth := 120) [hcl]) (by simp (maxDischargeDepth := 120) [hcl]) rfl rfl (by simp [hcl]) (by simp [hcl]) ?_
      refine RunQ.eval ?_
      simp [hcl]
      refine hQ _ _ ?_
      clear hQ hA
      repeat (first | refine WK.seq ?_ | refine WK.block ?_ | refine WK.inBlock ?_ | refine WK.skip ?_ | refine WK.label ?_ | refine WK.scope ?_ | refine WK.inScope ?_ | refine WK.exit rfl ?_)
      first | refine WK.reg 600 Try.ntmps157 (by kernel_rfl) ?_ | refine WK.regD 600 clsOf (by kernel_rfl) Try.ntmps157 (by kernel_rfl) (by kernel_rfl) ?_
      intro A hA Q hQ
      simp [w4]
      refine hQ _ _ ?_
      clear hQ hA
      repeat (first | refine WK.seq ?_ | refine WK.block ?_ | refine WK.inBlock ?_ | refine WK.skip ?_ | refine WK.label ?_ | refine WK.scope ?_ | refine WK.inScope ?_ | refine WK.exit rfl ?_)
      refine WK.next (fun n => n) (IHp ((i - j, j, swF g s m j)) (show _ ∧ _ ∧ _ ∧ _ ∧ _ from ⟨by dsimp only; omega, i2, by dsimp only; omega, i4, e1⟩) (by first | omega | (dsimp only; omega))) (by repeat (first | exact TmW.nil | refine TmW.upd ?_ (by simp (maxDischargeDepth := 120) [hcl]))) (by repeat (first | exact BxW.nil | refine BxW.upd ?_ (by simp (maxDischargeDepth := 120) [hcl]))) (by first | exact InjW.id | exact InjW.nil | exact InjW.one | exact InjW.two (by simp) | exact InjW.three (by simp) (by simp) (by simp))
    · simp at hgt
      have hlt : i < j := by omega
      obtain ⟨q, hq⟩ : ∃ q, q = m + j - i := ⟨_, rfl⟩
      have w4 : IntKind.i64.wrap ((j : Int) - i) = (j - i : Nat) := by rw [wrap_i64 (by omega) (by omega)]; omega
      have w5 : IntKind.i64.wrap ((m : Int) + j) = (m + j : Nat) := by rw [wrap_i64 (by omega) (by omega)]; omega
      have w6 : IntKind.i64.wrap (((m : Int) + j) - i) = q := by rw [wrap_i64 (by omega) (by omega)]; omega
      have e1 := rot_two g i j m hlt i3
      rw [i5, ← hs, ← hq] at e1
      rw [← hs] at i5
      repeat (first | refine WK.seq ?_ | refine WK.block ?_ | refine WK.inBlock ?_ | refine WK.skip ?_ | refine WK.label ?_ | refine WK.scope ?_ | refine WK.inScope ?_ | refine WK.exit rfl ?_)
      first | refine WK.reg 700 Try.ntmps157 (by kernel_rfl) ?_ | refine WK.regD 700 clsOf (by kernel_rfl) Try.ntmps157 (by kernel_rfl) (by kernel_rfl) ?_
      intro A hA Q hQ
      simp [w3, w5, w6, hcl]
      refine RunQ.callB 0 rfl rfl rfl (by simp [hcl]) (by rfl) (swap_c fid caps n g s q i hcl hn (by omega) (by omega)) (by simp (maxDischargeDepth := 120) [hcl]) (by simp (maxDischargeDepth := 120) [hcl]) rfl rfl (by simp [hcl]) (by simp [hcl]) ?_
      refine RunQ.eval ?_
      simp [hcl]
      refine hQ _ _ ?_
      clear hQ hA
      repeat (first | refine WK.seq ?_ | refine WK.block ?_ | refine WK.inBlock ?_ | refine WK.skip ?_ | refine WK.label ?_ | refine WK.scope ?_ | refine WK.inScope ?_ | refine WK.exit rfl ?_)
      first | refine WK.reg 800 Try.ntmps157 (by kernel_rfl) ?_ | refine WK.regD 800 clsOf (by kernel_rfl) Try.ntmps157 (by kernel_rfl) (by kernel_rfl) ?_
      intro A hA Q hQ
      simp [w4]
      refine hQ _ _ ?_
      clear hQ hA
      repeat (first | refine WK.seq ?_ | refine WK.block ?_ | refine WK.inBlock ?_ | refine WK.skip ?_ | refine WK.label ?_ | refine WK.scope ?_ | refine WK.inScope ?_ | refine WK.exit rfl ?_)
      refine WK.next (fun n => n) (IHp ((i, j - i, swF g s q i)) (show _ ∧ _ ∧ _ ∧ _ ∧ _ from ⟨i1, by dsimp only; omega, i3, by dsimp only; omega, by dsimp only; rw [← hs]; exact e1⟩) (by first | omega | (dsimp only; omega))) (by repeat (first | exact TmW.nil | refine TmW.upd ?_ (by simp (maxDischargeDepth := 120) [hcl]))) (by repeat (first | exact BxW.nil | refine BxW.upd ?_ (by simp (maxDischargeDepth := 120) [hcl]))) (by first | exact InjW.id | exact InjW.nil | exact InjW.one | exact InjW.two (by simp) | exact InjW.three (by simp) (by simp) (by simp))
  · simp at hne
    have hij : i = j := by omega
    subst hij
    have e1 := rot_eq g i m i3
    rw [i5, ← hs] at e1
    repeat (first | refine WK.seq ?_ | refine WK.block ?_ | refine WK.inBlock ?_ | refine WK.skip ?_ | refine WK.label ?_ | refine WK.scope ?_ | refine WK.inScope ?_ | refine WK.exit rfl ?_)
    first | refine WK.reg 900 Try.ntmps157 (by kernel_rfl) ?_ | refine WK.regD 900 clsOf (by kernel_rfl) Try.ntmps157 (by kernel_rfl) (by kernel_rfl) ?_
    intro A hA Q hQ
    simp [w3, hcl]
    refine RunQ.callB 0 rfl rfl rfl (by simp [hcl]) (by rfl) (swap_c fid caps n g s m i hcl hn (by omega) (by omega)) (by simp (maxDischargeDepth := 120) [hcl]) (by simp (maxDischargeDepth := 120) [hcl]) rfl rfl (by simp [hcl]) (by simp [hcl]) ?_
    refine RunQ.eval ?_
    simp [hcl]
    refine hQ _ _ ?_
    clear hQ hA
    repeat (first | refine WK.seq ?_ | refine WK.block ?_ | refine WK.inBlock ?_ | refine WK.skip ?_ | refine WK.label ?_ | refine WK.scope ?_ | refine WK.inScope ?_ | refine WK.exit rfl ?_)
    refine WK.retB Try.func157 (by simp (maxDischargeDepth := 120) [Try.results157, e1]) (by simp [e1]) rfl (.inl rfl)
end Go.Proofs.Ytfgmjnmkcobhkaa
