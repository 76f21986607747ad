/- The stable sort of any many numbers: the walk; first.Order of any table. -/
import Derived.Test.YtfgmjnmkcobhkaaW28
set_option linter.all false
set_option linter.unnecessarySimpa false
set_option linter.unusedVariables false
set_option linter.unusedSimpArgs false
namespace Go.Proofs.Ytfgmjnmkcobhkaa
open Go Go.AI Go.Proofs

def wF (q : Nat) : Nat := 20 * 2 ^ q
theorem wF_zero : wF 0 = 20 := rfl
theorem wF_succ (q : Nat) : wF (q + 1) = 2 * wF q := (pow_step q).1
def pA (w t : Nat) : Nat := t * (2 * w)
theorem pA_zero (w : Nat) : pA w 0 = 0 := by simp [pA]
theorem pA_succ (w t : Nat) : pA w (t + 1) = pA w t + 2 * w := (two_mul t w).2.2
theorem up_ro (n : Nat) : upFrom 0 n = ro idF n := by unfold upFrom ro; rw [List.range_eq_range']; rfl
set_option maxHeartbeats 8000000 in
theorem stableN_c (fid : Nat) (caps : List AV) (k : Int → Int) (n : Nat) (hcl : ClL caps = true) (hn : n ≤ 1000000) (hf : CmpC fid caps k n) : ∃ g, Srt k g 0 n ∧ (∀ x, x < n → 0 ≤ g x ∧ g x < n) ∧
    FnB Try.prog 125 [.msl 0 0 n, .int .i64 n, .fn fid caps] (.buf 1 (intL (ro idF n))) (.tup []) (.buf 1 (intL (ro g n))) := by
  obtain ⟨r, hr, hlt⟩ := least_round n
  have hall := round_all hcl hn hf r
  have hblk : 0 < n → Blk k (roundF fid caps k n r) 0 n := fun h0 => by
    have := hall 0 (by omega)
    rw [Nat.zero_mul, Nat.zero_add, show min (20 * 2 ^ r) n = n by omega] at this
    exact this
  refine ⟨roundF fid caps k n r, fun x y i1 i2 i3 => (hblk (by omega)).1 x y i1 i2 i3, fun x hx => by have := (hblk (by omega)).2 x (by omega) hx; omega, ?_⟩
  have hz : blkSeq k 0 = idF := rfl
  refine FnB.intro Try.func125 rfl rfl fun G w l => ?_
  repeat (first | refine WK.seq ?_ | refine WK.block ?_ | refine WK.inBlock ?_ | refine WK.skip ?_ | refine WK.label ?_ | refine WK.scope ?_ | refine WK.inScope ?_ | refine WK.exit rfl ?_)
  first | refine WK.reg 100 Try.ntmps125 (by kernel_rfl) ?_ | refine WK.regD 100 clsOf (by kernel_rfl) Try.ntmps125 (by kernel_rfl) (by kernel_rfl) ?_
  intro A hA Q hQ
  simp
  refine hQ _ _ ?_
  clear hQ hA
  repeat (first | refine WK.seq ?_ | refine WK.block ?_ | refine WK.inBlock ?_ | refine WK.skip ?_ | refine WK.label ?_ | refine WK.scope ?_ | refine WK.inScope ?_ | refine WK.exit rfl ?_)
  first | refine WK.reg 200 Try.ntmps125 (by kernel_rfl) ?_ | refine WK.regD 200 clsOf (by kernel_rfl) Try.ntmps125 (by kernel_rfl) (by kernel_rfl) ?_
  intro A hA Q hQ
  simp
  refine hQ _ _ ?_
  clear hQ hA
  repeat (first | refine WK.seq ?_ | refine WK.block ?_ | refine WK.inBlock ?_ | refine WK.skip ?_ | refine WK.label ?_ | refine WK.scope ?_ | refine WK.inScope ?_ | refine WK.exit rfl ?_)
  refine WK.loopI (fun n => n) (fun t : Nat => (⟨(upd (upd (upd (upd (upd (upd J 0 (.msl 0 0 n)) 1 (.int .i64 n)) 2 (.fn fid caps)) 6 (.int .i64 20)) 7 (.int .i64 (20 * t : Nat))) 8 (.int .i64 (20 * t + 20 : Nat))), (upd B0 0 (.buf 1 (intL (ro (blkSeq k t) n)))), 0⟩ : St)) (fun t => 20 * t ≤ n) (fun t => n - t) (0) (by repeat (first | exact TmW.nil | refine TmW.upd ?_ (by simp (maxDischargeDepth := 120) [hcl, hz]))) (by repeat (first | exact BxW.nil | refine BxW.upd ?_ (by simp (maxDischargeDepth := 120) [hcl, hz]))) (by first | exact InjW.id | exact InjW.nil | exact InjW.one | exact InjW.two (by simp) | exact InjW.three (by simp) (by simp) (by simp)) (by omega) (fun t ht IHt => ?_)
  repeat (first | refine WK.seq ?_ | refine WK.block ?_ | refine WK.inBlock ?_ | refine WK.skip ?_ | refine WK.label ?_ | refine WK.scope ?_ | refine WK.inScope ?_ | refine WK.exit rfl ?_)
  first | refine WK.reg 300 Try.ntmps125 (by kernel_rfl) ?_ | refine WK.regD 300 clsOf (by kernel_rfl) Try.ntmps125 (by kernel_rfl) (by kernel_rfl) ?_
  intro A hA Q hQ
  simp
  refine hQ _ _ ?_
  clear hQ hA
  repeat (first | refine WK.seq ?_ | refine WK.block ?_ | refine WK.inBlock ?_ | refine WK.skip ?_ | refine WK.label ?_ | refine WK.scope ?_ | refine WK.inScope ?_ | refine WK.exit rfl ?_)
  refine WK.cond2 rfl (fun h => ?_) (fun h => ?_)
  · simp at h
    have h2 : 20 * t + 20 ≤ n := by omega
    have hx : insSeq k (20 * t) (blkSeq k t) (20 * t + 20) = blkSeq k (t + 1) := rfl
    have w1 : IntKind.i64.wrap (20 * (t : Int) + 20 + 20) = 20 * (t : Int) + 20 + 20 := wrap_i64 (by omega) (by omega)
    have e1 : 20 * ((t : Int) + 1) = 20 * t + 20 := by omega
    repeat (first | refine WK.seq ?_ | refine WK.block ?_ | refine WK.inBlock ?_ | refine WK.skip ?_ | refine WK.label ?_ | refine WK.scope ?_ | refine WK.inScope ?_ | refine WK.exit rfl ?_)
    first | refine WK.reg 400 Try.ntmps125 (by kernel_rfl) ?_ | refine WK.regD 400 clsOf (by kernel_rfl) Try.ntmps125 (by kernel_rfl) (by kernel_rfl) ?_
    intro A hA Q hQ
    simp [hcl]
    refine RunQ.callB 0 rfl rfl rfl (by simp [hcl, hx]) (by rfl) (ins_c fid caps k n hcl hn hf (blkSeq k t) (20 * t) (20 * t + 20) (by omega) (up_id h2 (blk_inv k n t ht).1)) (by simp (maxDischargeDepth := 120) [hcl, hx]) (by simp (maxDischargeDepth := 120) [hcl, hx]) rfl rfl (by simp [hcl, hx]) (by simp [hcl, hx]) ?_
    refine RunQ.eval ?_
    simp [hcl, hx]
    refine hQ _ _ ?_
    clear hQ hA
    repeat (first | refine WK.seq ?_ | refine WK.block ?_ | refine WK.inBlock ?_ | refine WK.skip ?_ | refine WK.label ?_ | refine WK.scope ?_ | refine WK.inScope ?_ | refine WK.exit rfl ?_)
    first | refine WK.reg 500 Try.ntmps125 (by kernel_rfl) ?_ | refine WK.regD 500 clsOf (by kernel_rfl) Try.ntmps125 (by kernel_rfl) (by kernel_rfl) ?_
    intro A hA Q hQ
    simp
    refine hQ _ _ ?_
    clear hQ hA
    repeat (first | refine WK.seq ?_ | refine WK.block ?_ | refine WK.inBlock ?_ | refine WK.skip ?_ | refine WK.label ?_ | refine WK.scope ?_ | refine WK.inScope ?_ | refine WK.exit rfl ?_)
    first | refine WK.reg 600 Try.ntmps125 (by kernel_rfl) ?_ | refine WK.regD 600 clsOf (by kernel_rfl) Try.ntmps125 (by kernel_rfl) (by kernel_rfl) ?_
    intro A hA Q hQ
    simp [w1]
    refine hQ _ _ ?_
    clear hQ hA
    repeat (first | refine WK.seq ?_ | refine WK.block ?_ | refine WK.inBlock ?_ | refine WK.skip ?_ | refine WK.label ?_ | refine WK.scope ?_ | refine WK.inScope ?_ | refine WK.exit rfl ?_)
    refine WK.next (fun n => n) (IHt (t + 1) (by omega) (by first | omega | (dsimp only; omega))) (by repeat (first | exact TmW.nil | refine TmW.upd ?_ (by simp (maxDischargeDepth := 120) [hcl, w1, e1]))) (by repeat (first | exact BxW.nil | refine BxW.upd ?_ (by simp (maxDischargeDepth := 120) [hcl, w1, e1]))) (by first | exact InjW.id | exact InjW.nil | exact InjW.one | exact InjW.two (by simp) | exact InjW.three (by simp) (by simp) (by simp))
  · simp at h
    have hT : t = n / 20 := by omega
    have hx : insSeq k (20 * t) (blkSeq k t) n = roundF fid caps k n 0 := by rw [hT]; rfl
    repeat (first | refine WK.seq ?_ | refine WK.block ?_ | refine WK.inBlock ?_ | refine WK.skip ?_ | refine WK.label ?_ | refine WK.scope ?_ | refine WK.inScope ?_ | refine WK.exit rfl ?_)
    first | refine WK.reg 700 Try.ntmps125 (by kernel_rfl) ?_ | refine WK.regD 700 clsOf (by kernel_rfl) Try.ntmps125 (by kernel_rfl) (by kernel_rfl) ?_
    intro A hA Q hQ
    simp [hcl]
    refine RunQ.callB 0 rfl rfl rfl (by simp [hcl, hx]) (by rfl) (ins_c fid caps k n hcl hn hf (blkSeq k t) (20 * t) n ht (up_id (Nat.le_refl _) (blk_inv k n t ht).1)) (by simp (maxDischargeDepth := 120) [hcl, hx]) (by simp (maxDischargeDepth := 120) [hcl, hx]) rfl rfl (by simp [hcl, hx]) (by simp [hcl, hx]) ?_
    refine RunQ.eval ?_
    simp [hcl, hx]
    refine hQ _ _ ?_
    clear hQ hA
    repeat (first | refine WK.seq ?_ | refine WK.block ?_ | refine WK.inBlock ?_ | refine WK.skip ?_ | refine WK.label ?_ | refine WK.scope ?_ | refine WK.inScope ?_ | refine WK.exit rfl ?_)
    refine WK.loopI (fun n => n) (fun q : Nat => (⟨(upd (upd (upd (upd J 0 (.msl 0 0 n)) 1 (.int .i64 n)) 2 (.fn fid caps)) 6 (.int .i64 (wF q))), (upd B0 0 (.buf 1 (intL (ro (roundF fid caps k n q) n)))), 0⟩ : St)) (fun q => q ≤ r) (fun q => r - q) (0) (by repeat (first | exact TmW.nil | refine TmW.upd ?_ (by simp (maxDischargeDepth := 120) [hcl, hx, wF_zero]))) (by repeat (first | exact BxW.nil | refine BxW.upd ?_ (by simp (maxDischargeDepth := 120) [hcl, hx, wF_zero]))) (by first | exact InjW.id | exact InjW.nil | exact InjW.one | exact InjW.two (by simp) | exact InjW.three (by simp) (by simp) (by simp)) (Nat.zero_le _) (fun q hq IHq => ?_)
    have hw1 : 1 ≤ wF q := (pow_step q).2
    have hws := wF_succ q
    have hqa : AllB k (roundF fid caps k n q) n (wF q) := round_all hcl hn hf q
    have hnx : roundF fid caps k n (q + 1) = passF fid caps k n (roundF fid caps k n q) (wF q) := rfl
    obtain ⟨f, hfq⟩ : ∃ f, f = roundF fid caps k n q := ⟨_, rfl⟩
    rw [← hfq] at hqa hnx ⊢
    repeat (first | refine WK.seq ?_ | refine WK.block ?_ | refine WK.inBlock ?_ | refine WK.skip ?_ | refine WK.label ?_ | refine WK.scope ?_ | refine WK.inScope ?_ | refine WK.exit rfl ?_)
    first | refine WK.reg 800 Try.ntmps125 (by kernel_rfl) ?_ | refine WK.regD 800 clsOf (by kernel_rfl) Try.ntmps125 (by kernel_rfl) (by kernel_rfl) ?_
    intro A hA Q hQ
    simp
    refine hQ _ _ ?_
    clear hQ hA
    repeat (first | refine WK.seq ?_ | refine WK.block ?_ | refine WK.inBlock ?_ | refine WK.skip ?_ | refine WK.label ?_ | refine WK.scope ?_ | refine WK.inScope ?_ | refine WK.exit rfl ?_)
    refine WK.cond2 rfl (fun h3 => ?_) (fun h3 => ?_)
    · simp at h3
      obtain ⟨w, hwq⟩ : ∃ w, w = wF q := ⟨_, rfl⟩
      have hqr : q < r := by
        by_cases e : q < r
        · exact e
        · exfalso
          have e2 : q = r := by omega
          have e3 : wF q = 20 * 2 ^ r := by rw [e2]; rfl
          omega
      rw [← hwq] at hw1 hws hqa hnx h3 ⊢
      have m1 : IntKind.i64.wrap (2 * (w : Int)) = 2 * (w : Int) := wrap_i64 (by omega) (by omega)
      have m2 : IntKind.i64.wrap ((w : Int) * 2) = 2 * (w : Int) := by rw [wrap_i64 (by omega) (by omega)]; omega
      have p0 := pA_zero w
      obtain ⟨T, hT⟩ : ∃ T, T = n / (2 * w) := ⟨_, rfl⟩
      obtain ⟨d1, d2⟩ := div_at n w hw1
      rw [← hT] at d1 d2
      obtain ⟨j1, j2, j3⟩ := pass_inv hcl hn hf hw1 hqa T d1
      have hf0 : passSeq fid caps k n f w 0 = f := rfl
      repeat (first | refine WK.seq ?_ | refine WK.block ?_ | refine WK.inBlock ?_ | refine WK.skip ?_ | refine WK.label ?_ | refine WK.scope ?_ | refine WK.inScope ?_ | refine WK.exit rfl ?_)
      first | refine WK.reg 900 Try.ntmps125 (by kernel_rfl) ?_ | refine WK.regD 900 clsOf (by kernel_rfl) Try.ntmps125 (by kernel_rfl) (by kernel_rfl) ?_
      intro A hA Q hQ
      simp [m1]
      refine hQ _ _ ?_
      clear hQ hA
      repeat (first | refine WK.seq ?_ | refine WK.block ?_ | refine WK.inBlock ?_ | refine WK.skip ?_ | refine WK.label ?_ | refine WK.scope ?_ | refine WK.inScope ?_ | refine WK.exit rfl ?_)
      refine WK.loopI (fun n => n) (fun t : Nat => (⟨(upd (upd (upd (upd (upd (upd J 0 (.msl 0 0 n)) 1 (.int .i64 n)) 2 (.fn fid caps)) 6 (.int .i64 w)) 7 (.int .i64 (pA w t))) 8 (.int .i64 (pA w t + 2 * w : Nat))), (upd B0 0 (.buf 1 (intL (ro (passSeq fid caps k n f w t) n)))), 0⟩ : St)) (fun t => t ≤ T) (fun t => T - t) (0) (by repeat (first | exact TmW.nil | refine TmW.upd ?_ (by simp (maxDischargeDepth := 120) [hcl, p0, hf0, m1]))) (by repeat (first | exact BxW.nil | refine BxW.upd ?_ (by simp (maxDischargeDepth := 120) [hcl, p0, hf0, m1]))) (by first | exact InjW.id | exact InjW.nil | exact InjW.one | exact InjW.two (by simp) | exact InjW.three (by simp) (by simp) (by simp)) (Nat.zero_le _) (fun t ht IHt => ?_)
      have p1 := pA_succ w t
      have p2 : pA w t ≤ pA w T := Nat.mul_le_mul_right (2 * w) ht
      have p3 : pA w T = T * (2 * w) := rfl
      have pe : pA w t = t * (2 * w) := rfl
      repeat (first | refine WK.seq ?_ | refine WK.block ?_ | refine WK.inBlock ?_ | refine WK.skip ?_ | refine WK.label ?_ | refine WK.scope ?_ | refine WK.inScope ?_ | refine WK.exit rfl ?_)
      first | refine WK.reg 1000 Try.ntmps125 (by kernel_rfl) ?_ | refine WK.regD 1000 clsOf (by kernel_rfl) Try.ntmps125 (by kernel_rfl) (by kernel_rfl) ?_
      intro A hA Q hQ
      simp
      refine hQ _ _ ?_
      clear hQ hA
      repeat (first | refine WK.seq ?_ | refine WK.block ?_ | refine WK.inBlock ?_ | refine WK.skip ?_ | refine WK.label ?_ | refine WK.scope ?_ | refine WK.inScope ?_ | refine WK.exit rfl ?_)
      refine WK.cond2 rfl (fun h4 => ?_) (fun h4 => ?_)
      · simp at h4
        have htT : t < T := by
          by_cases e : t < T
          · exact e
          · exfalso
            have e2 : t = T := by omega
            rw [e2] at h4; omega
        have hsp := (symG_spec hcl hn hf (j3 t htT)).2
        have hps : symG fid caps k n (passSeq fid caps k n f w t) (pA w t) (pA w t + w) (pA w t + 2 * w) = passSeq fid caps k n f w (t + 1) := rfl
        rw [← pe] at hsp
        have m3 : IntKind.i64.wrap ((pA w t : Int) + w) = (pA w t : Int) + w := wrap_i64 (by omega) (by omega)
        have m4 : IntKind.i64.wrap ((pA w t : Int) + 2 * w + 2 * w) = (pA w t : Int) + 2 * w + 2 * w := wrap_i64 (by omega) (by omega)
        repeat (first | refine WK.seq ?_ | refine WK.block ?_ | refine WK.inBlock ?_ | refine WK.skip ?_ | refine WK.label ?_ | refine WK.scope ?_ | refine WK.inScope ?_ | refine WK.exit rfl ?_)
        first | refine WK.reg 1100 Try.ntmps125 (by kernel_rfl) ?_ | refine WK.regD 1100 clsOf (by kernel_rfl) Try.ntmps125 (by kernel_rfl) (by kernel_rfl) ?_
        intro A hA Q hQ
        simp [hcl, m3]
        refine RunQ.callB 0 rfl rfl rfl (by simp [hcl, hps]) (by rfl) (hsp) (by simp (maxDischargeDepth := 120) [hcl, hps]) (by simp (maxDischargeDepth := 120) [hcl, hps]) rfl rfl (by simp [hcl, hps]) (by simp [hcl, hps]) ?_
        refine RunQ.eval ?_
        simp [hcl, hps]
        refine hQ _ _ ?_
        clear hQ hA
        repeat (first | refine WK.seq ?_ | refine WK.block ?_ | refine WK.inBlock ?_ | refine WK.skip ?_ | refine WK.label ?_ | refine WK.scope ?_ | refine WK.inScope ?_ | refine WK.exit rfl ?_)
        first | refine WK.reg 1200 Try.ntmps125 (by kernel_rfl) ?_ | refine WK.regD 1200 clsOf (by kernel_rfl) Try.ntmps125 (by kernel_rfl) (by kernel_rfl) ?_
        intro A hA Q hQ
        simp
        refine hQ _ _ ?_
        clear hQ hA
        repeat (first | refine WK.seq ?_ | refine WK.block ?_ | refine WK.inBlock ?_ | refine WK.skip ?_ | refine WK.label ?_ | refine WK.scope ?_ | refine WK.inScope ?_ | refine WK.exit rfl ?_)
        first | refine WK.reg 1300 Try.ntmps125 (by kernel_rfl) ?_ | refine WK.regD 1300 clsOf (by kernel_rfl) Try.ntmps125 (by kernel_rfl) (by kernel_rfl) ?_
        intro A hA Q hQ
        simp [m1, m4]
        refine hQ _ _ ?_
        clear hQ hA
        repeat (first | refine WK.seq ?_ | refine WK.block ?_ | refine WK.inBlock ?_ | refine WK.skip ?_ | refine WK.label ?_ | refine WK.scope ?_ | refine WK.inScope ?_ | refine WK.exit rfl ?_)
        refine WK.next (fun n => n) (IHt (t + 1) (by omega) (by first | omega | (dsimp only; omega))) (by repeat (first | exact TmW.nil | refine TmW.upd ?_ (by simp (maxDischargeDepth := 120) [hcl, m1, m4, p1]))) (by repeat (first | exact BxW.nil | refine BxW.upd ?_ (by simp (maxDischargeDepth := 120) [hcl, m1, m4, p1]))) (by first | exact InjW.id | exact InjW.nil | exact InjW.one | exact InjW.two (by simp) | exact InjW.three (by simp) (by simp) (by simp))
      · simp at h4
        have htT : t = T := by
          by_cases e : t < T
          · exfalso
            have := lt_mul (w := w) e
            rw [← pe, ← p3] at this
            omega
          · omega
        have m3 : IntKind.i64.wrap ((pA w t : Int) + w) = (pA w t : Int) + w := wrap_i64 (by omega) (by omega)
        have e1 : pA w t = T * (2 * w) := by rw [htT]; rfl
        repeat (first | refine WK.seq ?_ | refine WK.block ?_ | refine WK.inBlock ?_ | refine WK.skip ?_ | refine WK.label ?_ | refine WK.scope ?_ | refine WK.inScope ?_ | refine WK.exit rfl ?_)
        first | refine WK.reg 1400 Try.ntmps125 (by kernel_rfl) ?_ | refine WK.regD 1400 clsOf (by kernel_rfl) Try.ntmps125 (by kernel_rfl) (by kernel_rfl) ?_
        intro A hA Q hQ
        simp [m3]
        refine hQ _ _ ?_
        clear hQ hA
        repeat (first | refine WK.seq ?_ | refine WK.block ?_ | refine WK.inBlock ?_ | refine WK.skip ?_ | refine WK.label ?_ | refine WK.scope ?_ | refine WK.inScope ?_ | refine WK.exit rfl ?_)
        first | refine WK.reg 1500 Try.ntmps125 (by kernel_rfl) ?_ | refine WK.regD 1500 clsOf (by kernel_rfl) Try.ntmps125 (by kernel_rfl) (by kernel_rfl) ?_
        intro A hA Q hQ
        simp
        refine hQ _ _ ?_
        clear hQ hA
        repeat (first | refine WK.seq ?_ | refine WK.block ?_ | refine WK.inBlock ?_ | refine WK.skip ?_ | refine WK.label ?_ | refine WK.scope ?_ | refine WK.inScope ?_ | refine WK.exit rfl ?_)
        apply WK.cut (⟨(upd (upd (upd (upd J 0 (.msl 0 0 n)) 1 (.int .i64 n)) 2 (.fn fid caps)) 6 (.int .i64 w)), (upd B0 0 (.buf 1 (intL (ro (roundF fid caps k n (q + 1)) n)))), 0⟩ : St)
        · intro hcut
          repeat (first | refine WK.seq ?_ | refine WK.block ?_ | refine WK.inBlock ?_ | refine WK.skip ?_ | refine WK.label ?_ | refine WK.scope ?_ | refine WK.inScope ?_ | refine WK.exit rfl ?_)
          refine WK.cond2 rfl (fun h5 => ?_) (fun h5 => ?_)
          · simp at h5
            have hl : T * (2 * w) + w < n := by rw [← e1]; omega
            have hpass : passF fid caps k n f w = symG fid caps k n (passSeq fid caps k n f w t) (pA w t) (pA w t + w) n := by
              unfold passF; rw [← hT, if_pos hl, e1, htT]
            rw [hpass] at hnx
            have hpl := pass_last hcl hn hf hw1 hqa (by rw [← hT]; exact hl)
            rw [← hT, ← htT, ← pe] at hpl
            have hsp := (symG_spec hcl hn hf (pre_blk (n := n) (by omega) (by omega) (Nat.le_refl _) hpl.1 hpl.2)).2
            repeat (first | refine WK.seq ?_ | refine WK.block ?_ | refine WK.inBlock ?_ | refine WK.skip ?_ | refine WK.label ?_ | refine WK.scope ?_ | refine WK.inScope ?_ | refine WK.exit rfl ?_)
            first | refine WK.reg 1600 Try.ntmps125 (by kernel_rfl) ?_ | refine WK.regD 1600 clsOf (by kernel_rfl) Try.ntmps125 (by kernel_rfl) (by kernel_rfl) ?_
            intro A hA Q hQ
            simp [hcl]
            refine RunQ.callB 0 rfl rfl rfl (by simp [hcl]) (by rfl) (hsp) (by simp (maxDischargeDepth := 120) [hcl]) (by simp (maxDischargeDepth := 120) [hcl]) rfl rfl (by simp [hcl]) (by simp [hcl]) ?_
            refine RunQ.eval ?_
            simp [hcl]
            refine hQ _ _ ?_
            clear hQ hA
            repeat (first | refine WK.seq ?_ | refine WK.block ?_ | refine WK.inBlock ?_ | refine WK.skip ?_ | refine WK.label ?_ | refine WK.scope ?_ | refine WK.inScope ?_ | refine WK.exit rfl ?_)
            refine WK.next (fun n => n) hcut (by repeat (first | exact TmW.nil | refine TmW.upd ?_ (by simp (maxDischargeDepth := 120) [hcl, hnx]))) (by repeat (first | exact BxW.nil | refine BxW.upd ?_ (by simp (maxDischargeDepth := 120) [hcl, hnx]))) (by first | exact InjW.id | exact InjW.nil | exact InjW.one | exact InjW.two (by simp) | exact InjW.three (by simp) (by simp) (by simp))
          · simp at h5
            have hl : ¬ T * (2 * w) + w < n := by rw [← e1]; omega
            have hpass : passF fid caps k n f w = passSeq fid caps k n f w t := by unfold passF; rw [← hT, if_neg hl, htT]
            rw [hpass] at hnx
            repeat (first | refine WK.seq ?_ | refine WK.block ?_ | refine WK.inBlock ?_ | refine WK.skip ?_ | refine WK.label ?_ | refine WK.scope ?_ | refine WK.inScope ?_ | refine WK.exit rfl ?_)
            refine WK.next (fun n => n) hcut (by repeat (first | exact TmW.nil | refine TmW.upd ?_ (by simp (maxDischargeDepth := 120) [hcl, hnx]))) (by repeat (first | exact BxW.nil | refine BxW.upd ?_ (by simp (maxDischargeDepth := 120) [hcl, hnx]))) (by first | exact InjW.id | exact InjW.nil | exact InjW.one | exact InjW.two (by simp) | exact InjW.three (by simp) (by simp) (by simp))
        repeat (first | refine WK.seq ?_ | refine WK.block ?_ | refine WK.inBlock ?_ | refine WK.skip ?_ | refine WK.label ?_ | refine WK.scope ?_ | refine WK.inScope ?_ | refine WK.exit rfl ?_)
        first | refine WK.reg 1700 Try.ntmps125 (by kernel_rfl) ?_ | refine WK.regD 1700 clsOf (by kernel_rfl) Try.ntmps125 (by kernel_rfl) (by kernel_rfl) ?_
        intro A hA Q hQ
        simp [m2]
        refine hQ _ _ ?_
        clear hQ hA
        repeat (first | refine WK.seq ?_ | refine WK.block ?_ | refine WK.inBlock ?_ | refine WK.skip ?_ | refine WK.label ?_ | refine WK.scope ?_ | refine WK.inScope ?_ | refine WK.exit rfl ?_)
        refine WK.next (fun n => n) (IHq (q + 1) (by omega) (by first | omega | (dsimp only; omega))) (by repeat (first | exact TmW.nil | refine TmW.upd ?_ (by simp (maxDischargeDepth := 120) [hcl, m2, hws]))) (by repeat (first | exact BxW.nil | refine BxW.upd ?_ (by simp (maxDischargeDepth := 120) [hcl, m2, hws]))) (by first | exact InjW.id | exact InjW.nil | exact InjW.one | exact InjW.two (by simp) | exact InjW.three (by simp) (by simp) (by simp))
    · simp at h3
      have e : q = r := by
        by_cases e : q < r
        · exfalso
          have := hlt q e
          have : wF q = 20 * 2 ^ q := rfl
          omega
        · omega
      have e2 : f = roundF fid caps k n r := by rw [hfq, e]
      repeat (first | refine WK.seq ?_ | refine WK.block ?_ | refine WK.inBlock ?_ | refine WK.skip ?_ | refine WK.label ?_ | refine WK.scope ?_ | refine WK.inScope ?_ | refine WK.exit rfl ?_)
      refine WK.retB Try.func125 (by simp (maxDischargeDepth := 120) [Try.results125, e2]) (by simp [e2]) rfl (.inl rfl)
theorem sortStableN_c (fid : Nat) (caps : List AV) (k : Int → Int) (n : Nat) (hcl : ClL caps = true) (hn : n ≤ 1000000) (hf : CmpC fid caps k n) : ∃ g, Srt k g 0 n ∧ (∀ x, x < n → 0 ≤ g x ∧ g x < n) ∧
    FnB Try.prog 82 [.msl 0 0 n, .fn fid caps] (.buf 1 (intL (ro idF n))) (.tup []) (.buf 1 (intL (ro g n))) := by
  obtain ⟨g, h1, h2, h3⟩ := stableN_c fid caps k n hcl hn hf
  refine ⟨g, h1, h2, ?_⟩
  refine FnB.intro Try.func82 rfl rfl fun G w l => ?_
  repeat (first | refine WK.seq ?_ | refine WK.block ?_ | refine WK.inBlock ?_ | refine WK.skip ?_ | refine WK.label ?_ | refine WK.scope ?_ | refine WK.inScope ?_ | refine WK.exit rfl ?_)
  first | refine WK.reg 100 Try.ntmps82 (by kernel_rfl) ?_ | refine WK.regD 100 clsOf (by kernel_rfl) Try.ntmps82 (by kernel_rfl) (by kernel_rfl) ?_
  intro A hA Q hQ
  simp [hcl]
  refine RunQ.callB 0 rfl rfl rfl (by simp [hcl]) (by rfl) (h3) (by simp (maxDischargeDepth := 120) [hcl]) (by simp (maxDischargeDepth := 120) [hcl]) rfl rfl (by simp [hcl]) (by simp [hcl]) ?_
  refine RunQ.eval ?_
  simp [hcl]
  refine hQ _ _ ?_
  clear hQ hA
  repeat (first | refine WK.seq ?_ | refine WK.block ?_ | refine WK.inBlock ?_ | refine WK.skip ?_ | refine WK.label ?_ | refine WK.scope ?_ | refine WK.inScope ?_ | refine WK.exit rfl ?_)
  refine WK.retB Try.func82 (by simp (maxDischargeDepth := 120) [Try.results82]) (by simp) rfl (.inl rfl)
theorem orderN_c (l : List Flow) (hl : l.length ≤ 1000000) : ∃ g, Srt (prioAt l) g 0 l.length ∧ (∀ x, x < l.length → 0 ≤ g x ∧ g x < l.length) ∧
    FnP Try.prog 43 [flowS l] (intS (ro g l.length)) := by
  obtain ⟨g, hg1, hg2, hg3⟩ := sortStableN_c 83 [.iptr [.sl false l.length (flowL l)]] (prioAt l) l.length (by simp) hl (fun x y hx hy => cmp1_c l x y (by omega) hx hy)
  refine ⟨g, hg1, hg2, ?_⟩
  unfold flowS
  have hb : 8 * l.length ≤ 140737488355328 := by omega
  have hur := up_ro l.length
  refine FnP.intro Try.func43 rfl rfl fun G w => ?_
  repeat (first | refine WK.seq ?_ | refine WK.block ?_ | refine WK.inBlock ?_ | refine WK.skip ?_ | refine WK.label ?_ | refine WK.scope ?_ | refine WK.inScope ?_ | refine WK.exit rfl ?_)
  first | refine WK.reg 100 Try.ntmps43 (by kernel_rfl) ?_ | refine WK.regD 100 clsOf (by kernel_rfl) Try.ntmps43 (by kernel_rfl) (by kernel_rfl) ?_
  intro A hA Q hQ
  simp
  refine hQ _ _ ?_
  clear hQ hA
  repeat (first | refine WK.seq ?_ | refine WK.block ?_ | refine WK.inBlock ?_ | refine WK.skip ?_ | refine WK.label ?_ | refine WK.scope ?_ | refine WK.inScope ?_ | refine WK.exit rfl ?_)
  refine WK.ghost (Ghost.frzVar 1 rfl rfl) ?_
  repeat (first | refine WK.seq ?_ | refine WK.block ?_ | refine WK.inBlock ?_ | refine WK.skip ?_ | refine WK.label ?_ | refine WK.scope ?_ | refine WK.inScope ?_ | refine WK.exit rfl ?_)
  first | refine WK.reg 200 Try.ntmps43 (by kernel_rfl) ?_ | refine WK.regD 200 clsOf (by kernel_rfl) Try.ntmps43 (by kernel_rfl) (by kernel_rfl) ?_
  intro A hA Q hQ
  simp
  refine RunQ.make (n := 0) (c := l.length) (k := .i64) (k' := .i64) 900 appInt rfl (by simp) rfl (by simp) (by simp) (by omega) (hb) (by simp) ?_
  refine RunQ.eval ?_
  simp
  refine hQ _ _ ?_
  clear hQ hA
  repeat (first | refine WK.seq ?_ | refine WK.block ?_ | refine WK.inBlock ?_ | refine WK.skip ?_ | refine WK.label ?_ | refine WK.scope ?_ | refine WK.inScope ?_ | refine WK.exit rfl ?_)
  first | refine WK.reg 300 Try.ntmps43 (by kernel_rfl) ?_ | refine WK.regD 300 clsOf (by kernel_rfl) Try.ntmps43 (by kernel_rfl) (by kernel_rfl) ?_
  intro A hA Q hQ
  simp
  refine hQ _ _ ?_
  clear hQ hA
  repeat (first | refine WK.seq ?_ | refine WK.block ?_ | refine WK.inBlock ?_ | refine WK.skip ?_ | refine WK.label ?_ | refine WK.scope ?_ | refine WK.inScope ?_ | refine WK.exit rfl ?_)
  refine WK.loopI (fun _ => 900) (fun i : Nat => (⟨(upd (upd (upd (upd J 1 (.iptr [.sl false l.length (flowL l)])) 3 (.msl 1 0 i)) 9 (.int .i64 l.length)) 10 (.int .i64 i)), (upd B0 1 (.buf 1 (intL (upFrom 0 i)))), 0⟩ : St)) (fun i => i ≤ l.length) (fun i => l.length - i) (0) (by repeat (first | exact TmW.nil | refine TmW.upd ?_ (by simp (maxDischargeDepth := 120) [upFrom, intL]))) (by repeat (first | exact BxW.nil | refine BxW.upd ?_ (by simp (maxDischargeDepth := 120) [upFrom, intL]))) (by first | exact InjW.id | exact InjW.nil | exact InjW.one | exact InjW.two (by simp) | exact InjW.three (by simp) (by simp) (by simp)) (by omega) (fun i hi IH => ?_)
  repeat (first | refine WK.seq ?_ | refine WK.block ?_ | refine WK.inBlock ?_ | refine WK.skip ?_ | refine WK.label ?_ | refine WK.scope ?_ | refine WK.inScope ?_ | refine WK.exit rfl ?_)
  first | refine WK.reg 400 Try.ntmps43 (by kernel_rfl) ?_ | refine WK.regD 400 clsOf (by kernel_rfl) Try.ntmps43 (by kernel_rfl) (by kernel_rfl) ?_
  intro A hA Q hQ
  simp
  refine hQ _ _ ?_
  clear hQ hA
  repeat (first | refine WK.seq ?_ | refine WK.block ?_ | refine WK.inBlock ?_ | refine WK.skip ?_ | refine WK.label ?_ | refine WK.scope ?_ | refine WK.inScope ?_ | refine WK.exit rfl ?_)
  refine WK.cond2 rfl (fun h1 => ?_) (fun h1 => ?_)
  · simp at h1
    have h2 : i < l.length := by omega
    have h6 : IntKind.i64.wrap ((i : Int) + 1) = i + 1 := wrap_i64 (by omega) (by omega)
    have hb2 : (i + 1) * 8 ≤ 140737488355328 := by omega
    have hL : (upFrom 0 i).length = i := by rw [upFrom_len]; omega
    have e1 : intL (upFrom 0 i) ++ [.int .i64 i] = intL (upFrom 0 (i + 1)) := by rw [← upFrom_snoc]; simp [intL]
    repeat (first | refine WK.seq ?_ | refine WK.block ?_ | refine WK.inBlock ?_ | refine WK.skip ?_ | refine WK.label ?_ | refine WK.scope ?_ | refine WK.inScope ?_ | refine WK.exit rfl ?_)
    first | refine WK.reg 500 Try.ntmps43 (by kernel_rfl) ?_ | refine WK.regD 500 clsOf (by kernel_rfl) Try.ntmps43 (by kernel_rfl) (by kernel_rfl) ?_
    intro A hA Q hQ
    simp
    refine hQ _ _ ?_
    clear hQ hA
    repeat (first | refine WK.seq ?_ | refine WK.block ?_ | refine WK.inBlock ?_ | refine WK.skip ?_ | refine WK.label ?_ | refine WK.scope ?_ | refine WK.inScope ?_ | refine WK.exit rfl ?_)
    first | refine WK.reg 600 Try.ntmps43 (by kernel_rfl) ?_ | refine WK.regD 600 clsOf (by kernel_rfl) Try.ntmps43 (by kernel_rfl) (by kernel_rfl) ?_
    intro A hA Q hQ
    simp
    refine RunQ.append 901 appInt rfl rfl rfl rfl rfl rfl rfl (by simp [hb2, hL]) rfl (by simp [hb2, hL]) (by simp [hb2, hL]) (by simp [hb2, hL]) (by simp [hb2, hL]) ?_
    refine RunQ.eval ?_
    simp [hb2, hL]
    refine hQ _ _ ?_
    clear hQ hA
    repeat (first | refine WK.seq ?_ | refine WK.block ?_ | refine WK.inBlock ?_ | refine WK.skip ?_ | refine WK.label ?_ | refine WK.scope ?_ | refine WK.inScope ?_ | refine WK.exit rfl ?_)
    first | refine WK.reg 700 Try.ntmps43 (by kernel_rfl) ?_ | refine WK.regD 700 clsOf (by kernel_rfl) Try.ntmps43 (by kernel_rfl) (by kernel_rfl) ?_
    intro A hA Q hQ
    simp [h6]
    refine hQ _ _ ?_
    clear hQ hA
    repeat (first | refine WK.seq ?_ | refine WK.block ?_ | refine WK.inBlock ?_ | refine WK.skip ?_ | refine WK.label ?_ | refine WK.scope ?_ | refine WK.inScope ?_ | refine WK.exit rfl ?_)
    refine WK.next (fun _ => 901) (IH (i + 1) (by omega) (by first | omega | (dsimp only; omega))) (by repeat (first | exact TmW.nil | refine TmW.upd ?_ (by simp (maxDischargeDepth := 120) [e1, h6]))) (by repeat (first | exact BxW.nil | refine BxW.upd ?_ (by simp (maxDischargeDepth := 120) [e1, h6]))) (by first | exact InjW.id | exact InjW.nil | exact InjW.one | exact InjW.two (by simp) | exact InjW.three (by simp) (by simp) (by simp))
  · simp at h1
    have h2 : i = l.length := by omega
    subst h2
    rw [hur]
    repeat (first | refine WK.seq ?_ | refine WK.block ?_ | refine WK.inBlock ?_ | refine WK.skip ?_ | refine WK.label ?_ | refine WK.scope ?_ | refine WK.inScope ?_ | refine WK.exit rfl ?_)
    first | refine WK.reg 800 Try.ntmps43 (by kernel_rfl) ?_ | refine WK.regD 800 clsOf (by kernel_rfl) Try.ntmps43 (by kernel_rfl) (by kernel_rfl) ?_
    intro A hA Q hQ
    simp
    refine RunQ.callB 1 rfl rfl rfl (by simp) (by rfl) (hg3) (by simp (maxDischargeDepth := 120)) (by simp (maxDischargeDepth := 120)) rfl rfl (by simp) (by simp) ?_
    refine RunQ.eval ?_
    simp
    refine hQ _ _ ?_
    clear hQ hA
    repeat (first | refine WK.seq ?_ | refine WK.block ?_ | refine WK.inBlock ?_ | refine WK.skip ?_ | refine WK.label ?_ | refine WK.scope ?_ | refine WK.inScope ?_ | refine WK.exit rfl ?_)
    first | refine WK.reg 900 Try.ntmps43 (by kernel_rfl) ?_ | refine WK.regD 900 clsOf (by kernel_rfl) Try.ntmps43 (by kernel_rfl) (by kernel_rfl) ?_
    intro A hA Q hQ
    simp
    refine hQ _ _ ?_
    clear hQ hA
    repeat (first | refine WK.seq ?_ | refine WK.block ?_ | refine WK.inBlock ?_ | refine WK.skip ?_ | refine WK.label ?_ | refine WK.scope ?_ | refine WK.inScope ?_ | refine WK.exit rfl ?_)
    refine WK.ghost (Ghost.frzSl 2 1 rfl rfl) ?_
    have hT : (intL (ro g l.length)).take l.length = intL (ro g l.length) := List.take_of_length_le (by simp)
    repeat (first | refine WK.seq ?_ | refine WK.block ?_ | refine WK.inBlock ?_ | refine WK.skip ?_ | refine WK.label ?_ | refine WK.scope ?_ | refine WK.inScope ?_ | refine WK.exit rfl ?_)
    refine WK.ret Try.func43 (by simp (maxDischargeDepth := 120) [Try.results43, intS, hT]) (by simp [intS, hT])
set_option maxHeartbeats 4000000 in
theorem firstOrder_c (l : List Flow) : FnP Try.prog 10 [flowS l] (.bool true) := by
  by_cases hl : l.length ≤ 2000
  case neg =>
    have e1 : decide ((l.length : Int) > 2000) = true := decide_eq_true (by omega)
    unfold flowS
    refine FnP.intro Try.func10 rfl rfl fun G w => ?_
    repeat (first | refine WK.seq ?_ | refine WK.block ?_ | refine WK.inBlock ?_ | refine WK.skip ?_ | refine WK.label ?_ | refine WK.scope ?_ | refine WK.inScope ?_ | refine WK.exit rfl ?_)
    first | refine WK.reg 100 Try.ntmps10 (by kernel_rfl) ?_ | refine WK.regD 100 clsOf (by kernel_rfl) Try.ntmps10 (by kernel_rfl) (by kernel_rfl) ?_
    intro A hA Q hQ
    simp
    refine hQ _ _ ?_
    clear hQ hA
    repeat (first | refine WK.seq ?_ | refine WK.block ?_ | refine WK.inBlock ?_ | refine WK.skip ?_ | refine WK.label ?_ | refine WK.scope ?_ | refine WK.inScope ?_ | refine WK.exit rfl ?_)
    first | refine WK.reg 200 Try.ntmps10 (by kernel_rfl) ?_ | refine WK.regD 200 clsOf (by kernel_rfl) Try.ntmps10 (by kernel_rfl) (by kernel_rfl) ?_
    intro A hA Q hQ
    simp [e1]
    refine hQ _ _ ?_
    clear hQ hA
    repeat (first | refine WK.seq ?_ | refine WK.block ?_ | refine WK.inBlock ?_ | refine WK.skip ?_ | refine WK.label ?_ | refine WK.scope ?_ | refine WK.inScope ?_ | refine WK.exit rfl ?_)
    refine WK.cond2 rfl (fun hh => ?_) (fun hh => ?_)
    · repeat (first | refine WK.seq ?_ | refine WK.block ?_ | refine WK.inBlock ?_ | refine WK.skip ?_ | refine WK.label ?_ | refine WK.scope ?_ | refine WK.inScope ?_ | refine WK.exit rfl ?_)
      first | refine WK.reg 300 Try.ntmps10 (by kernel_rfl) ?_ | refine WK.regD 300 clsOf (by kernel_rfl) Try.ntmps10 (by kernel_rfl) (by kernel_rfl) ?_
      intro A hA Q hQ
      simp
      refine RunQ.call rfl rfl rfl rfl (by rfl) (by simp (maxDischargeDepth := 120)) (awake27_c) (by simp) ?_
      refine RunQ.eval ?_
      simp
      refine hQ _ _ ?_
      clear hQ hA
      repeat (first | refine WK.seq ?_ | refine WK.block ?_ | refine WK.inBlock ?_ | refine WK.skip ?_ | refine WK.label ?_ | refine WK.scope ?_ | refine WK.inScope ?_ | refine WK.exit rfl ?_)
      refine WK.ret Try.func10 (by simp (maxDischargeDepth := 120) [Try.results10]) (by simp)
    · simp at hh
  obtain ⟨g, hgs, hgv, hgo⟩ := orderN_c l (by omega)
  unfold flowS at hgo ⊢
  unfold intS at hgo
  rw [ro_len] at hgo
  refine FnP.intro Try.func10 rfl rfl fun G w => ?_
  repeat (first | refine WK.seq ?_ | refine WK.block ?_ | refine WK.inBlock ?_ | refine WK.skip ?_ | refine WK.label ?_ | refine WK.scope ?_ | refine WK.inScope ?_ | refine WK.exit rfl ?_)
  first | refine WK.reg 100 Try.ntmps10 (by kernel_rfl) ?_ | refine WK.regD 100 clsOf (by kernel_rfl) Try.ntmps10 (by kernel_rfl) (by kernel_rfl) ?_
  intro A hA Q hQ
  simp
  refine hQ _ _ ?_
  clear hQ hA
  repeat (first | refine WK.seq ?_ | refine WK.block ?_ | refine WK.inBlock ?_ | refine WK.skip ?_ | refine WK.label ?_ | refine WK.scope ?_ | refine WK.inScope ?_ | refine WK.exit rfl ?_)
  first | refine WK.reg 200 Try.ntmps10 (by kernel_rfl) ?_ | refine WK.regD 200 clsOf (by kernel_rfl) Try.ntmps10 (by kernel_rfl) (by kernel_rfl) ?_
  intro A hA Q hQ
  simp
  refine hQ _ _ ?_
  clear hQ hA
  repeat (first | refine WK.seq ?_ | refine WK.block ?_ | refine WK.inBlock ?_ | refine WK.skip ?_ | refine WK.label ?_ | refine WK.scope ?_ | refine WK.inScope ?_ | refine WK.exit rfl ?_)
  refine WK.cond2 rfl (fun hh => ?_) (fun hh => ?_)
  · simp at hh; omega
  repeat (first | refine WK.seq ?_ | refine WK.block ?_ | refine WK.inBlock ?_ | refine WK.skip ?_ | refine WK.label ?_ | refine WK.scope ?_ | refine WK.inScope ?_ | refine WK.exit rfl ?_)
  first | refine WK.reg 300 Try.ntmps10 (by kernel_rfl) ?_ | refine WK.regD 300 clsOf (by kernel_rfl) Try.ntmps10 (by kernel_rfl) (by kernel_rfl) ?_
  intro A hA Q hQ
  simp
  refine RunQ.call rfl rfl rfl rfl (by rfl) (by simp (maxDischargeDepth := 120)) (hgo) (by simp) ?_
  refine RunQ.eval ?_
  simp
  refine hQ _ _ ?_
  clear hQ hA
  repeat (first | refine WK.seq ?_ | refine WK.block ?_ | refine WK.inBlock ?_ | refine WK.skip ?_ | refine WK.label ?_ | refine WK.scope ?_ | refine WK.inScope ?_ | refine WK.exit rfl ?_)
  first | refine WK.reg 400 Try.ntmps10 (by kernel_rfl) ?_ | refine WK.regD 400 clsOf (by kernel_rfl) Try.ntmps10 (by kernel_rfl) (by kernel_rfl) ?_
  intro A hA Q hQ
  simp
  refine hQ _ _ ?_
  clear hQ hA
  repeat (first | refine WK.seq ?_ | refine WK.block ?_ | refine WK.inBlock ?_ | refine WK.skip ?_ | refine WK.label ?_ | refine WK.scope ?_ | refine WK.inScope ?_ | refine WK.exit rfl ?_)
  refine WK.cond2 rfl (fun hh => ?_) (fun hh => ?_)
  · cases hh
  repeat (first | refine WK.seq ?_ | refine WK.block ?_ | refine WK.inBlock ?_ | refine WK.skip ?_ | refine WK.label ?_ | refine WK.scope ?_ | refine WK.inScope ?_ | refine WK.exit rfl ?_)
  first | refine WK.reg 500 Try.ntmps10 (by kernel_rfl) ?_ | refine WK.regD 500 clsOf (by kernel_rfl) Try.ntmps10 (by kernel_rfl) (by kernel_rfl) ?_
  intro A hA Q hQ
  simp
  refine hQ _ _ ?_
  clear hQ hA
  repeat (first | refine WK.seq ?_ | refine WK.block ?_ | refine WK.inBlock ?_ | refine WK.skip ?_ | refine WK.label ?_ | refine WK.scope ?_ | refine WK.inScope ?_ | refine WK.exit rfl ?_)
  refine WK.loopI (fun n => n) (fun i : Nat => (⟨(upd (upd (upd (upd (upd J 0 (.sl false l.length (flowL l))) 3 (.sl false l.length (intL (ro g l.length)))) 17 (.sl false l.length (intL (ro g l.length)))) 18 (.int .i64 l.length)) 19 (.int .i64 i)), B0, 0⟩ : St)) (fun i => i ≤ l.length) (fun i => l.length - i) (0) (by repeat (first | exact TmW.nil | refine TmW.upd ?_ (by simp (maxDischargeDepth := 120)))) (by repeat (first | exact BxW.nil | refine BxW.upd ?_ (by simp (maxDischargeDepth := 120)))) (by first | exact InjW.id | exact InjW.nil | exact InjW.one | exact InjW.two (by simp) | exact InjW.three (by simp) (by simp) (by simp)) (by omega) (fun i hi IH => ?_)
  repeat (first | refine WK.seq ?_ | refine WK.block ?_ | refine WK.inBlock ?_ | refine WK.skip ?_ | refine WK.label ?_ | refine WK.scope ?_ | refine WK.inScope ?_ | refine WK.exit rfl ?_)
  first | refine WK.reg 600 Try.ntmps10 (by kernel_rfl) ?_ | refine WK.regD 600 clsOf (by kernel_rfl) Try.ntmps10 (by kernel_rfl) (by kernel_rfl) ?_
  intro A hA Q hQ
  simp
  refine hQ _ _ ?_
  clear hQ hA
  repeat (first | refine WK.seq ?_ | refine WK.block ?_ | refine WK.inBlock ?_ | refine WK.skip ?_ | refine WK.label ?_ | refine WK.scope ?_ | refine WK.inScope ?_ | refine WK.exit rfl ?_)
  refine WK.cond2 rfl (fun h1 => ?_) (fun h1 => ?_)
  · simp at h1
    have h2 : i < l.length := by omega
    have h6 : IntKind.i64.wrap ((i : Int) + 1) = i + 1 := wrap_i64 (by omega) (by omega)
    have r1 := hgv i h2
    obtain ⟨q, hq⟩ : ∃ q : Nat, g i = q := ⟨(g i).toNat, by omega⟩
    have hql : q < l.length := by omega
    have s1 := ro_sub g l.length i h2
    rw [hq] at s1
    have f2 := flow_get1 l q hql
    have b2 : q * 7 + 1 < l.length * 7 := by omega
    repeat (first | refine WK.seq ?_ | refine WK.block ?_ | refine WK.inBlock ?_ | refine WK.skip ?_ | refine WK.label ?_ | refine WK.scope ?_ | refine WK.inScope ?_ | refine WK.exit rfl ?_)
    first | refine WK.reg 700 Try.ntmps10 (by kernel_rfl) ?_ | refine WK.regD 700 clsOf (by kernel_rfl) Try.ntmps10 (by kernel_rfl) (by kernel_rfl) ?_
    intro A hA Q hQ
    simp [h2, s1]
    refine hQ _ _ ?_
    clear hQ hA
    have q0 : decide ((q : Int) < 0) = false := decide_eq_false (by omega)
    repeat (first | refine WK.seq ?_ | refine WK.block ?_ | refine WK.inBlock ?_ | refine WK.skip ?_ | refine WK.label ?_ | refine WK.scope ?_ | refine WK.inScope ?_ | refine WK.exit rfl ?_)
    first | refine WK.reg 800 Try.ntmps10 (by kernel_rfl) ?_ | refine WK.regD 800 clsOf (by kernel_rfl) Try.ntmps10 (by kernel_rfl) (by kernel_rfl) ?_
    intro A hA Q hQ
    have hg2 : (A[2]?).bind (·.dst) = some 26 := by rw [hA]; rfl
    simp [hql, q0, hg2]
    refine hQ _ _ ?_
    clear hQ hA
    repeat (first | refine WK.seq ?_ | refine WK.block ?_ | refine WK.inBlock ?_ | refine WK.skip ?_ | refine WK.label ?_ | refine WK.scope ?_ | refine WK.inScope ?_ | refine WK.exit rfl ?_)
    refine WK.cond2 rfl (fun hh => ?_) (fun hh => ?_)
    · simp at hh; omega
    by_cases hi0 : i = 0
    · subst hi0
      repeat (first | refine WK.seq ?_ | refine WK.block ?_ | refine WK.inBlock ?_ | refine WK.skip ?_ | refine WK.label ?_ | refine WK.scope ?_ | refine WK.inScope ?_ | refine WK.exit rfl ?_)
      first | refine WK.reg 900 Try.ntmps10 (by kernel_rfl) ?_ | refine WK.regD 900 clsOf (by kernel_rfl) Try.ntmps10 (by kernel_rfl) (by kernel_rfl) ?_
      intro A hA Q hQ
      have hg2 : (A[2]?).bind (·.dst) = some 34 := by rw [hA]; rfl
      have hg18 : (A[18]?).bind (·.dst) = some 50 := by rw [hA]; rfl
      have hg34 : (A[34]?).bind (·.dst) = some 66 := by rw [hA]; rfl
      simp [hg2, hg18, hg34]
      refine hQ _ _ ?_
      clear hQ hA
      repeat (first | refine WK.seq ?_ | refine WK.block ?_ | refine WK.inBlock ?_ | refine WK.skip ?_ | refine WK.label ?_ | refine WK.scope ?_ | refine WK.inScope ?_ | refine WK.exit rfl ?_)
      refine WK.cond2 rfl (fun hh => ?_) (fun hh => ?_)
      · cases hh
      repeat (first | refine WK.seq ?_ | refine WK.block ?_ | refine WK.inBlock ?_ | refine WK.skip ?_ | refine WK.label ?_ | refine WK.scope ?_ | refine WK.inScope ?_ | refine WK.exit rfl ?_)
      first | refine WK.reg 1000 Try.ntmps10 (by kernel_rfl) ?_ | refine WK.regD 1000 clsOf (by kernel_rfl) Try.ntmps10 (by kernel_rfl) (by kernel_rfl) ?_
      intro A hA Q hQ
      simp
      refine hQ _ _ ?_
      clear hQ hA
      repeat (first | refine WK.seq ?_ | refine WK.block ?_ | refine WK.inBlock ?_ | refine WK.skip ?_ | refine WK.label ?_ | refine WK.scope ?_ | refine WK.inScope ?_ | refine WK.exit rfl ?_)
      refine WK.next (fun n => n) (IH (1) (by omega) (by first | omega | (dsimp only; omega))) (by repeat (first | exact TmW.nil | refine TmW.upd ?_ (by simp (maxDischargeDepth := 120) [w64_1]))) (by repeat (first | exact BxW.nil | refine BxW.upd ?_ (by simp (maxDischargeDepth := 120) [w64_1]))) (by first | exact InjW.id | exact InjW.nil | exact InjW.one | exact InjW.two (by simp) | exact InjW.three (by simp) (by simp) (by simp))
    obtain ⟨j, rfl⟩ : ∃ j, i = j + 1 := ⟨i - 1, by omega⟩
    have h3 : j < l.length := by omega
    have r2 := hgv j h3
    obtain ⟨p, hp⟩ : ∃ p : Nat, g j = p := ⟨(g j).toNat, by omega⟩
    have hpl : p < l.length := by omega
    have s2 := ro_sub g l.length j h3
    rw [hp] at s2
    have f1 := flow_get1 l p hpl
    have b1 : p * 7 + 1 < l.length * 7 := by omega
    have w1 : IntKind.i64.wrap (j : Int) = j := wrap_i64 (by omega) (by omega)
    have ha := hgs j (j + 1) (Nat.zero_le _) (by omega) h2
    rw [hp, hq] at ha
    have e1 : prioAt l p = (nth l p).prio := by simp [prioAt]
    have e2 : prioAt l q = (nth l q).prio := by simp [prioAt]
    unfold ahead at ha
    rw [e1, e2] at ha
    have c0 : (0 : Int) < (j : Int) + 1 := by omega
    have h7 : IntKind.i64.wrap ((j : Int) + 1 + 1) = (j : Int) + 1 + 1 := wrap_i64 (by omega) (by omega)
    have c1 : decide ((nth l p).prio < (nth l q).prio) = false := decide_eq_false (by omega)
    by_cases hpq : (nth l p).prio = (nth l q).prio
    · have c2 : ¬ (q : Int) ≤ p := by omega
      have c3 : ¬ q ≤ p := by omega
      repeat (first | refine WK.seq ?_ | refine WK.block ?_ | refine WK.inBlock ?_ | refine WK.skip ?_ | refine WK.label ?_ | refine WK.scope ?_ | refine WK.inScope ?_ | refine WK.exit rfl ?_)
      first | refine WK.reg 1100 Try.ntmps10 (by kernel_rfl) ?_ | refine WK.regD 1100 clsOf (by kernel_rfl) Try.ntmps10 (by kernel_rfl) (by kernel_rfl) ?_
      intro A hA Q hQ
      have hg2 : (A[2]?).bind (·.dst) = some 34 := by rw [hA]; rfl
      have hg18 : (A[18]?).bind (·.dst) = some 50 := by rw [hA]; rfl
      have hg34 : (A[34]?).bind (·.dst) = some 66 := by rw [hA]; rfl
      simp [w1, s2, hpl, hql, h3, f1, f2, b1, b2, c0, c1, hpq, c2, c3, hg2, hg18, hg34]
      refine hQ _ _ ?_
      clear hQ hA
      repeat (first | refine WK.seq ?_ | refine WK.block ?_ | refine WK.inBlock ?_ | refine WK.skip ?_ | refine WK.label ?_ | refine WK.scope ?_ | refine WK.inScope ?_ | refine WK.exit rfl ?_)
      refine WK.cond2 rfl (fun hh => ?_) (fun hh => ?_)
      · cases hh
      repeat (first | refine WK.seq ?_ | refine WK.block ?_ | refine WK.inBlock ?_ | refine WK.skip ?_ | refine WK.label ?_ | refine WK.scope ?_ | refine WK.inScope ?_ | refine WK.exit rfl ?_)
      first | refine WK.reg 1200 Try.ntmps10 (by kernel_rfl) ?_ | refine WK.regD 1200 clsOf (by kernel_rfl) Try.ntmps10 (by kernel_rfl) (by kernel_rfl) ?_
      intro A hA Q hQ
      simp [h7]
      refine hQ _ _ ?_
      clear hQ hA
      repeat (first | refine WK.seq ?_ | refine WK.block ?_ | refine WK.inBlock ?_ | refine WK.skip ?_ | refine WK.label ?_ | refine WK.scope ?_ | refine WK.inScope ?_ | refine WK.exit rfl ?_)
      refine WK.next (fun n => n) (IH (j + 1 + 1) (by omega) (by first | omega | (dsimp only; omega))) (by repeat (first | exact TmW.nil | refine TmW.upd ?_ (by simp (maxDischargeDepth := 120) [h7]))) (by repeat (first | exact BxW.nil | refine BxW.upd ?_ (by simp (maxDischargeDepth := 120) [h7]))) (by first | exact InjW.id | exact InjW.nil | exact InjW.one | exact InjW.two (by simp) | exact InjW.three (by simp) (by simp) (by simp))
    · have c4 : ((nth l p).prio == (nth l q).prio) = false := beq_eq_false_iff_ne.2 hpq
      repeat (first | refine WK.seq ?_ | refine WK.block ?_ | refine WK.inBlock ?_ | refine WK.skip ?_ | refine WK.label ?_ | refine WK.scope ?_ | refine WK.inScope ?_ | refine WK.exit rfl ?_)
      first | refine WK.reg 1300 Try.ntmps10 (by kernel_rfl) ?_ | refine WK.regD 1300 clsOf (by kernel_rfl) Try.ntmps10 (by kernel_rfl) (by kernel_rfl) ?_
      intro A hA Q hQ
      have hg2 : (A[2]?).bind (·.dst) = some 34 := by rw [hA]; rfl
      have hg18 : (A[18]?).bind (·.dst) = some 50 := by rw [hA]; rfl
      have hg34 : (A[34]?).bind (·.dst) = some 66 := by rw [hA]; rfl
      simp [w1, s2, hpl, hql, h3, f1, f2, b1, b2, c0, c1, hpq, c4, hg2, hg18, hg34]
      refine hQ _ _ ?_
      clear hQ hA
      repeat (first | refine WK.seq ?_ | refine WK.block ?_ | refine WK.inBlock ?_ | refine WK.skip ?_ | refine WK.label ?_ | refine WK.scope ?_ | refine WK.inScope ?_ | refine WK.exit rfl ?_)
      refine WK.cond2 rfl (fun hh => ?_) (fun hh => ?_)
      · cases hh
      repeat (first | refine WK.seq ?_ | refine WK.block ?_ | refine WK.inBlock ?_ | refine WK.skip ?_ | refine WK.label ?_ | refine WK.scope ?_ | refine WK.inScope ?_ | refine WK.exit rfl ?_)
      first | refine WK.reg 1400 Try.ntmps10 (by kernel_rfl) ?_ | refine WK.regD 1400 clsOf (by kernel_rfl) Try.ntmps10 (by kernel_rfl) (by kernel_rfl) ?_
      intro A hA Q hQ
      simp [h7]
      refine hQ _ _ ?_
      clear hQ hA
      repeat (first | refine WK.seq ?_ | refine WK.block ?_ | refine WK.inBlock ?_ | refine WK.skip ?_ | refine WK.label ?_ | refine WK.scope ?_ | refine WK.inScope ?_ | refine WK.exit rfl ?_)
      refine WK.next (fun n => n) (IH (j + 1 + 1) (by omega) (by first | omega | (dsimp only; omega))) (by repeat (first | exact TmW.nil | refine TmW.upd ?_ (by simp (maxDischargeDepth := 120) [h7]))) (by repeat (first | exact BxW.nil | refine BxW.upd ?_ (by simp (maxDischargeDepth := 120) [h7]))) (by first | exact InjW.id | exact InjW.nil | exact InjW.one | exact InjW.two (by simp) | exact InjW.three (by simp) (by simp) (by simp))
  · repeat (first | refine WK.seq ?_ | refine WK.block ?_ | refine WK.inBlock ?_ | refine WK.skip ?_ | refine WK.label ?_ | refine WK.scope ?_ | refine WK.inScope ?_ | refine WK.exit rfl ?_)
    first | refine WK.reg 1500 Try.ntmps10 (by kernel_rfl) ?_ | refine WK.regD 1500 clsOf (by kernel_rfl) Try.ntmps10 (by kernel_rfl) (by kernel_rfl) ?_
    intro A hA Q hQ
    simp
    refine RunQ.call rfl rfl rfl rfl (by rfl) (by simp (maxDischargeDepth := 120)) (awake27_c) (by simp) ?_
    refine RunQ.eval ?_
    simp
    refine hQ _ _ ?_
    clear hQ hA
    repeat (first | refine WK.seq ?_ | refine WK.block ?_ | refine WK.inBlock ?_ | refine WK.skip ?_ | refine WK.label ?_ | refine WK.scope ?_ | refine WK.inScope ?_ | refine WK.exit rfl ?_)
    refine WK.ret Try.func10 (by simp (maxDischargeDepth := 120) [Try.results10]) (by simp)
end Go.Proofs.Ytfgmjnmkcobhkaa
