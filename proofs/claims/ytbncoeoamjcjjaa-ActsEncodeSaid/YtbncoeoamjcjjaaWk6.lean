/- Parts of a match: their head read. -/
import Derived.Test.YtbncoeoamjcjjaaWk5
import Derived.Test.YtbncoeoamjcjjaaAf
set_option linter.all false
set_option linter.unnecessarySimpa false
section
set_option linter.unusedVariables false
set_option linter.unusedSimpArgs false
namespace Go.Proofs.Ytbncoeoamjcjjaa
open Go Go.AI Go.Proofs

def bAt (b : List (BitVec 8)) (i : Nat) : Nat := (nth b i).toNat
def hField (b : List (BitVec 8)) : Int × Bool := fIndex (bAt b 2 / 2 : Nat)
def hMasked (b : List (BitVec 8)) : Bool := bAt b 2 % 2 == 1
def hWant (b : List (BitVec 8)) : Nat := if hMasked b then fSize (hField b).1 * 2 else fSize (hField b).1
/-- what is wrong with a part's head; 0 if nothing is -/
def hCode (b : List (BitVec 8)) : Int :=
  if b.length < 4 then 1 else if b.length < 4 + bAt b 3 then 1
  else if bAt b 0 != 128 || (bAt b 1 != 0 || !(hField b).2) then 6
  else if hMasked b && !fMasks (hField b).1 then 8
  else if bAt b 3 != hWant b then 1 else 0
theorem u8_and : ∀ x : BitVec 8, bAnd .u8 (bI x) 1 = ((x.toNat % 2 : Nat) : Int) := by
  intro x
  have h : ∀ n : Fin 256, bAnd .u8 ((n.val : Int)) 1 = ((n.val % 2 : Nat) : Int) := by decide +kernel
  exact h ⟨x.toNat, x.isLt⟩
theorem u8_shr : ∀ x : BitVec 8, bShr .u8 (bI x) 1 = ((x.toNat / 2 : Nat) : Int) := by
  intro x
  have h : ∀ n : Fin 256, bShr .u8 ((n.val : Int)) 1 = ((n.val / 2 : Nat) : Int) := by decide +kernel
  exact h ⟨x.toNat, x.isLt⟩
theorem bI_nat (b : List (BitVec 8)) (i : Nat) : bI (nth b i) = (bAt b i : Int) := rfl
theorem bAt_lt (b : List (BitVec 8)) (i : Nat) : bAt b i < 256 := (nth b i).isLt
def hRes (b : List (BitVec 8)) : List AV := if hCode b = 0 then [.int .i64 (hField b).1, .bool (hMasked b), .int .i64 (bAt b 3 : Nat), .int .i64 0] else [.int .i64 0, .bool false, .int .i64 0, .int .i64 (hCode b)]
set_option maxHeartbeats 4000000 in
theorem ohead_c (b : List (BitVec 8)) (hb0 : b.length ≤ 9223372036854775807) : FnP Try.prog 156 [byS b] (.tup (hRes b)) := by
  unfold byS
  by_cases h4 : b.length < 4
  · have e : hCode b = 1 := by unfold hCode; rw [if_pos h4]
    have er : hRes b = [.int .i64 0, .bool false, .int .i64 0, .int .i64 1] := by unfold hRes; rw [if_neg (by omega), e]
    rw [er]
    refine FnP.intro Try.func156 rfl rfl fun G w => ?_
    repeat (first | refine WK.seq ?_ | refine WK.block ?_ | refine WK.inBlock ?_ | refine WK.skip ?_ | refine WK.label ?_ | refine WK.scope ?_ | refine WK.inScope ?_ | refine WK.exit rfl ?_)
    first | refine WK.reg 100 Try.ntmps156 (by kernel_rfl) ?_ | refine WK.regD 100 clsOf (by kernel_rfl) Try.ntmps156 (by kernel_rfl) (by kernel_rfl) ?_
    intro A hA Q hQ
    simp
    refine hQ _ _ ?_
    clear hQ hA
    repeat (first | refine WK.seq ?_ | refine WK.block ?_ | refine WK.inBlock ?_ | refine WK.skip ?_ | refine WK.label ?_ | refine WK.scope ?_ | refine WK.inScope ?_ | refine WK.exit rfl ?_)
    first | refine WK.reg 200 Try.ntmps156 (by kernel_rfl) ?_ | refine WK.regD 200 clsOf (by kernel_rfl) Try.ntmps156 (by kernel_rfl) (by kernel_rfl) ?_
    intro A hA Q hQ
    simp [h4]
    refine hQ _ _ ?_
    clear hQ hA
    repeat (first | refine WK.seq ?_ | refine WK.block ?_ | refine WK.inBlock ?_ | refine WK.skip ?_ | refine WK.label ?_ | refine WK.scope ?_ | refine WK.inScope ?_ | refine WK.exit rfl ?_)
    refine WK.cond2 rfl (fun h => ?_) (fun h => ?_)
    · repeat (first | refine WK.seq ?_ | refine WK.block ?_ | refine WK.inBlock ?_ | refine WK.skip ?_ | refine WK.label ?_ | refine WK.scope ?_ | refine WK.inScope ?_ | refine WK.exit rfl ?_)
      first | refine WK.reg 300 Try.ntmps156 (by kernel_rfl) ?_ | refine WK.regD 300 clsOf (by kernel_rfl) Try.ntmps156 (by kernel_rfl) (by kernel_rfl) ?_
      intro A hA Q hQ
      simp
      refine hQ _ _ ?_
      clear hQ hA
      repeat (first | refine WK.seq ?_ | refine WK.block ?_ | refine WK.inBlock ?_ | refine WK.skip ?_ | refine WK.label ?_ | refine WK.scope ?_ | refine WK.inScope ?_ | refine WK.exit rfl ?_)
      refine WK.ret Try.func156 (by simp (maxDischargeDepth := 120) [Try.results156]) (by simp)
    · simp at h; omega
  have i0 : 0 < b.length := by omega
  have i1 : 1 < b.length := by omega
  have i2 : 2 < b.length := by omega
  have i3 : 3 < b.length := by omega
  have j0 : (0 : Int) < b.length := by omega
  have j1 : (1 : Int) < b.length := by omega
  have j2 : (2 : Int) < b.length := by omega
  have j3 : (3 : Int) < b.length := by omega
  have g0 := by_get b 0 i0
  have g1 := by_get b 1 i1
  have g2 := by_get b 2 i2
  have g3 := by_get b 3 i3
  have l2 := bAt_lt b 2
  have l3 := bAt_lt b 3
  have m1 := u8_and (nth b 2)
  have m2 := u8_shr (nth b 2)
  have m3 : IntKind.i64.wrap (bI (nth b 3)) = (bAt b 3 : Int) := by rw [bI_nat]; exact wrap_i64 (by omega) (by omega)
  have m4 : IntKind.i64.wrap (((nth b 2).toNat / 2 : Nat) : Int) = ((bAt b 2 / 2 : Nat) : Int) := by show IntKind.i64.wrap ((bAt b 2 / 2 : Nat) : Int) = _; exact wrap_i64 (by omega) (by omega)
  have hfi := findex_c ((bAt b 2 / 2 : Nat) : Int)
  obtain ⟨q, hq⟩ : ∃ q, q = bAt b 2 / 2 := ⟨_, rfl⟩
  have hF : hField b = fIndex q := by unfold hField; rw [hq]
  rw [← hq] at m4 hfi
  have m2' : bShr .u8 (bI (nth b 2)) 1 = (q : Int) := by rw [m2, hq]; rfl
  have m4' : IntKind.i64.wrap (q : Int) = q := wrap_i64 (by omega) (by omega)
  rw [← hF] at hfi
  have hsz := fSize_le (hField b).1
  have hfs := fsize_c (hField b).1
  obtain ⟨f, ok⟩ : ∃ f : Int × Bool, f = hField b := ⟨_, rfl⟩
  refine FnP.intro Try.func156 rfl rfl fun G w => ?_
  repeat (first | refine WK.seq ?_ | refine WK.block ?_ | refine WK.inBlock ?_ | refine WK.skip ?_ | refine WK.label ?_ | refine WK.scope ?_ | refine WK.inScope ?_ | refine WK.exit rfl ?_)
  first | refine WK.reg 100 Try.ntmps156 (by kernel_rfl) ?_ | refine WK.regD 100 clsOf (by kernel_rfl) Try.ntmps156 (by kernel_rfl) (by kernel_rfl) ?_
  intro A hA Q hQ
  simp
  refine hQ _ _ ?_
  clear hQ hA
  repeat (first | refine WK.seq ?_ | refine WK.block ?_ | refine WK.inBlock ?_ | refine WK.skip ?_ | refine WK.label ?_ | refine WK.scope ?_ | refine WK.inScope ?_ | refine WK.exit rfl ?_)
  first | refine WK.reg 200 Try.ntmps156 (by kernel_rfl) ?_ | refine WK.regD 200 clsOf (by kernel_rfl) Try.ntmps156 (by kernel_rfl) (by kernel_rfl) ?_
  intro A hA Q hQ
  simp
  refine hQ _ _ ?_
  clear hQ hA
  repeat (first | refine WK.seq ?_ | refine WK.block ?_ | refine WK.inBlock ?_ | refine WK.skip ?_ | refine WK.label ?_ | refine WK.scope ?_ | refine WK.inScope ?_ | refine WK.exit rfl ?_)
  refine WK.cond2 rfl (fun h => ?_) (fun h => ?_)
  · simp at h; omega
  repeat (first | refine WK.seq ?_ | refine WK.block ?_ | refine WK.inBlock ?_ | refine WK.skip ?_ | refine WK.label ?_ | refine WK.scope ?_ | refine WK.inScope ?_ | refine WK.exit rfl ?_)
  apply WK.cut (⟨(upd (upd (upd J 0 (.sl false b.length (byL b))) 6 (.int .i64 (bAt b 3 : Nat))) 7 (.bool (hMasked b))), B0, 0⟩ : St)
  · intro hcut
    cases hm : hMasked b
    · have m5 : bAnd .u8 (bI (nth b 2)) 1 = 0 := by
        rw [m1]
        have h1 : ¬ ((nth b 2).toNat % 2 = 1) := by intro h1; unfold hMasked bAt at hm; rw [h1] at hm; cases hm
        have h2 : (nth b 2).toNat % 2 = 0 := by omega
        rw [h2]; rfl
      repeat (first | refine WK.seq ?_ | refine WK.block ?_ | refine WK.inBlock ?_ | refine WK.skip ?_ | refine WK.label ?_ | refine WK.scope ?_ | refine WK.inScope ?_ | refine WK.exit rfl ?_)
      first | refine WK.reg 300 Try.ntmps156 (by kernel_rfl) ?_ | refine WK.regD 300 clsOf (by kernel_rfl) Try.ntmps156 (by kernel_rfl) (by kernel_rfl) ?_
      intro A hA Q hQ
      simp [g2, g3, m3, m5, i2, i3, j2, j3]
      refine hQ _ _ ?_
      clear hQ hA
      repeat (first | refine WK.seq ?_ | refine WK.block ?_ | refine WK.inBlock ?_ | refine WK.skip ?_ | refine WK.label ?_ | refine WK.scope ?_ | refine WK.inScope ?_ | refine WK.exit rfl ?_)
      refine WK.next (fun n => n) hcut (by repeat (first | exact TmW.nil | refine TmW.upd ?_ (by simp (maxDischargeDepth := 120) [hm]))) (by repeat (first | exact BxW.nil | refine BxW.upd ?_ (by simp (maxDischargeDepth := 120) [hm]))) (by first | exact InjW.id | exact InjW.nil | exact InjW.one | exact InjW.two (by simp) | exact InjW.three (by simp) (by simp) (by simp))
    · have m5 : bAnd .u8 (bI (nth b 2)) 1 = 1 := by
        rw [m1]
        have h2 : (nth b 2).toNat % 2 = 1 := by unfold hMasked bAt at hm; simpa using hm
        rw [h2]; rfl
      repeat (first | refine WK.seq ?_ | refine WK.block ?_ | refine WK.inBlock ?_ | refine WK.skip ?_ | refine WK.label ?_ | refine WK.scope ?_ | refine WK.inScope ?_ | refine WK.exit rfl ?_)
      first | refine WK.reg 400 Try.ntmps156 (by kernel_rfl) ?_ | refine WK.regD 400 clsOf (by kernel_rfl) Try.ntmps156 (by kernel_rfl) (by kernel_rfl) ?_
      intro A hA Q hQ
      simp [g2, g3, m3, m5, i2, i3, j2, j3]
      refine hQ _ _ ?_
      clear hQ hA
      repeat (first | refine WK.seq ?_ | refine WK.block ?_ | refine WK.inBlock ?_ | refine WK.skip ?_ | refine WK.label ?_ | refine WK.scope ?_ | refine WK.inScope ?_ | refine WK.exit rfl ?_)
      refine WK.next (fun n => n) hcut (by repeat (first | exact TmW.nil | refine TmW.upd ?_ (by simp (maxDischargeDepth := 120) [hm]))) (by repeat (first | exact BxW.nil | refine BxW.upd ?_ (by simp (maxDischargeDepth := 120) [hm]))) (by first | exact InjW.id | exact InjW.nil | exact InjW.one | exact InjW.two (by simp) | exact InjW.three (by simp) (by simp) (by simp))
  repeat (first | refine WK.seq ?_ | refine WK.block ?_ | refine WK.inBlock ?_ | refine WK.skip ?_ | refine WK.label ?_ | refine WK.scope ?_ | refine WK.inScope ?_ | refine WK.exit rfl ?_)
  first | refine WK.reg 500 Try.ntmps156 (by kernel_rfl) ?_ | refine WK.regD 500 clsOf (by kernel_rfl) Try.ntmps156 (by kernel_rfl) (by kernel_rfl) ?_
  intro A hA Q hQ
  simp [g2, m2', m4', i2, j2]
  refine RunQ.call rfl rfl rfl rfl (by rfl) (by simp (maxDischargeDepth := 120)) (hfi) (by simp) ?_
  refine RunQ.eval ?_
  simp
  refine hQ _ _ ?_
  clear hQ hA
  repeat (first | refine WK.seq ?_ | refine WK.block ?_ | refine WK.inBlock ?_ | refine WK.skip ?_ | refine WK.label ?_ | refine WK.scope ?_ | refine WK.inScope ?_ | refine WK.exit rfl ?_)
  first | refine WK.reg 600 Try.ntmps156 (by kernel_rfl) ?_ | refine WK.regD 600 clsOf (by kernel_rfl) Try.ntmps156 (by kernel_rfl) (by kernel_rfl) ?_
  intro A hA Q hQ
  simp
  refine RunQ.call rfl rfl rfl rfl (by rfl) (by simp (maxDischargeDepth := 120)) (hfs) (by simp) ?_
  refine RunQ.eval ?_
  simp
  refine hQ _ _ ?_
  clear hQ hA
  repeat (first | refine WK.seq ?_ | refine WK.block ?_ | refine WK.inBlock ?_ | refine WK.skip ?_ | refine WK.label ?_ | refine WK.scope ?_ | refine WK.inScope ?_ | refine WK.exit rfl ?_)
  apply WK.cut (⟨(upd (upd (upd (upd (upd (upd J 0 (.sl false b.length (byL b))) 6 (.int .i64 (bAt b 3 : Nat))) 7 (.bool (hMasked b))) 8 (.int .i64 (hField b).1)) 9 (.bool (hField b).2)) 10 (.int .i64 (hWant b))), B0, 0⟩ : St)
  · intro hcut
    repeat (first | refine WK.seq ?_ | refine WK.block ?_ | refine WK.inBlock ?_ | refine WK.skip ?_ | refine WK.label ?_ | refine WK.scope ?_ | refine WK.inScope ?_ | refine WK.exit rfl ?_)
    first | refine WK.reg 700 Try.ntmps156 (by kernel_rfl) ?_ | refine WK.regD 700 clsOf (by kernel_rfl) Try.ntmps156 (by kernel_rfl) (by kernel_rfl) ?_
    intro A hA Q hQ
    simp
    refine hQ _ _ ?_
    clear hQ hA
    cases hm : hMasked b
    · have ew : hWant b = fSize (hField b).1 := by unfold hWant; rw [hm]; rfl
      repeat (first | refine WK.seq ?_ | refine WK.block ?_ | refine WK.inBlock ?_ | refine WK.skip ?_ | refine WK.label ?_ | refine WK.scope ?_ | refine WK.inScope ?_ | refine WK.exit rfl ?_)
      refine WK.cond2 rfl (fun h => ?_) (fun h => ?_)
      · cases h
      · repeat (first | refine WK.seq ?_ | refine WK.block ?_ | refine WK.inBlock ?_ | refine WK.skip ?_ | refine WK.label ?_ | refine WK.scope ?_ | refine WK.inScope ?_ | refine WK.exit rfl ?_)
        refine WK.next (fun n => n) hcut (by repeat (first | exact TmW.nil | refine TmW.upd ?_ (by simp (maxDischargeDepth := 120) [ew, hm]))) (by repeat (first | exact BxW.nil | refine BxW.upd ?_ (by simp (maxDischargeDepth := 120) [ew, hm]))) (by first | exact InjW.id | exact InjW.nil | exact InjW.one | exact InjW.two (by simp) | exact InjW.three (by simp) (by simp) (by simp))
    · have ew : hWant b = fSize (hField b).1 * 2 := by unfold hWant; rw [hm]; rfl
      have w1 : IntKind.i64.wrap ((fSize (hField b).1 : Int) * 2) = (fSize (hField b).1 : Int) * 2 := wrap_i64 (by omega) (by omega)
      repeat (first | refine WK.seq ?_ | refine WK.block ?_ | refine WK.inBlock ?_ | refine WK.skip ?_ | refine WK.label ?_ | refine WK.scope ?_ | refine WK.inScope ?_ | refine WK.exit rfl ?_)
      refine WK.cond2 rfl (fun h => ?_) (fun h => ?_)
      · repeat (first | refine WK.seq ?_ | refine WK.block ?_ | refine WK.inBlock ?_ | refine WK.skip ?_ | refine WK.label ?_ | refine WK.scope ?_ | refine WK.inScope ?_ | refine WK.exit rfl ?_)
        first | refine WK.reg 800 Try.ntmps156 (by kernel_rfl) ?_ | refine WK.regD 800 clsOf (by kernel_rfl) Try.ntmps156 (by kernel_rfl) (by kernel_rfl) ?_
        intro A hA Q hQ
        simp [w1]
        refine hQ _ _ ?_
        clear hQ hA
        repeat (first | refine WK.seq ?_ | refine WK.block ?_ | refine WK.inBlock ?_ | refine WK.skip ?_ | refine WK.label ?_ | refine WK.scope ?_ | refine WK.inScope ?_ | refine WK.exit rfl ?_)
        refine WK.next (fun n => n) hcut (by repeat (first | exact TmW.nil | refine TmW.upd ?_ (by simp (maxDischargeDepth := 120) [ew, w1, hm]))) (by repeat (first | exact BxW.nil | refine BxW.upd ?_ (by simp (maxDischargeDepth := 120) [ew, w1, hm]))) (by first | exact InjW.id | exact InjW.nil | exact InjW.one | exact InjW.two (by simp) | exact InjW.three (by simp) (by simp) (by simp))
      · cases h
  have w4 : IntKind.i64.wrap (4 + (bAt b 3 : Int)) = 4 + (bAt b 3 : Int) := wrap_i64 (by omega) (by omega)
  by_cases c1 : b.length < 4 + bAt b 3
  · have e : hCode b = 1 := by unfold hCode; rw [if_neg h4, if_pos c1]
    have er : hRes b = [.int .i64 0, .bool false, .int .i64 0, .int .i64 1] := by unfold hRes; rw [if_neg (by omega), e]
    have d1 : (b.length : Int) < 4 + (bAt b 3 : Int) := by omega
    rw [er]
    repeat (first | refine WK.seq ?_ | refine WK.block ?_ | refine WK.inBlock ?_ | refine WK.skip ?_ | refine WK.label ?_ | refine WK.scope ?_ | refine WK.inScope ?_ | refine WK.exit rfl ?_)
    first | refine WK.reg 900 Try.ntmps156 (by kernel_rfl) ?_ | refine WK.regD 900 clsOf (by kernel_rfl) Try.ntmps156 (by kernel_rfl) (by kernel_rfl) ?_
    intro A hA Q hQ
    simp [w4, d1]
    refine hQ _ _ ?_
    clear hQ hA
    repeat (first | refine WK.seq ?_ | refine WK.block ?_ | refine WK.inBlock ?_ | refine WK.skip ?_ | refine WK.label ?_ | refine WK.scope ?_ | refine WK.inScope ?_ | refine WK.exit rfl ?_)
    refine WK.cond2 rfl (fun h => ?_) (fun h => ?_)
    · repeat (first | refine WK.seq ?_ | refine WK.block ?_ | refine WK.inBlock ?_ | refine WK.skip ?_ | refine WK.label ?_ | refine WK.scope ?_ | refine WK.inScope ?_ | refine WK.exit rfl ?_)
      first | refine WK.reg 1000 Try.ntmps156 (by kernel_rfl) ?_ | refine WK.regD 1000 clsOf (by kernel_rfl) Try.ntmps156 (by kernel_rfl) (by kernel_rfl) ?_
      intro A hA Q hQ
      simp
      refine hQ _ _ ?_
      clear hQ hA
      repeat (first | refine WK.seq ?_ | refine WK.block ?_ | refine WK.inBlock ?_ | refine WK.skip ?_ | refine WK.label ?_ | refine WK.scope ?_ | refine WK.inScope ?_ | refine WK.exit rfl ?_)
      refine WK.ret Try.func156 (by simp (maxDischargeDepth := 120) [Try.results156]) (by simp)
    · cases h
  have d1 : ¬ (b.length : Int) < 4 + (bAt b 3 : Int) := by omega
  repeat (first | refine WK.seq ?_ | refine WK.block ?_ | refine WK.inBlock ?_ | refine WK.skip ?_ | refine WK.label ?_ | refine WK.scope ?_ | refine WK.inScope ?_ | refine WK.exit rfl ?_)
  first | refine WK.reg 1100 Try.ntmps156 (by kernel_rfl) ?_ | refine WK.regD 1100 clsOf (by kernel_rfl) Try.ntmps156 (by kernel_rfl) (by kernel_rfl) ?_
  intro A hA Q hQ
  simp [w4, d1]
  refine hQ _ _ ?_
  clear hQ hA
  repeat (first | refine WK.seq ?_ | refine WK.block ?_ | refine WK.inBlock ?_ | refine WK.skip ?_ | refine WK.label ?_ | refine WK.scope ?_ | refine WK.inScope ?_ | refine WK.exit rfl ?_)
  refine WK.cond2 rfl (fun h => ?_) (fun h => ?_)
  · cases h
  have z0 : (bI (nth b 0) == 128) = (bAt b 0 == 128) := by rw [bI_nat, Bool.eq_iff_iff, beq_iff_eq, beq_iff_eq]; omega
  have z1 : (bI (nth b 1) == 0) = (bAt b 1 == 0) := by rw [bI_nat, Bool.eq_iff_iff, beq_iff_eq, beq_iff_eq]; omega
  have z3 : ((bAt b 3 : Int) == (hWant b : Int)) = (bAt b 3 == hWant b) := by rw [Bool.eq_iff_iff, beq_iff_eq, beq_iff_eq]; omega
  repeat (first | refine WK.seq ?_ | refine WK.block ?_ | refine WK.inBlock ?_ | refine WK.skip ?_ | refine WK.label ?_ | refine WK.scope ?_ | refine WK.inScope ?_ | refine WK.exit rfl ?_)
  apply WK.cut (⟨(upd (upd (upd (upd (upd (upd (upd J 0 (.sl false b.length (byL b))) 6 (.int .i64 (bAt b 3 : Nat))) 7 (.bool (hMasked b))) 8 (.int .i64 (hField b).1)) 9 (.bool (hField b).2)) 10 (.int .i64 (hWant b))) 43 (.bool (bAt b 0 != 128 || (bAt b 1 != 0 || !(hField b).2)))), B0, 0⟩ : St)
  · intro hcut
    cases k0 : bAt b 0 == 128
    · rw [k0] at z0
      repeat (first | refine WK.seq ?_ | refine WK.block ?_ | refine WK.inBlock ?_ | refine WK.skip ?_ | refine WK.label ?_ | refine WK.scope ?_ | refine WK.inScope ?_ | refine WK.exit rfl ?_)
      first | refine WK.reg 1200 Try.ntmps156 (by kernel_rfl) ?_ | refine WK.regD 1200 clsOf (by kernel_rfl) Try.ntmps156 (by kernel_rfl) (by kernel_rfl) ?_
      intro A hA Q hQ
      have hg4 : (A[4]?).bind (·.dst) = some 48 := by rw [hA]; rfl
      have hg10 : (A[10]?).bind (·.dst) = some 54 := by rw [hA]; rfl
      simp [g0, g1, i0, i1, j0, j1, z0, bne, hg4, hg10]
      refine hQ _ _ ?_
      clear hQ hA
      repeat (first | refine WK.seq ?_ | refine WK.block ?_ | refine WK.inBlock ?_ | refine WK.skip ?_ | refine WK.label ?_ | refine WK.scope ?_ | refine WK.inScope ?_ | refine WK.exit rfl ?_)
      refine WK.next (fun n => n) hcut (by repeat (first | exact TmW.nil | refine TmW.upd ?_ (by simp (maxDischargeDepth := 120) [bne, k0]))) (by repeat (first | exact BxW.nil | refine BxW.upd ?_ (by simp (maxDischargeDepth := 120) [bne, k0]))) (by first | exact InjW.id | exact InjW.nil | exact InjW.one | exact InjW.two (by simp) | exact InjW.three (by simp) (by simp) (by simp))
    · rw [k0] at z0
      cases k1 : bAt b 1 == 0
      · rw [k1] at z1
        repeat (first | refine WK.seq ?_ | refine WK.block ?_ | refine WK.inBlock ?_ | refine WK.skip ?_ | refine WK.label ?_ | refine WK.scope ?_ | refine WK.inScope ?_ | refine WK.exit rfl ?_)
        first | refine WK.reg 1300 Try.ntmps156 (by kernel_rfl) ?_ | refine WK.regD 1300 clsOf (by kernel_rfl) Try.ntmps156 (by kernel_rfl) (by kernel_rfl) ?_
        intro A hA Q hQ
        have hg4 : (A[4]?).bind (·.dst) = some 48 := by rw [hA]; rfl
        have hg10 : (A[10]?).bind (·.dst) = some 54 := by rw [hA]; rfl
        simp [g0, g1, i0, i1, j0, j1, z0, z1, bne, hg4, hg10]
        refine hQ _ _ ?_
        clear hQ hA
        repeat (first | refine WK.seq ?_ | refine WK.block ?_ | refine WK.inBlock ?_ | refine WK.skip ?_ | refine WK.label ?_ | refine WK.scope ?_ | refine WK.inScope ?_ | refine WK.exit rfl ?_)
        refine WK.next (fun n => n) hcut (by repeat (first | exact TmW.nil | refine TmW.upd ?_ (by simp (maxDischargeDepth := 120) [bne, k0, k1]))) (by repeat (first | exact BxW.nil | refine BxW.upd ?_ (by simp (maxDischargeDepth := 120) [bne, k0, k1]))) (by first | exact InjW.id | exact InjW.nil | exact InjW.one | exact InjW.two (by simp) | exact InjW.three (by simp) (by simp) (by simp))
      · rw [k1] at z1
        repeat (first | refine WK.seq ?_ | refine WK.block ?_ | refine WK.inBlock ?_ | refine WK.skip ?_ | refine WK.label ?_ | refine WK.scope ?_ | refine WK.inScope ?_ | refine WK.exit rfl ?_)
        first | refine WK.reg 1400 Try.ntmps156 (by kernel_rfl) ?_ | refine WK.regD 1400 clsOf (by kernel_rfl) Try.ntmps156 (by kernel_rfl) (by kernel_rfl) ?_
        intro A hA Q hQ
        have hg4 : (A[4]?).bind (·.dst) = some 48 := by rw [hA]; rfl
        have hg10 : (A[10]?).bind (·.dst) = some 54 := by rw [hA]; rfl
        simp [g0, g1, i0, i1, j0, j1, z0, z1, bne, hg4, hg10]
        refine hQ _ _ ?_
        clear hQ hA
        repeat (first | refine WK.seq ?_ | refine WK.block ?_ | refine WK.inBlock ?_ | refine WK.skip ?_ | refine WK.label ?_ | refine WK.scope ?_ | refine WK.inScope ?_ | refine WK.exit rfl ?_)
        refine WK.next (fun n => n) hcut (by repeat (first | exact TmW.nil | refine TmW.upd ?_ (by simp (maxDischargeDepth := 120) [bne, k0, k1]))) (by repeat (first | exact BxW.nil | refine BxW.upd ?_ (by simp (maxDischargeDepth := 120) [bne, k0, k1]))) (by first | exact InjW.id | exact InjW.nil | exact InjW.one | exact InjW.two (by simp) | exact InjW.three (by simp) (by simp) (by simp))
  repeat (first | refine WK.seq ?_ | refine WK.block ?_ | refine WK.inBlock ?_ | refine WK.skip ?_ | refine WK.label ?_ | refine WK.scope ?_ | refine WK.inScope ?_ | refine WK.exit rfl ?_)
  refine WK.cond2 rfl (fun h6 => ?_) (fun h6 => ?_)
  · have e : hCode b = 6 := by unfold hCode; rw [if_neg h4, if_neg c1, if_pos h6]
    have er : hRes b = [.int .i64 0, .bool false, .int .i64 0, .int .i64 6] := by unfold hRes; rw [if_neg (by omega), e]
    rw [er]
    repeat (first | refine WK.seq ?_ | refine WK.block ?_ | refine WK.inBlock ?_ | refine WK.skip ?_ | refine WK.label ?_ | refine WK.scope ?_ | refine WK.inScope ?_ | refine WK.exit rfl ?_)
    first | refine WK.reg 1500 Try.ntmps156 (by kernel_rfl) ?_ | refine WK.regD 1500 clsOf (by kernel_rfl) Try.ntmps156 (by kernel_rfl) (by kernel_rfl) ?_
    intro A hA Q hQ
    simp
    refine hQ _ _ ?_
    clear hQ hA
    repeat (first | refine WK.seq ?_ | refine WK.block ?_ | refine WK.inBlock ?_ | refine WK.skip ?_ | refine WK.label ?_ | refine WK.scope ?_ | refine WK.inScope ?_ | refine WK.exit rfl ?_)
    refine WK.ret Try.func156 (by simp (maxDischargeDepth := 120) [Try.results156]) (by simp)
  have h6' : ¬ (bAt b 0 != 128 || (bAt b 1 != 0 || !(hField b).2)) = true := by rw [h6]; exact Bool.false_ne_true
  have hmk := fmasks_c (hField b).1
  repeat (first | refine WK.seq ?_ | refine WK.block ?_ | refine WK.inBlock ?_ | refine WK.skip ?_ | refine WK.label ?_ | refine WK.scope ?_ | refine WK.inScope ?_ | refine WK.exit rfl ?_)
  apply WK.cut (⟨(upd (upd (upd (upd (upd (upd (upd J 0 (.sl false b.length (byL b))) 6 (.int .i64 (bAt b 3 : Nat))) 7 (.bool (hMasked b))) 8 (.int .i64 (hField b).1)) 9 (.bool (hField b).2)) 10 (.int .i64 (hWant b))) 58 (.bool (hMasked b && !fMasks (hField b).1))), B0, 0⟩ : St)
  · intro hcut
    cases k0 : hMasked b
    · repeat (first | refine WK.seq ?_ | refine WK.block ?_ | refine WK.inBlock ?_ | refine WK.skip ?_ | refine WK.label ?_ | refine WK.scope ?_ | refine WK.inScope ?_ | refine WK.exit rfl ?_)
      first | refine WK.reg 1600 Try.ntmps156 (by kernel_rfl) ?_ | refine WK.regD 1600 clsOf (by kernel_rfl) Try.ntmps156 (by kernel_rfl) (by kernel_rfl) ?_
      intro A hA Q hQ
      have hg1 : (A[1]?).bind (·.dst) = some 60 := by rw [hA]; rfl
      simp [k0, hg1]
      refine hQ _ _ ?_
      clear hQ hA
      repeat (first | refine WK.seq ?_ | refine WK.block ?_ | refine WK.inBlock ?_ | refine WK.skip ?_ | refine WK.label ?_ | refine WK.scope ?_ | refine WK.inScope ?_ | refine WK.exit rfl ?_)
      refine WK.next (fun n => n) hcut (by repeat (first | exact TmW.nil | refine TmW.upd ?_ (by simp (maxDischargeDepth := 120) [k0]))) (by repeat (first | exact BxW.nil | refine BxW.upd ?_ (by simp (maxDischargeDepth := 120) [k0]))) (by first | exact InjW.id | exact InjW.nil | exact InjW.one | exact InjW.two (by simp) | exact InjW.three (by simp) (by simp) (by simp))
    · repeat (first | refine WK.seq ?_ | refine WK.block ?_ | refine WK.inBlock ?_ | refine WK.skip ?_ | refine WK.label ?_ | refine WK.scope ?_ | refine WK.inScope ?_ | refine WK.exit rfl ?_)
      first | refine WK.reg 1700 Try.ntmps156 (by kernel_rfl) ?_ | refine WK.regD 1700 clsOf (by kernel_rfl) Try.ntmps156 (by kernel_rfl) (by kernel_rfl) ?_
      intro A hA Q hQ
      have hg1 : (A[1]?).bind (·.dst) = some 60 := by rw [hA]; rfl
      simp [k0, hg1]
      refine RunQ.callG rfl rfl (by simp [hg1]) rfl (by rfl) (by simp (maxDischargeDepth := 120) [hg1]) (hmk) (by simp [hg1]) ?_
      refine RunQ.eval ?_
      simp [hg1]
      refine hQ _ _ ?_
      clear hQ hA
      repeat (first | refine WK.seq ?_ | refine WK.block ?_ | refine WK.inBlock ?_ | refine WK.skip ?_ | refine WK.label ?_ | refine WK.scope ?_ | refine WK.inScope ?_ | refine WK.exit rfl ?_)
      refine WK.next (fun n => n) hcut (by repeat (first | exact TmW.nil | refine TmW.upd ?_ (by simp (maxDischargeDepth := 120) [k0]))) (by repeat (first | exact BxW.nil | refine BxW.upd ?_ (by simp (maxDischargeDepth := 120) [k0]))) (by first | exact InjW.id | exact InjW.nil | exact InjW.one | exact InjW.two (by simp) | exact InjW.three (by simp) (by simp) (by simp))
  repeat (first | refine WK.seq ?_ | refine WK.block ?_ | refine WK.inBlock ?_ | refine WK.skip ?_ | refine WK.label ?_ | refine WK.scope ?_ | refine WK.inScope ?_ | refine WK.exit rfl ?_)
  refine WK.cond2 rfl (fun h8 => ?_) (fun h8 => ?_)
  · have e : hCode b = 8 := by unfold hCode; rw [if_neg h4, if_neg c1, if_neg h6', if_pos h8]
    have er : hRes b = [.int .i64 0, .bool false, .int .i64 0, .int .i64 8] := by unfold hRes; rw [if_neg (by omega), e]
    rw [er]
    repeat (first | refine WK.seq ?_ | refine WK.block ?_ | refine WK.inBlock ?_ | refine WK.skip ?_ | refine WK.label ?_ | refine WK.scope ?_ | refine WK.inScope ?_ | refine WK.exit rfl ?_)
    first | refine WK.reg 1800 Try.ntmps156 (by kernel_rfl) ?_ | refine WK.regD 1800 clsOf (by kernel_rfl) Try.ntmps156 (by kernel_rfl) (by kernel_rfl) ?_
    intro A hA Q hQ
    simp
    refine hQ _ _ ?_
    clear hQ hA
    repeat (first | refine WK.seq ?_ | refine WK.block ?_ | refine WK.inBlock ?_ | refine WK.skip ?_ | refine WK.label ?_ | refine WK.scope ?_ | refine WK.inScope ?_ | refine WK.exit rfl ?_)
    refine WK.ret Try.func156 (by simp (maxDischargeDepth := 120) [Try.results156]) (by simp)
  have h8' : ¬ (hMasked b && !fMasks (hField b).1) = true := by rw [h8]; exact Bool.false_ne_true
  cases k3 : bAt b 3 == hWant b
  · rw [k3] at z3
    have e : hCode b = 1 := by unfold hCode; rw [if_neg h4, if_neg c1, if_neg h6', if_neg h8', if_pos (by rw [bne, k3]; rfl)]
    have er : hRes b = [.int .i64 0, .bool false, .int .i64 0, .int .i64 1] := by unfold hRes; rw [if_neg (by omega), e]
    rw [er]
    repeat (first | refine WK.seq ?_ | refine WK.block ?_ | refine WK.inBlock ?_ | refine WK.skip ?_ | refine WK.label ?_ | refine WK.scope ?_ | refine WK.inScope ?_ | refine WK.exit rfl ?_)
    first | refine WK.reg 1900 Try.ntmps156 (by kernel_rfl) ?_ | refine WK.regD 1900 clsOf (by kernel_rfl) Try.ntmps156 (by kernel_rfl) (by kernel_rfl) ?_
    intro A hA Q hQ
    simp [z3, bne]
    refine hQ _ _ ?_
    clear hQ hA
    repeat (first | refine WK.seq ?_ | refine WK.block ?_ | refine WK.inBlock ?_ | refine WK.skip ?_ | refine WK.label ?_ | refine WK.scope ?_ | refine WK.inScope ?_ | refine WK.exit rfl ?_)
    refine WK.cond2 rfl (fun h => ?_) (fun h => ?_)
    · repeat (first | refine WK.seq ?_ | refine WK.block ?_ | refine WK.inBlock ?_ | refine WK.skip ?_ | refine WK.label ?_ | refine WK.scope ?_ | refine WK.inScope ?_ | refine WK.exit rfl ?_)
      first | refine WK.reg 2000 Try.ntmps156 (by kernel_rfl) ?_ | refine WK.regD 2000 clsOf (by kernel_rfl) Try.ntmps156 (by kernel_rfl) (by kernel_rfl) ?_
      intro A hA Q hQ
      simp
      refine hQ _ _ ?_
      clear hQ hA
      repeat (first | refine WK.seq ?_ | refine WK.block ?_ | refine WK.inBlock ?_ | refine WK.skip ?_ | refine WK.label ?_ | refine WK.scope ?_ | refine WK.inScope ?_ | refine WK.exit rfl ?_)
      refine WK.ret Try.func156 (by simp (maxDischargeDepth := 120) [Try.results156]) (by simp)
    · cases h
  · rw [k3] at z3
    have e : hCode b = 0 := by unfold hCode; rw [if_neg h4, if_neg c1, if_neg h6', if_neg h8', if_neg (by rw [bne, k3]; exact Bool.false_ne_true)]
    have er : hRes b = [.int .i64 (hField b).1, .bool (hMasked b), .int .i64 (bAt b 3 : Nat), .int .i64 0] := by unfold hRes; rw [if_pos e]
    rw [er]
    repeat (first | refine WK.seq ?_ | refine WK.block ?_ | refine WK.inBlock ?_ | refine WK.skip ?_ | refine WK.label ?_ | refine WK.scope ?_ | refine WK.inScope ?_ | refine WK.exit rfl ?_)
    first | refine WK.reg 2100 Try.ntmps156 (by kernel_rfl) ?_ | refine WK.regD 2100 clsOf (by kernel_rfl) Try.ntmps156 (by kernel_rfl) (by kernel_rfl) ?_
    intro A hA Q hQ
    simp [z3, bne]
    refine hQ _ _ ?_
    clear hQ hA
    repeat (first | refine WK.seq ?_ | refine WK.block ?_ | refine WK.inBlock ?_ | refine WK.skip ?_ | refine WK.label ?_ | refine WK.scope ?_ | refine WK.inScope ?_ | refine WK.exit rfl ?_)
    refine WK.cond2 rfl (fun h => ?_) (fun h => ?_)
    · cases h
    · repeat (first | refine WK.seq ?_ | refine WK.block ?_ | refine WK.inBlock ?_ | refine WK.skip ?_ | refine WK.label ?_ | refine WK.scope ?_ | refine WK.inScope ?_ | refine WK.exit rfl ?_)
      first | refine WK.reg 2200 Try.ntmps156 (by kernel_rfl) ?_ | refine WK.regD 2200 clsOf (by kernel_rfl) Try.ntmps156 (by kernel_rfl) (by kernel_rfl) ?_
      intro A hA Q hQ
      simp
      refine hQ _ _ ?_
      clear hQ hA
      repeat (first | refine WK.seq ?_ | refine WK.block ?_ | refine WK.inBlock ?_ | refine WK.skip ?_ | refine WK.label ?_ | refine WK.scope ?_ | refine WK.inScope ?_ | refine WK.exit rfl ?_)
      refine WK.ret Try.func156 (by simp (maxDischargeDepth := 120) [Try.results156]) (by simp)
end Go.Proofs.Ytbncoeoamjcjjaa
end

section
set_option linter.unusedVariables false
set_option linter.unusedSimpArgs false
namespace Go.Proofs.Ytbncoeoamjcjjaa
open Go Go.AI Go.Proofs

def oxm0 : Oxm := ⟨0, false, wideZ, wideZ⟩
/-- the part that bytes are, if their head is right -/
def oRead (b : List (BitVec 8)) : Oxm := ⟨(hField b).1, hMasked b, (wGet (b.drop 4) (fSize (hField b).1)).1,
  if hMasked b then (wGet (b.drop (4 + fSize (hField b).1)) (fSize (hField b).1)).1 else wideZ⟩
def oDec (b : List (BitVec 8)) : Oxm × Int × Int :=
  if hCode b = 0 then (if Oxm.form (oRead b) = 0 then (oRead b, 4 + bAt b 3, 0) else (oxm0, 0, Oxm.form (oRead b))) else (oxm0, 0, hCode b)
/-- a fault of a match -/
def oFault (c : Int) : List AV := if c = 0 then [.bool false, .int .i64 0, .int .i64 0] else [.bool true, .int .i64 4, .int .i64 c]
theorem oxm0_enc : oxm0.enc = [.int .i64 0, .bool false, .int .u64 0, .int .u64 0, .int .u64 0, .int .u64 0] := rfl
set_option maxHeartbeats 4000000 in
theorem odec_c (b : List (BitVec 8)) (hb0 : b.length ≤ 9223372036854775807) : FnP Try.prog 117 [byS b] (.tup [.agg (oDec b).1.enc, .int .i64 (oDec b).2.1, .agg (oFault (oDec b).2.2)]) := by
  have hh := ohead_c b hb0
  by_cases k : hCode b = 0
  case neg =>
    have er : hRes b = [.int .i64 0, .bool false, .int .i64 0, .int .i64 (hCode b)] := by unfold hRes; rw [if_neg k]
    have e : oDec b = (oxm0, 0, hCode b) := by unfold oDec; rw [if_neg k]
    have kb : (hCode b == 0) = false := beq_eq_false_iff_ne.2 k
    rw [er] at hh
    unfold byS at hh ⊢
    refine FnP.intro Try.func117 rfl rfl fun G w => ?_
    repeat (first | refine WK.seq ?_ | refine WK.block ?_ | refine WK.inBlock ?_ | refine WK.skip ?_ | refine WK.label ?_ | refine WK.scope ?_ | refine WK.inScope ?_ | refine WK.exit rfl ?_)
    first | refine WK.reg 100 Try.ntmps117 (by kernel_rfl) ?_ | refine WK.regD 100 clsOf (by kernel_rfl) Try.ntmps117 (by kernel_rfl) (by kernel_rfl) ?_
    intro A hA Q hQ
    simp
    refine hQ _ _ ?_
    clear hQ hA
    repeat (first | refine WK.seq ?_ | refine WK.block ?_ | refine WK.inBlock ?_ | refine WK.skip ?_ | refine WK.label ?_ | refine WK.scope ?_ | refine WK.inScope ?_ | refine WK.exit rfl ?_)
    first | refine WK.reg 200 Try.ntmps117 (by kernel_rfl) ?_ | refine WK.regD 200 clsOf (by kernel_rfl) Try.ntmps117 (by kernel_rfl) (by kernel_rfl) ?_
    intro A hA Q hQ
    simp
    refine RunQ.call rfl rfl rfl rfl (by rfl) (by simp (maxDischargeDepth := 120)) (hh) (by simp) ?_
    refine RunQ.eval ?_
    simp
    refine hQ _ _ ?_
    clear hQ hA
    repeat (first | refine WK.seq ?_ | refine WK.block ?_ | refine WK.inBlock ?_ | refine WK.skip ?_ | refine WK.label ?_ | refine WK.scope ?_ | refine WK.inScope ?_ | refine WK.exit rfl ?_)
    first | refine WK.reg 300 Try.ntmps117 (by kernel_rfl) ?_ | refine WK.regD 300 clsOf (by kernel_rfl) Try.ntmps117 (by kernel_rfl) (by kernel_rfl) ?_
    intro A hA Q hQ
    simp [kb, bne]
    refine hQ _ _ ?_
    clear hQ hA
    repeat (first | refine WK.seq ?_ | refine WK.block ?_ | refine WK.inBlock ?_ | refine WK.skip ?_ | refine WK.label ?_ | refine WK.scope ?_ | refine WK.inScope ?_ | refine WK.exit rfl ?_)
    refine WK.cond2 rfl (fun h => ?_) (fun h => ?_)
    · repeat (first | refine WK.seq ?_ | refine WK.block ?_ | refine WK.inBlock ?_ | refine WK.skip ?_ | refine WK.label ?_ | refine WK.scope ?_ | refine WK.inScope ?_ | refine WK.exit rfl ?_)
      first | refine WK.reg 400 Try.ntmps117 (by kernel_rfl) ?_ | refine WK.regD 400 clsOf (by kernel_rfl) Try.ntmps117 (by kernel_rfl) (by kernel_rfl) ?_
      intro A hA Q hQ
      simp
      refine RunQ.call rfl rfl rfl rfl (by rfl) (by simp (maxDischargeDepth := 120)) (obad_c (hCode b)) (by simp) ?_
      refine RunQ.eval ?_
      simp
      refine hQ _ _ ?_
      clear hQ hA
      repeat (first | refine WK.seq ?_ | refine WK.block ?_ | refine WK.inBlock ?_ | refine WK.skip ?_ | refine WK.label ?_ | refine WK.scope ?_ | refine WK.inScope ?_ | refine WK.exit rfl ?_)
      refine WK.ret Try.func117 (by simp (maxDischargeDepth := 120) [Try.results117, e, oxm0_enc, oFault, k]) (by simp [e, oxm0_enc, oFault, k])
    · cases h
  have er : hRes b = [.int .i64 (hField b).1, .bool (hMasked b), .int .i64 (bAt b 3 : Nat), .int .i64 0] := by unfold hRes; rw [if_pos k]
  have hk : 4 + bAt b 3 ≤ b.length ∧ bAt b 3 = hWant b := by
    unfold hCode at k
    split at k
    · cases k
    split at k
    · cases k
    split at k
    · cases k
    split at k
    · cases k
    split at k
    · cases k
    · rename_i h1 h2 h3 h4 h5
      simp at h5
      exact ⟨by omega, h5⟩
  have hl3 := bAt_lt b 3
  have hsz := fSize_le (hField b).1
  have hws : fSize (hField b).1 ≤ hWant b := by unfold hWant; split <;> omega
  have hfs := fsize_c (hField b).1
  obtain ⟨s, hs⟩ : ∃ s, s = fSize (hField b).1 := ⟨_, rfl⟩
  rw [← hs] at hfs hsz hws
  have q1 := wget_c (b.drop 4) s hsz (by rw [List.length_drop]; omega)
  have q2 := wget_c (b.drop (4 + s)) s hsz (by rw [List.length_drop]; omega)
  have hfo := oform_c (oRead b)
  have hR : oRead b = ⟨(hField b).1, hMasked b, (wGet (b.drop 4) s).1, if hMasked b then (wGet (b.drop (4 + s)) s).1 else wideZ⟩ := by unfold oRead; rw [← hs]
  have d4 : ((byL b).drop 4).take (b.length - 4) = byL (b.drop 4) := by rw [byL_drop]; exact by_full _ _ (by rw [List.length_drop])
  have d5 : ((byL b).drop (4 + s)).take (b.length - (4 + s)) = byL (b.drop (4 + s)) := by rw [byL_drop]; exact by_full _ _ (by rw [List.length_drop])
  have j4 : (4 : Int) ≤ b.length := by omega
  have j5 : 4 + (s : Int) ≤ b.length := by omega
  have j6 : (4 + (s : Int)).toNat = 4 + s := by omega
  have j7 : (0 : Int) ≤ 4 + (s : Int) := by omega
  have w5 : IntKind.i64.wrap (4 + (s : Int)) = 4 + (s : Int) := wrap_i64 (by omega) (by omega)
  rw [er] at hh
  unfold byS at hh q1 q2 ⊢
  rw [List.length_drop] at q1 q2
  obtain ⟨v1, hv1⟩ : ∃ v1, v1 = wGet (b.drop 4) s := ⟨_, rfl⟩
  obtain ⟨v2, hv2⟩ : ∃ v2, v2 = wGet (b.drop (4 + s)) s := ⟨_, rfl⟩
  rw [← hv1] at q1 hR
  rw [← hv2] at q2 hR
  refine FnP.intro Try.func117 rfl rfl fun G w => ?_
  repeat (first | refine WK.seq ?_ | refine WK.block ?_ | refine WK.inBlock ?_ | refine WK.skip ?_ | refine WK.label ?_ | refine WK.scope ?_ | refine WK.inScope ?_ | refine WK.exit rfl ?_)
  first | refine WK.reg 100 Try.ntmps117 (by kernel_rfl) ?_ | refine WK.regD 100 clsOf (by kernel_rfl) Try.ntmps117 (by kernel_rfl) (by kernel_rfl) ?_
  intro A hA Q hQ
  simp
  refine hQ _ _ ?_
  clear hQ hA
  repeat (first | refine WK.seq ?_ | refine WK.block ?_ | refine WK.inBlock ?_ | refine WK.skip ?_ | refine WK.label ?_ | refine WK.scope ?_ | refine WK.inScope ?_ | refine WK.exit rfl ?_)
  first | refine WK.reg 200 Try.ntmps117 (by kernel_rfl) ?_ | refine WK.regD 200 clsOf (by kernel_rfl) Try.ntmps117 (by kernel_rfl) (by kernel_rfl) ?_
  intro A hA Q hQ
  simp
  refine RunQ.call rfl rfl rfl rfl (by rfl) (by simp (maxDischargeDepth := 120)) (hh) (by simp) ?_
  refine RunQ.eval ?_
  simp
  refine hQ _ _ ?_
  clear hQ hA
  repeat (first | refine WK.seq ?_ | refine WK.block ?_ | refine WK.inBlock ?_ | refine WK.skip ?_ | refine WK.label ?_ | refine WK.scope ?_ | refine WK.inScope ?_ | refine WK.exit rfl ?_)
  first | refine WK.reg 300 Try.ntmps117 (by kernel_rfl) ?_ | refine WK.regD 300 clsOf (by kernel_rfl) Try.ntmps117 (by kernel_rfl) (by kernel_rfl) ?_
  intro A hA Q hQ
  simp
  refine hQ _ _ ?_
  clear hQ hA
  repeat (first | refine WK.seq ?_ | refine WK.block ?_ | refine WK.inBlock ?_ | refine WK.skip ?_ | refine WK.label ?_ | refine WK.scope ?_ | refine WK.inScope ?_ | refine WK.exit rfl ?_)
  refine WK.cond2 rfl (fun h => ?_) (fun h => ?_)
  · cases h
  repeat (first | refine WK.seq ?_ | refine WK.block ?_ | refine WK.inBlock ?_ | refine WK.skip ?_ | refine WK.label ?_ | refine WK.scope ?_ | refine WK.inScope ?_ | refine WK.exit rfl ?_)
  first | refine WK.reg 400 Try.ntmps117 (by kernel_rfl) ?_ | refine WK.regD 400 clsOf (by kernel_rfl) Try.ntmps117 (by kernel_rfl) (by kernel_rfl) ?_
  intro A hA Q hQ
  simp
  refine hQ _ _ ?_
  clear hQ hA
  repeat (first | refine WK.seq ?_ | refine WK.block ?_ | refine WK.inBlock ?_ | refine WK.skip ?_ | refine WK.label ?_ | refine WK.scope ?_ | refine WK.inScope ?_ | refine WK.exit rfl ?_)
  first | refine WK.reg 500 Try.ntmps117 (by kernel_rfl) ?_ | refine WK.regD 500 clsOf (by kernel_rfl) Try.ntmps117 (by kernel_rfl) (by kernel_rfl) ?_
  intro A hA Q hQ
  simp
  refine RunQ.call rfl rfl rfl rfl (by rfl) (by simp (maxDischargeDepth := 120)) (hfs) (by simp) ?_
  refine RunQ.eval ?_
  simp
  refine hQ _ _ ?_
  clear hQ hA
  repeat (first | refine WK.seq ?_ | refine WK.block ?_ | refine WK.inBlock ?_ | refine WK.skip ?_ | refine WK.label ?_ | refine WK.scope ?_ | refine WK.inScope ?_ | refine WK.exit rfl ?_)
  first | refine WK.reg 600 Try.ntmps117 (by kernel_rfl) ?_ | refine WK.regD 600 clsOf (by kernel_rfl) Try.ntmps117 (by kernel_rfl) (by kernel_rfl) ?_
  intro A hA Q hQ
  simp [j4, d4]
  refine RunQ.call rfl rfl rfl rfl (by rfl) (by simp (maxDischargeDepth := 120)) (q1) (by simp) ?_
  refine RunQ.eval ?_
  simp
  refine hQ _ _ ?_
  clear hQ hA
  repeat (first | refine WK.seq ?_ | refine WK.block ?_ | refine WK.inBlock ?_ | refine WK.skip ?_ | refine WK.label ?_ | refine WK.scope ?_ | refine WK.inScope ?_ | refine WK.exit rfl ?_)
  apply WK.cut (⟨(upd (upd (upd (upd J 2 (.ptr 0 0)) 4 (.ptr 2 0)) 7 (.int .i64 (bAt b 3 : Nat))) 9 (.ptr 303 0)), (upd (upd (upd B0 0 (.var oxm0.enc)) 2 (.var [.bool false, .int .i64 0, .int .i64 0])) 303 (.var (oRead b).enc)), 0⟩ : St)
  · intro hcut
    rw [hR] at hcut
    cases m : hMasked b
    · rw [m] at hcut
      repeat (first | refine WK.seq ?_ | refine WK.block ?_ | refine WK.inBlock ?_ | refine WK.skip ?_ | refine WK.label ?_ | refine WK.scope ?_ | refine WK.inScope ?_ | refine WK.exit rfl ?_)
      first | refine WK.reg 700 Try.ntmps117 (by kernel_rfl) ?_ | refine WK.regD 700 clsOf (by kernel_rfl) Try.ntmps117 (by kernel_rfl) (by kernel_rfl) ?_
      intro A hA Q hQ
      simp
      refine hQ _ _ ?_
      clear hQ hA
      repeat (first | refine WK.seq ?_ | refine WK.block ?_ | refine WK.inBlock ?_ | refine WK.skip ?_ | refine WK.label ?_ | refine WK.scope ?_ | refine WK.inScope ?_ | refine WK.exit rfl ?_)
      refine WK.cond2 rfl (fun h => ?_) (fun h => ?_)
      · cases h
      · repeat (first | refine WK.seq ?_ | refine WK.block ?_ | refine WK.inBlock ?_ | refine WK.skip ?_ | refine WK.label ?_ | refine WK.scope ?_ | refine WK.inScope ?_ | refine WK.exit rfl ?_)
        refine WK.next (fun n => n) hcut (by repeat (first | exact TmW.nil | refine TmW.upd ?_ (by simp (maxDischargeDepth := 120) [m, oxm0, Oxm.enc, Wide.enc, wideZ, uI_zero]))) (by repeat (first | exact BxW.nil | refine BxW.upd ?_ (by simp (maxDischargeDepth := 120) [m, oxm0, Oxm.enc, Wide.enc, wideZ, uI_zero]))) (by first | exact InjW.id | exact InjW.nil | exact InjW.one | exact InjW.two (by simp) | exact InjW.three (by simp) (by simp) (by simp))
    · rw [m] at hcut
      repeat (first | refine WK.seq ?_ | refine WK.block ?_ | refine WK.inBlock ?_ | refine WK.skip ?_ | refine WK.label ?_ | refine WK.scope ?_ | refine WK.inScope ?_ | refine WK.exit rfl ?_)
      first | refine WK.reg 800 Try.ntmps117 (by kernel_rfl) ?_ | refine WK.regD 800 clsOf (by kernel_rfl) Try.ntmps117 (by kernel_rfl) (by kernel_rfl) ?_
      intro A hA Q hQ
      simp
      refine hQ _ _ ?_
      clear hQ hA
      repeat (first | refine WK.seq ?_ | refine WK.block ?_ | refine WK.inBlock ?_ | refine WK.skip ?_ | refine WK.label ?_ | refine WK.scope ?_ | refine WK.inScope ?_ | refine WK.exit rfl ?_)
      refine WK.cond2 rfl (fun h => ?_) (fun h => ?_)
      · repeat (first | refine WK.seq ?_ | refine WK.block ?_ | refine WK.inBlock ?_ | refine WK.skip ?_ | refine WK.label ?_ | refine WK.scope ?_ | refine WK.inScope ?_ | refine WK.exit rfl ?_)
        first | refine WK.reg 900 Try.ntmps117 (by kernel_rfl) ?_ | refine WK.regD 900 clsOf (by kernel_rfl) Try.ntmps117 (by kernel_rfl) (by kernel_rfl) ?_
        intro A hA Q hQ
        simp [w5, j5, j6, j7, d5]
        refine RunQ.call rfl rfl rfl rfl (by rfl) (by simp (maxDischargeDepth := 120)) (q2) (by simp) ?_
        refine RunQ.eval ?_
        simp
        refine hQ _ _ ?_
        clear hQ hA
        repeat (first | refine WK.seq ?_ | refine WK.block ?_ | refine WK.inBlock ?_ | refine WK.skip ?_ | refine WK.label ?_ | refine WK.scope ?_ | refine WK.inScope ?_ | refine WK.exit rfl ?_)
        refine WK.next (fun n => n) hcut (by repeat (first | exact TmW.nil | refine TmW.upd ?_ (by simp (maxDischargeDepth := 120) [m, oxm0, Oxm.enc, Wide.enc, wideZ, uI_zero]))) (by repeat (first | exact BxW.nil | refine BxW.upd ?_ (by simp (maxDischargeDepth := 120) [m, oxm0, Oxm.enc, Wide.enc, wideZ, uI_zero]))) (by first | exact InjW.id | exact InjW.nil | exact InjW.one | exact InjW.two (by simp) | exact InjW.three (by simp) (by simp) (by simp))
      · cases h
  repeat (first | refine WK.seq ?_ | refine WK.block ?_ | refine WK.inBlock ?_ | refine WK.skip ?_ | refine WK.label ?_ | refine WK.scope ?_ | refine WK.inScope ?_ | refine WK.exit rfl ?_)
  refine WK.ghost (Ghost.frzVar 9 rfl rfl) ?_
  have w6 : IntKind.i64.wrap (4 + (bAt b 3 : Int)) = 4 + (bAt b 3 : Int) := wrap_i64 (by omega) (by omega)
  simp only [Oxm.enc] at hfo
  by_cases c : Oxm.form (oRead b) = 0
  · have e : oDec b = (oRead b, 4 + (bAt b 3 : Int), 0) := by unfold oDec; rw [if_pos k, if_pos c]
    rw [c] at hfo
    repeat (first | refine WK.seq ?_ | refine WK.block ?_ | refine WK.inBlock ?_ | refine WK.skip ?_ | refine WK.label ?_ | refine WK.scope ?_ | refine WK.inScope ?_ | refine WK.exit rfl ?_)
    first | refine WK.reg 1000 Try.ntmps117 (by kernel_rfl) ?_ | refine WK.regD 1000 clsOf (by kernel_rfl) Try.ntmps117 (by kernel_rfl) (by kernel_rfl) ?_
    intro A hA Q hQ
    simp [Oxm.enc]
    refine RunQ.call rfl rfl rfl rfl (by rfl) (by simp (maxDischargeDepth := 120)) (hfo) (by simp) ?_
    refine RunQ.eval ?_
    simp
    refine hQ _ _ ?_
    clear hQ hA
    repeat (first | refine WK.seq ?_ | refine WK.block ?_ | refine WK.inBlock ?_ | refine WK.skip ?_ | refine WK.label ?_ | refine WK.scope ?_ | refine WK.inScope ?_ | refine WK.exit rfl ?_)
    first | refine WK.reg 1100 Try.ntmps117 (by kernel_rfl) ?_ | refine WK.regD 1100 clsOf (by kernel_rfl) Try.ntmps117 (by kernel_rfl) (by kernel_rfl) ?_
    intro A hA Q hQ
    simp
    refine hQ _ _ ?_
    clear hQ hA
    repeat (first | refine WK.seq ?_ | refine WK.block ?_ | refine WK.inBlock ?_ | refine WK.skip ?_ | refine WK.label ?_ | refine WK.scope ?_ | refine WK.inScope ?_ | refine WK.exit rfl ?_)
    refine WK.cond2 rfl (fun h => ?_) (fun h => ?_)
    · cases h
    · repeat (first | refine WK.seq ?_ | refine WK.block ?_ | refine WK.inBlock ?_ | refine WK.skip ?_ | refine WK.label ?_ | refine WK.scope ?_ | refine WK.inScope ?_ | refine WK.exit rfl ?_)
      first | refine WK.reg 1200 Try.ntmps117 (by kernel_rfl) ?_ | refine WK.regD 1200 clsOf (by kernel_rfl) Try.ntmps117 (by kernel_rfl) (by kernel_rfl) ?_
      intro A hA Q hQ
      simp [w6, Oxm.enc, oxm0_enc]
      refine hQ _ _ ?_
      clear hQ hA
      repeat (first | refine WK.seq ?_ | refine WK.block ?_ | refine WK.inBlock ?_ | refine WK.skip ?_ | refine WK.label ?_ | refine WK.scope ?_ | refine WK.inScope ?_ | refine WK.exit rfl ?_)
      refine WK.ret Try.func117 (by simp (maxDischargeDepth := 120) [Try.results117, e, oFault, Oxm.enc]) (by simp [e, oFault, Oxm.enc])
  · have e : oDec b = (oxm0, 0, Oxm.form (oRead b)) := by unfold oDec; rw [if_pos k, if_neg c]
    have cb : (Oxm.form (oRead b) == 0) = false := beq_eq_false_iff_ne.2 c
    repeat (first | refine WK.seq ?_ | refine WK.block ?_ | refine WK.inBlock ?_ | refine WK.skip ?_ | refine WK.label ?_ | refine WK.scope ?_ | refine WK.inScope ?_ | refine WK.exit rfl ?_)
    first | refine WK.reg 1300 Try.ntmps117 (by kernel_rfl) ?_ | refine WK.regD 1300 clsOf (by kernel_rfl) Try.ntmps117 (by kernel_rfl) (by kernel_rfl) ?_
    intro A hA Q hQ
    simp [Oxm.enc]
    refine RunQ.call rfl rfl rfl rfl (by rfl) (by simp (maxDischargeDepth := 120)) (hfo) (by simp) ?_
    refine RunQ.eval ?_
    simp
    refine hQ _ _ ?_
    clear hQ hA
    repeat (first | refine WK.seq ?_ | refine WK.block ?_ | refine WK.inBlock ?_ | refine WK.skip ?_ | refine WK.label ?_ | refine WK.scope ?_ | refine WK.inScope ?_ | refine WK.exit rfl ?_)
    first | refine WK.reg 1400 Try.ntmps117 (by kernel_rfl) ?_ | refine WK.regD 1400 clsOf (by kernel_rfl) Try.ntmps117 (by kernel_rfl) (by kernel_rfl) ?_
    intro A hA Q hQ
    simp [cb, bne]
    refine hQ _ _ ?_
    clear hQ hA
    repeat (first | refine WK.seq ?_ | refine WK.block ?_ | refine WK.inBlock ?_ | refine WK.skip ?_ | refine WK.label ?_ | refine WK.scope ?_ | refine WK.inScope ?_ | refine WK.exit rfl ?_)
    refine WK.cond2 rfl (fun h => ?_) (fun h => ?_)
    · repeat (first | refine WK.seq ?_ | refine WK.block ?_ | refine WK.inBlock ?_ | refine WK.skip ?_ | refine WK.label ?_ | refine WK.scope ?_ | refine WK.inScope ?_ | refine WK.exit rfl ?_)
      first | refine WK.reg 1500 Try.ntmps117 (by kernel_rfl) ?_ | refine WK.regD 1500 clsOf (by kernel_rfl) Try.ntmps117 (by kernel_rfl) (by kernel_rfl) ?_
      intro A hA Q hQ
      simp [Oxm.enc, oxm0_enc]
      refine RunQ.call rfl rfl rfl rfl (by rfl) (by simp (maxDischargeDepth := 120)) (obad_c (Oxm.form (oRead b))) (by simp) ?_
      refine RunQ.eval ?_
      simp
      refine hQ _ _ ?_
      clear hQ hA
      repeat (first | refine WK.seq ?_ | refine WK.block ?_ | refine WK.inBlock ?_ | refine WK.skip ?_ | refine WK.label ?_ | refine WK.scope ?_ | refine WK.inScope ?_ | refine WK.exit rfl ?_)
      refine WK.ret Try.func117 (by simp (maxDischargeDepth := 120) [Try.results117, e, oFault, c, oxm0_enc]) (by simp [e, oFault, c, oxm0_enc])
    · cases h
end Go.Proofs.Ytbncoeoamjcjjaa
end

section
set_option linter.unusedVariables false
set_option linter.unusedSimpArgs false
namespace Go.Proofs.Ytbncoeoamjcjjaa
open Go Go.AI Go.Proofs
attribute [local irreducible] FnP FnO FnB FnT FnSeq WK RunQ RunQW RunX RunXW

def act0 : Action := ⟨0, 0, 0, 0, 0, oxm0⟩
def aSets (f : Int) : Bool := fRight f && (f != 0 && f != 1)
def aGoes (p : Int) : Bool := (decide (0 < p) && decide (p ≤ 4294967040)) || p == 4294967293
def aMost (a : Action) : Bool := decide (0 ≤ a.max) && (decide (a.max ≤ 65535) && (a.max == 0 || a.port == 4294967293))
/-- what an action has but for what is of no use in its kind -/
def Action.bare (a : Action) : Action := if a.kind = 0 then ⟨0, a.port, a.max, 0, 0, oxm0⟩ else if a.kind = 22 then ⟨22, 0, 0, a.group, 0, oxm0⟩ else if a.kind = 17 then ⟨17, 0, 0, 0, a.ether, oxm0⟩
  else if a.kind = 25 then ⟨25, 0, 0, 0, 0, a.oxm⟩ else ⟨a.kind, 0, 0, 0, 0, oxm0⟩
def Action.fine (a : Action) : Bool := if a.kind = 0 then aGoes a.port && aMost a else if a.kind = 22 then decide (0 ≤ a.group) && decide (a.group ≤ 4294967040) else if a.kind = 17 then a.ether == 33024 || a.ether == 34984
  else if a.kind = 18 then true else if a.kind = 25 then Oxm.right a.oxm && (!a.oxm.masked && aSets a.oxm.field) else false
def Action.right (a : Action) : Bool := Action.fine a && a == Action.bare a
theorem asets_c (f : Int) : FnP Try.prog 27 [.int .i64 f] (.bool (aSets f)) := by
  refine FnP.intro Try.func27 rfl rfl fun G w => ?_
  repeat' (first
   | refine WK.seq ?_
   | refine WK.block ?_
   | refine WK.inBlock ?_
   | refine WK.skip ?_
   | refine WK.label ?_
   | refine WK.scope ?_
   | refine WK.inScope ?_
   | refine WK.exit rfl ?_
   | refine WK.condT rfl ?_
   | refine WK.condF rfl ?_
   | (refine Hid.h hQ _ _ ?_; clear hQ hA)
   | refine WK.condAny rfl ?_ ?_
   | ((first | refine WK.cond2 rfl (fun h => ?_) (fun h => ?_) | refine Fork.mk (fun h => ?_) (fun h => ?_)) <;> (first | (simp [*] at h; done) | (have h2 := h; simp at h2; exfalso; omega) | (have h2 := h; simp at h2; try simp only [Bool.not_eq_true', Bool.not_eq_false'] at h) | skip))
   | (refine WK.regH Try.ntmps27 (by kernel_rfl) ?_; intro A hA Q hQ; simp [bne, *])
   | (refine RunQ.gd rfl (by rw [hA.h]; rfl) ?_; simp [bne, *])
   | (((first | refine RunQ.call rfl rfl rfl rfl rfl ?_ (fright_c f) ?_ ?_ | refine RunQW.call rfl rfl rfl rfl ?_ (fright_c f) ?_ ?_); (focus (simp [bne, *]; done))); (focus (simp [bne, *]; done)); refine RunQ.evalH ?_; simp [bne, *])
   | (refine WK.ret Try.func27 ?_ ?_ <;> simp (maxDischargeDepth := 120) [Try.results27, bne, aSets, *])
   | fail)
theorem rasets_c (f : Int) : FnP Try.prog 28 [.int .i64 f] (.bool (aSets f)) := by
  refine FnP.intro Try.func28 rfl rfl fun G w => ?_
  repeat' (first
   | refine WK.seq ?_
   | refine WK.block ?_
   | refine WK.inBlock ?_
   | refine WK.skip ?_
   | refine WK.label ?_
   | refine WK.scope ?_
   | refine WK.inScope ?_
   | refine WK.exit rfl ?_
   | refine WK.condT rfl ?_
   | refine WK.condF rfl ?_
   | (refine Hid.h hQ _ _ ?_; clear hQ hA)
   | refine WK.condAny rfl ?_ ?_
   | ((first | refine WK.cond2 rfl (fun h => ?_) (fun h => ?_) | refine Fork.mk (fun h => ?_) (fun h => ?_)) <;> (first | (simp [*] at h; done) | (have h2 := h; simp at h2; exfalso; omega) | (have h2 := h; simp at h2; try simp only [Bool.not_eq_true', Bool.not_eq_false'] at h) | skip))
   | (refine WK.regH Try.ntmps28 (by kernel_rfl) ?_; intro A hA Q hQ; simp [bne, *])
   | (refine RunQ.gd rfl (by rw [hA.h]; rfl) ?_; simp [bne, *])
   | (((first | refine RunQ.call rfl rfl rfl rfl rfl ?_ (rfright_c f) ?_ ?_ | refine RunQW.call rfl rfl rfl rfl ?_ (rfright_c f) ?_ ?_); (focus (simp [bne, *]; done))); (focus (simp [bne, *]; done)); refine RunQ.evalH ?_; simp [bne, *])
   | (refine WK.ret Try.func28 ?_ ?_ <;> simp (maxDischargeDepth := 120) [Try.results28, bne, aSets, *])
   | fail)
theorem agoes_c (p : Int) : FnP Try.prog 74 [.int .i64 p] (.bool (aGoes p)) := by
  refine FnP.intro Try.func74 rfl rfl fun G w => ?_
  repeat' (first
   | refine WK.seq ?_
   | refine WK.block ?_
   | refine WK.inBlock ?_
   | refine WK.skip ?_
   | refine WK.label ?_
   | refine WK.scope ?_
   | refine WK.inScope ?_
   | refine WK.exit rfl ?_
   | refine WK.condT rfl ?_
   | refine WK.condF rfl ?_
   | (refine Hid.h hQ _ _ ?_; clear hQ hA)
   | refine WK.condAny rfl ?_ ?_
   | ((first | refine WK.cond2 rfl (fun h => ?_) (fun h => ?_) | refine Fork.mk (fun h => ?_) (fun h => ?_)) <;> (first | (simp [*] at h; done) | (have h2 := h; simp at h2; exfalso; omega) | (have h2 := h; simp at h2; try simp only [Bool.not_eq_true', Bool.not_eq_false'] at h) | skip))
   | (refine WK.regH Try.ntmps74 (by kernel_rfl) ?_; intro A hA Q hQ; simp [*])
   | (refine RunQ.gd rfl (by rw [hA.h]; rfl) ?_; simp [*])
   | (refine WK.ret Try.func74 ?_ ?_ <;> simp (maxDischargeDepth := 120) [Try.results74, aGoes, *])
   | fail)
theorem ragoes_c (p : Int) : FnP Try.prog 65 [.int .i64 p] (.bool (aGoes p)) := by
  have e : decide (1 ≤ p) = decide (0 < p) := decide_eq_decide.2 (by omega)
  refine FnP.intro Try.func65 rfl rfl fun G w => ?_
  repeat' (first
   | refine WK.seq ?_
   | refine WK.block ?_
   | refine WK.inBlock ?_
   | refine WK.skip ?_
   | refine WK.label ?_
   | refine WK.scope ?_
   | refine WK.inScope ?_
   | refine WK.exit rfl ?_
   | refine WK.condT rfl ?_
   | refine WK.condF rfl ?_
   | (refine Hid.h hQ _ _ ?_; clear hQ hA)
   | refine WK.condAny rfl ?_ ?_
   | ((first | refine WK.cond2 rfl (fun h => ?_) (fun h => ?_) | refine Fork.mk (fun h => ?_) (fun h => ?_)) <;> (first | (simp [*] at h; done) | (have h2 := h; simp at h2; exfalso; omega) | (have h2 := h; simp at h2; try simp only [Bool.not_eq_true', Bool.not_eq_false'] at h) | skip))
   | (refine WK.regH Try.ntmps65 (by kernel_rfl) ?_; intro A hA Q hQ; simp [e, *])
   | (refine RunQ.gd rfl (by rw [hA.h]; rfl) ?_; simp [e, *])
   | (refine WK.ret Try.func65 ?_ ?_ <;> simp (maxDischargeDepth := 120) [Try.results65, e, aGoes, *])
   | fail)
set_option maxHeartbeats 4000000 in
theorem aright_c (a : Action) : FnP Try.prog 25 [.agg a.enc] (.bool (Action.right a)) := by
  have ho := oright_c a.oxm
  simp only [Oxm.enc] at ho
  have g : aGoes 4294967293 = true := rfl
  refine FnP.intro Try.func25 rfl rfl fun G w => ?_
  repeat' (first
   | refine WK.seq ?_
   | refine WK.block ?_
   | refine WK.inBlock ?_
   | refine WK.skip ?_
   | refine WK.label ?_
   | refine WK.scope ?_
   | refine WK.inScope ?_
   | refine WK.exit rfl ?_
   | refine WK.condT rfl ?_
   | refine WK.condF rfl ?_
   | (refine Hid.h hQ _ _ ?_; clear hQ hA)
   | refine WK.condAny rfl ?_ ?_
   | ((first | refine WK.cond2 rfl (fun h => ?_) (fun h => ?_) | refine Fork.mk (fun h => ?_) (fun h => ?_)) <;> (first | (simp [*] at h; done) | (have h2 := h; simp at h2; exfalso; omega) | (have h2 := h; simp at h2; try simp only [Bool.not_eq_true', Bool.not_eq_false'] at h) | skip))
   | ((first | refine WK.regH Try.ntmps25 (by kernel_rfl) ?_ | refine WK.regX (by kernel_rfl) Try.ntmps25 (by kernel_rfl) ?_); intro A hA Q hQ; simp [Action.enc, *])
   | (refine Hid.h hQ _ _ _ (by decide +kernel) ?_; clear hQ hA)
   | ((first | refine RunQ.gd rfl (by rw [hA.h]; rfl) ?_ | refine RunX.gd rfl (by rw [hA.h]; rfl) ?_); simp [Action.enc, *])
   | ((first | ((first | refine RunQ.call rfl rfl rfl rfl rfl ?_ (agoes_c a.port) ?_ ?_ | refine RunQW.call rfl rfl rfl rfl ?_ (agoes_c a.port) ?_ ?_ | refine RunX.call rfl rfl rfl rfl ?_ (agoes_c a.port) ?_ ?_ | refine RunXW.call rfl rfl rfl ?_ (agoes_c a.port) ?_ ?_); (focus (simp [Action.enc, *]; done))) | ((first | refine RunQ.call rfl rfl rfl rfl rfl ?_ (ho) ?_ ?_ | refine RunQW.call rfl rfl rfl rfl ?_ (ho) ?_ ?_ | refine RunX.call rfl rfl rfl rfl ?_ (ho) ?_ ?_ | refine RunXW.call rfl rfl rfl ?_ (ho) ?_ ?_); (focus (simp [Action.enc, *]; done))) | ((first | refine RunQ.call rfl rfl rfl rfl rfl ?_ (asets_c a.oxm.field) ?_ ?_ | refine RunQW.call rfl rfl rfl rfl ?_ (asets_c a.oxm.field) ?_ ?_ | refine RunX.call rfl rfl rfl rfl ?_ (asets_c a.oxm.field) ?_ ?_ | refine RunXW.call rfl rfl rfl ?_ (asets_c a.oxm.field) ?_ ?_); (focus (simp [Action.enc, *]; done)))); (focus (simp [Action.enc, *]; done)); (first | refine RunQ.evalH ?_ | refine RunX.evalY ?_); simp [Action.enc, *])
   | (refine WK.ret Try.func25 ?_ ?_ <;> simp (maxDischargeDepth := 120) [Try.results25, Action.enc, Action.right, Action.fine, aMost, Action.bare, Action.beq, Oxm.beq, oxm0, wideZ, *])
   | fail)
set_option maxHeartbeats 4000000 in
theorem ramost_c (a : Action) : FnP Try.prog 76 [.agg a.enc] (.bool (a.max == 0 || (a.port == 4294967293 && (decide (0 < a.max) && decide (a.max ≤ 65535))))) := by
  refine FnP.intro Try.func76 rfl rfl fun G w => ?_
  repeat' (first
   | refine WK.seq ?_
   | refine WK.block ?_
   | refine WK.inBlock ?_
   | refine WK.skip ?_
   | refine WK.label ?_
   | refine WK.scope ?_
   | refine WK.inScope ?_
   | refine WK.exit rfl ?_
   | refine WK.condT rfl ?_
   | refine WK.condF rfl ?_
   | (refine Hid.h hQ _ _ ?_; clear hQ hA)
   | refine WK.condAny rfl ?_ ?_
   | ((first | refine WK.cond2 rfl (fun h => ?_) (fun h => ?_) | refine Fork.mk (fun h => ?_) (fun h => ?_)) <;> (first | (simp [*] at h; done) | (have h2 := h; simp at h2; exfalso; omega) | (have h2 := h; simp at h2; try simp only [Bool.not_eq_true', Bool.not_eq_false'] at h) | skip))
   | (refine WK.regH Try.ntmps76 (by kernel_rfl) ?_; intro A hA Q hQ; simp [Action.enc, *])
   | (refine RunQ.gd rfl (by rw [hA.h]; rfl) ?_; simp [Action.enc, *])
   | (refine WK.ret Try.func76 ?_ ?_ <;> simp (maxDischargeDepth := 120) [Try.results76, Action.enc, *])
   | fail)
theorem ramost_eq (a : Action) : (a.max == 0 || (a.port == 4294967293 && (decide (0 < a.max) && decide (a.max ≤ 65535)))) = aMost a := by
  unfold aMost
  rw [Bool.eq_iff_iff]; simp only [Bool.or_eq_true, Bool.and_eq_true, beq_iff_eq, decide_eq_true_eq]; omega
set_option maxHeartbeats 4000000 in
theorem raright_c (a : Action) : FnP Try.prog 26 [.agg a.enc] (.bool (Action.right a)) := by
  have ho := roright_c a.oxm
  have hm := ramost_c a
  rw [ramost_eq] at hm
  have s0 := rasame_c a ⟨0, a.port, a.max, 0, 0, oxm0⟩
  have s1 := rasame_c a ⟨22, 0, 0, a.group, 0, oxm0⟩
  have s2 := rasame_c a ⟨17, 0, 0, 0, a.ether, oxm0⟩
  have s3 := rasame_c a ⟨18, 0, 0, 0, 0, oxm0⟩
  have s4 := rasame_c a ⟨25, 0, 0, 0, 0, a.oxm⟩
  obtain ⟨k, port, max, group, ether, oxm⟩ := a
  by_cases k0 : k = 0
  · subst k0
    simp only [Action.enc, Oxm.enc, oxm0, wideZ, uI_zero] at ho hm s0 s1 s2 s3 s4
    refine FnP.intro Try.func26 rfl rfl fun G w => ?_
    repeat' (first
     | refine WK.seq ?_
     | refine WK.block ?_
     | refine WK.inBlock ?_
     | refine WK.skip ?_
     | refine WK.label ?_
     | refine WK.scope ?_
     | refine WK.inScope ?_
     | refine WK.exit rfl ?_
     | refine WK.condT rfl ?_
     | refine WK.condF rfl ?_
     | (refine Hid.h hQ _ _ ?_; clear hQ hA)
     | refine WK.condAny rfl ?_ ?_
     | ((first | refine WK.cond2 rfl (fun h => ?_) (fun h => ?_) | refine Fork.mk (fun h => ?_) (fun h => ?_)) <;> (first | (simp [*] at h; done) | (have h2 := h; simp at h2; exfalso; omega) | (have h2 := h; simp at h2; try simp only [Bool.not_eq_true', Bool.not_eq_false'] at h) | skip))
     | (refine WK.regH Try.ntmps26 (by kernel_rfl) ?_; intro A hA Q hQ; simp [Action.enc, *])
     | (refine RunQ.gd rfl (by rw [hA.h]; rfl) ?_; simp [Action.enc, *])
     | ((first | ((first | refine RunQ.call rfl rfl rfl rfl rfl ?_ (ragoes_c port) ?_ ?_ | refine RunQW.call rfl rfl rfl rfl ?_ (ragoes_c port) ?_ ?_); (focus (simp [Action.enc, *]; done))) | ((first | refine RunQ.call rfl rfl rfl rfl rfl ?_ (hm) ?_ ?_ | refine RunQW.call rfl rfl rfl rfl ?_ (hm) ?_ ?_); (focus (simp [Action.enc, *]; done))) | ((first | refine RunQ.call rfl rfl rfl rfl rfl ?_ (s0) ?_ ?_ | refine RunQW.call rfl rfl rfl rfl ?_ (s0) ?_ ?_); (focus (simp [Action.enc, *]; done)))); (focus (simp [Action.enc, *]; done)); refine RunQ.evalH ?_; simp [Action.enc, *])
     | (refine WK.ret Try.func26 ?_ ?_ <;> simp (maxDischargeDepth := 120) [Try.results26, Action.enc, Action.right, Action.fine, Action.bare, oxm0, wideZ, *])
     | fail)
  by_cases k1 : k = 22
  · subst k1
    simp only [Action.enc, Oxm.enc, oxm0, wideZ, uI_zero] at ho hm s0 s1 s2 s3 s4
    refine FnP.intro Try.func26 rfl rfl fun G w => ?_
    repeat' (first
     | refine WK.seq ?_
     | refine WK.block ?_
     | refine WK.inBlock ?_
     | refine WK.skip ?_
     | refine WK.label ?_
     | refine WK.scope ?_
     | refine WK.inScope ?_
     | refine WK.exit rfl ?_
     | refine WK.condT rfl ?_
     | refine WK.condF rfl ?_
     | (refine Hid.h hQ _ _ ?_; clear hQ hA)
     | refine WK.condAny rfl ?_ ?_
     | ((first | refine WK.cond2 rfl (fun h => ?_) (fun h => ?_) | refine Fork.mk (fun h => ?_) (fun h => ?_)) <;> (first | (simp [*] at h; done) | (have h2 := h; simp at h2; exfalso; omega) | (have h2 := h; simp at h2; try simp only [Bool.not_eq_true', Bool.not_eq_false'] at h) | skip))
     | (refine WK.regH Try.ntmps26 (by kernel_rfl) ?_; intro A hA Q hQ; simp [Action.enc, *])
     | (refine RunQ.gd rfl (by rw [hA.h]; rfl) ?_; simp [Action.enc, *])
     | (((first | refine RunQ.call rfl rfl rfl rfl rfl ?_ (s1) ?_ ?_ | refine RunQW.call rfl rfl rfl rfl ?_ (s1) ?_ ?_); (focus (simp [Action.enc, *]; done))); (focus (simp [Action.enc, *]; done)); refine RunQ.evalH ?_; simp [Action.enc, *])
     | (refine WK.ret Try.func26 ?_ ?_ <;> simp (maxDischargeDepth := 120) [Try.results26, Action.enc, Action.right, Action.fine, Action.bare, oxm0, wideZ, *])
     | fail)
  by_cases k2 : k = 17
  · subst k2
    simp only [Action.enc, Oxm.enc, oxm0, wideZ, uI_zero] at ho hm s0 s1 s2 s3 s4
    refine FnP.intro Try.func26 rfl rfl fun G w => ?_
    repeat' (first
     | refine WK.seq ?_
     | refine WK.block ?_
     | refine WK.inBlock ?_
     | refine WK.skip ?_
     | refine WK.label ?_
     | refine WK.scope ?_
     | refine WK.inScope ?_
     | refine WK.exit rfl ?_
     | refine WK.condT rfl ?_
     | refine WK.condF rfl ?_
     | (refine Hid.h hQ _ _ ?_; clear hQ hA)
     | refine WK.condAny rfl ?_ ?_
     | ((first | refine WK.cond2 rfl (fun h => ?_) (fun h => ?_) | refine Fork.mk (fun h => ?_) (fun h => ?_)) <;> (first | (simp [*] at h; done) | (have h2 := h; simp at h2; exfalso; omega) | (have h2 := h; simp at h2; try simp only [Bool.not_eq_true', Bool.not_eq_false'] at h) | skip))
     | (refine WK.regH Try.ntmps26 (by kernel_rfl) ?_; intro A hA Q hQ; simp [Action.enc, *])
     | (refine RunQ.gd rfl (by rw [hA.h]; rfl) ?_; simp [Action.enc, *])
     | (((first | refine RunQ.call rfl rfl rfl rfl rfl ?_ (s2) ?_ ?_ | refine RunQW.call rfl rfl rfl rfl ?_ (s2) ?_ ?_); (focus (simp [Action.enc, *]; done))); (focus (simp [Action.enc, *]; done)); refine RunQ.evalH ?_; simp [Action.enc, *])
     | (refine WK.ret Try.func26 ?_ ?_ <;> simp (maxDischargeDepth := 120) [Try.results26, Action.enc, Action.right, Action.fine, Action.bare, oxm0, wideZ, *])
     | fail)
  by_cases k3 : k = 18
  · subst k3
    simp only [Action.enc, Oxm.enc, oxm0, wideZ, uI_zero] at ho hm s0 s1 s2 s3 s4
    refine FnP.intro Try.func26 rfl rfl fun G w => ?_
    repeat' (first
     | refine WK.seq ?_
     | refine WK.block ?_
     | refine WK.inBlock ?_
     | refine WK.skip ?_
     | refine WK.label ?_
     | refine WK.scope ?_
     | refine WK.inScope ?_
     | refine WK.exit rfl ?_
     | refine WK.condT rfl ?_
     | refine WK.condF rfl ?_
     | (refine Hid.h hQ _ _ ?_; clear hQ hA)
     | refine WK.condAny rfl ?_ ?_
     | ((first | refine WK.cond2 rfl (fun h => ?_) (fun h => ?_) | refine Fork.mk (fun h => ?_) (fun h => ?_)) <;> (first | (simp [*] at h; done) | (have h2 := h; simp at h2; exfalso; omega) | (have h2 := h; simp at h2; try simp only [Bool.not_eq_true', Bool.not_eq_false'] at h) | skip))
     | (refine WK.regH Try.ntmps26 (by kernel_rfl) ?_; intro A hA Q hQ; simp [Action.enc, *])
     | (refine RunQ.gd rfl (by rw [hA.h]; rfl) ?_; simp [Action.enc, *])
     | (((first | refine RunQ.call rfl rfl rfl rfl rfl ?_ (s3) ?_ ?_ | refine RunQW.call rfl rfl rfl rfl ?_ (s3) ?_ ?_); (focus (simp [Action.enc, *]; done))); (focus (simp [Action.enc, *]; done)); refine RunQ.evalH ?_; simp [Action.enc, *])
     | (refine WK.ret Try.func26 ?_ ?_ <;> simp (maxDischargeDepth := 120) [Try.results26, Action.enc, Action.right, Action.fine, Action.bare, oxm0, wideZ, *])
     | fail)
  by_cases k4 : k = 25
  · subst k4
    simp only [Action.enc, Oxm.enc, oxm0, wideZ, uI_zero] at ho hm s0 s1 s2 s3 s4
    refine FnP.intro Try.func26 rfl rfl fun G w => ?_
    repeat' (first
     | refine WK.seq ?_
     | refine WK.block ?_
     | refine WK.inBlock ?_
     | refine WK.skip ?_
     | refine WK.label ?_
     | refine WK.scope ?_
     | refine WK.inScope ?_
     | refine WK.exit rfl ?_
     | refine WK.condT rfl ?_
     | refine WK.condF rfl ?_
     | (refine Hid.h hQ _ _ ?_; clear hQ hA)
     | refine WK.condAny rfl ?_ ?_
     | ((first | refine WK.cond2 rfl (fun h => ?_) (fun h => ?_) | refine Fork.mk (fun h => ?_) (fun h => ?_)) <;> (first | (simp [*] at h; done) | (have h2 := h; simp at h2; exfalso; omega) | (have h2 := h; simp at h2; try simp only [Bool.not_eq_true', Bool.not_eq_false'] at h) | skip))
     | (refine WK.regH Try.ntmps26 (by kernel_rfl) ?_; intro A hA Q hQ; simp [Action.enc, Oxm.enc, *])
     | (refine RunQ.gd rfl (by rw [hA.h]; rfl) ?_; simp [Action.enc, Oxm.enc, *])
     | ((first | ((first | refine RunQ.call rfl rfl rfl rfl rfl ?_ (ho) ?_ ?_ | refine RunQW.call rfl rfl rfl rfl ?_ (ho) ?_ ?_); (focus (simp [Action.enc, Oxm.enc, *]; done))) | ((first | refine RunQ.call rfl rfl rfl rfl rfl ?_ (rasets_c oxm.field) ?_ ?_ | refine RunQW.call rfl rfl rfl rfl ?_ (rasets_c oxm.field) ?_ ?_); (focus (simp [Action.enc, Oxm.enc, *]; done))) | ((first | refine RunQ.call rfl rfl rfl rfl rfl ?_ (s4) ?_ ?_ | refine RunQW.call rfl rfl rfl rfl ?_ (s4) ?_ ?_); (focus (simp [Action.enc, Oxm.enc, *]; done)))); (focus (simp [Action.enc, Oxm.enc, *]; done)); refine RunQ.evalH ?_; simp [Action.enc, Oxm.enc, *])
     | (refine WK.ret Try.func26 ?_ ?_ <;> simp (maxDischargeDepth := 120) [Try.results26, Action.enc, Oxm.enc, Action.right, Action.fine, Action.bare, oxm0, wideZ, *])
     | fail)
  · refine FnP.intro Try.func26 rfl rfl fun G w => ?_
    repeat' (first
     | refine WK.seq ?_
     | refine WK.block ?_
     | refine WK.inBlock ?_
     | refine WK.skip ?_
     | refine WK.label ?_
     | refine WK.scope ?_
     | refine WK.inScope ?_
     | refine WK.exit rfl ?_
     | refine WK.condT rfl ?_
     | refine WK.condF rfl ?_
     | (refine Hid.h hQ _ _ ?_; clear hQ hA)
     | refine WK.condAny rfl ?_ ?_
     | ((first | refine WK.cond2 rfl (fun h => ?_) (fun h => ?_) | refine Fork.mk (fun h => ?_) (fun h => ?_)) <;> (first | (simp [*] at h; done) | (have h2 := h; simp at h2; exfalso; omega) | (have h2 := h; simp at h2; try simp only [Bool.not_eq_true', Bool.not_eq_false'] at h) | skip))
     | (refine WK.regH Try.ntmps26 (by kernel_rfl) ?_; intro A hA Q hQ; simp [Action.enc, *])
     | (refine RunQ.gd rfl (by rw [hA.h]; rfl) ?_; simp [Action.enc, *])
     | (refine WK.ret Try.func26 ?_ ?_ <;> simp (maxDischargeDepth := 120) [Try.results26, Action.enc, Action.right, Action.fine, Action.bare, *])
     | fail)
end Go.Proofs.Ytbncoeoamjcjjaa
end
