/- Bytes of wide numbers: got, and the reference's. -/
import Derived.Test.YtcccfbjkcahgfaaGreatWk2
import Derived.Test.YtcccfbjkcahgfaaGreatAf
set_option linter.all false
set_option linter.unnecessarySimpa false
section
set_option linter.unusedVariables false
set_option linter.unusedSimpArgs false
namespace Go.Proofs.YtcccfbjkcahgfaaGreat
open Go Go.AI Go.Proofs

theorem wrap_u64n {n : Int} (h : 0 ≤ n) (h' : n < 9223372036854775808) : IntKind.wrap .u64 n = n := by
  unfold IntKind.wrap
  show (if (false && decide (n % 18446744073709551616 ≥ 9223372036854775808)) = true then n % 18446744073709551616 - 18446744073709551616 else n % 18446744073709551616) = n
  rw [Bool.false_and, if_neg Bool.false_ne_true]
  exact Int.emod_eq_of_lt h (by omega)
def wStep (a : Wide) (x : BitVec 8) : Wide := ⟨(a.hi <<< 8) ||| (a.lo >>> 56), (a.lo <<< 8) ||| x.setWidth 64⟩
def wVal (l : List (BitVec 8)) : Wide := l.foldl wStep wideZ
theorem wVal_snoc (l : List (BitVec 8)) (x : BitVec 8) : wVal (l ++ [x]) = wStep (wVal l) x := by simp [wVal]
def wGet (b : List (BitVec 8)) (s : Nat) : Wide × Bool := if s ≤ b.length then (wVal (b.take s), true) else (wideZ, false)
theorem shl_uI (x : BitVec 64) : bShl .u64 (uI x) 8 = uI (x <<< 8) := by
  unfold bShl
  show IntKind.wrap .u64 (uI x * 2 ^ 8) = _
  unfold IntKind.wrap uI
  show (if (false && decide (((x.toNat : Int) * 2 ^ 8) % 18446744073709551616 ≥ 9223372036854775808)) = true then _ else ((x.toNat : Int) * 2 ^ 8) % 18446744073709551616) = _
  rw [Bool.false_and, if_neg Bool.false_ne_true, BitVec.toNat_shiftLeft, Nat.shiftLeft_eq]
  omega
theorem cvt_u64 (x : BitVec 8) : IntKind.wrap .u64 (bI x) = uI (x.setWidth 64) := by
  have hx := x.isLt
  rw [wrap_u64n (by unfold bI; omega) (by unfold bI; omega)]
  unfold bI uI
  rw [BitVec.toNat_setWidth]; omega
set_option maxHeartbeats 2000000 in
theorem wget_c (b : List (BitVec 8)) (s : Nat) (hs : s ≤ 16) (hb' : b.length ≤ 9223372036854775807) : FnP Tryz.prog 102 [byS b, .int .i64 s] (.tup [.agg (wGet b s).1.enc, .bool (wGet b s).2]) := by
  have mx : ¬ (s : Int) < 0 := by omega
  have h56 : ∀ x, bShr .u64 (uI x) 56 = uI (x >>> 56) := fun x => shr_uI x 56 (by omega)
  have h8 := shl_uI
  have hcv := cvt_u64
  unfold byS
  by_cases hle : s ≤ b.length
  case neg =>
    have e : wGet b s = (wideZ, false) := by unfold wGet; rw [if_neg hle]
    have m1 : ¬ (16 : Int) < b.length := by omega
    have m2 : (b.length : Int) < s := by omega
    have m3 : b.length < s := by omega
    refine FnP.intro Tryz.func102 rfl rfl fun G w => ?_
    repeat (refine WK.seq ?_)
    refine WK.reg 100 Tryz.ntmps102 (by kernel_rfl) ?_
    intro A hA Q hQ
    simp
    refine hQ _ _ ?_
    clear hQ hA
    repeat (refine WK.seq ?_)
    refine WK.reg 200 Tryz.ntmps102 (by kernel_rfl) ?_
    intro A hA Q hQ
    have hg2 : (A[2]?).bind (·.dst) = some 11 := by rw [hA]; rfl
    simp [mx, m1, m2, m3, hg2]
    refine hQ _ _ ?_
    clear hQ hA
    refine WK.cond2 rfl (fun h => ?_) (fun h => ?_)
    · repeat (refine WK.seq ?_)
      refine WK.reg 300 Tryz.ntmps102 (by kernel_rfl) ?_
      intro A hA Q hQ
      simp
      refine hQ _ _ ?_
      clear hQ hA
      refine WK.ret Tryz.func102 (by simp (maxDischargeDepth := 120) [Tryz.results102, e, wideZ, Wide.enc, uI_zero]) (by simp [e, wideZ, Wide.enc, uI_zero])
    · simp at h
  have e : wGet b s = (wVal (b.take s), true) := by unfold wGet; rw [if_pos hle]
  obtain ⟨l, hl⟩ : ∃ l, l = b.take s := ⟨_, rfl⟩
  have hll : l.length = s := by rw [hl, List.length_take]; omega
  have hsl : (byL b).take s = byL l := by rw [byL_take, hl]
  have hv0 : wVal [] = wideZ := rfl
  have c1 : (s : Int) ≤ b.length := by omega
  rw [← hl] at e
  refine FnP.intro Tryz.func102 rfl rfl fun G w => ?_
  repeat (refine WK.seq ?_)
  refine WK.reg 100 Tryz.ntmps102 (by kernel_rfl) ?_
  intro A hA Q hQ
  simp
  refine hQ _ _ ?_
  clear hQ hA
  repeat (refine WK.seq ?_)
  apply WK.cut (⟨(upd (upd (upd (upd J 0 (.sl false b.length (byL b))) 1 (.int .i64 s)) 4 (.ptr 50 0)) 17 (.bool false)), (upd B0 50 (.var wideZ.enc)), 0⟩ : St)
  · intro hcut
    by_cases m1 : (16 : Int) < b.length
    · have m2 : ¬ (16 : Int) < s := by omega
      have m4 : 16 < b.length := by omega
      refine WK.reg 200 Tryz.ntmps102 (by kernel_rfl) ?_
      intro A hA Q hQ
      have hg2 : (A[2]?).bind (·.dst) = some 11 := by rw [hA]; rfl
      simp [mx, m1, m2, m4, hg2]
      refine hQ _ _ ?_
      clear hQ hA
      refine WK.next (fun n => if n = 50 then 0 else n) hcut (by repeat (first | exact TmW.nil | refine TmW.upd ?_ (by simp (maxDischargeDepth := 120) [wideZ, Wide.enc, uI_zero]))) (by repeat (first | exact BxW.nil | refine BxW.upd ?_ (by simp (maxDischargeDepth := 120) [wideZ, Wide.enc, uI_zero]))) (by first | exact InjW.id | exact InjW.nil | exact InjW.one | exact InjW.two (by simp) | exact InjW.three (by simp) (by simp) (by simp))
    · have m2 : ¬ (b.length : Int) < s := by omega
      have m3 : ¬ b.length < s := by omega
      have m4 : ¬ 16 < b.length := by omega
      refine WK.reg 300 Tryz.ntmps102 (by kernel_rfl) ?_
      intro A hA Q hQ
      have hg2 : (A[2]?).bind (·.dst) = some 11 := by rw [hA]; rfl
      simp [mx, m1, m2, m3, m4, hg2]
      refine hQ _ _ ?_
      clear hQ hA
      refine WK.next (fun n => if n = 50 then 0 else n) hcut (by repeat (first | exact TmW.nil | refine TmW.upd ?_ (by simp (maxDischargeDepth := 120) [wideZ, Wide.enc, uI_zero]))) (by repeat (first | exact BxW.nil | refine BxW.upd ?_ (by simp (maxDischargeDepth := 120) [wideZ, Wide.enc, uI_zero]))) (by first | exact InjW.id | exact InjW.nil | exact InjW.one | exact InjW.two (by simp) | exact InjW.three (by simp) (by simp) (by simp))
  refine WK.cond2 rfl (fun h => ?_) (fun h => ?_)
  · cases h
  repeat (first | refine WK.seq ?_ | refine WK.skip ?_)
  refine WK.reg 400 Tryz.ntmps102 (by kernel_rfl) ?_
  intro A hA Q hQ
  simp
  refine hQ _ _ ?_
  clear hQ hA
  repeat (refine WK.seq ?_)
  refine WK.reg 500 Tryz.ntmps102 (by kernel_rfl) ?_
  intro A hA Q hQ
  simp [c1, hsl, hle]
  refine hQ _ _ ?_
  clear hQ hA
  repeat (refine WK.block ?_)
  refine WK.loopI (fun n => if n = 51 then 0 else n) (fun i : Nat => (⟨(upd (upd (upd (upd (upd J 4 (.ptr 50 0)) 6 (.ptr 51 0)) 21 (.sl false s (byL l))) 22 (.int .i64 s)) 23 (.int .i64 i)), (upd (upd B0 50 (.var wideZ.enc)) 51 (.var (wVal (l.take i)).enc)), 0⟩ : St)) (fun i => i ≤ s) (fun i => s - i) (0) (by repeat (first | exact TmW.nil | refine TmW.upd ?_ (by simp (maxDischargeDepth := 120) [hv0, wideZ, Wide.enc, uI_zero]))) (by repeat (first | exact BxW.nil | refine BxW.upd ?_ (by simp (maxDischargeDepth := 120) [hv0, wideZ, Wide.enc, uI_zero]))) (by first | exact InjW.id | exact InjW.nil | exact InjW.one | exact InjW.two (by simp) | exact InjW.three (by simp) (by simp) (by simp)) (Nat.zero_le _) (fun i hi IH => ?_)
  repeat (refine WK.seq ?_)
  refine WK.reg 600 Tryz.ntmps102 (by kernel_rfl) ?_
  intro A hA Q hQ
  simp
  refine hQ _ _ ?_
  clear hQ hA
  repeat (refine WK.seq ?_)
  refine WK.cond2 rfl (fun h1 => ?_) (fun h1 => ?_)
  · simp at h1
    have h2 : i < s := by omega
    have h2' : i < l.length := by omega
    have h6 : IntKind.i64.wrap ((i : Int) + 1) = i + 1 := wrap_i64 (by omega) (by omega)
    have hg := by_get l i h2'
    have o3 : wVal (l.take (i + 1)) = wStep (wVal (l.take i)) (nth l i) := by rw [take_nth h2', wVal_snoc]
    obtain ⟨a, ha⟩ : ∃ a, a = wVal (l.take i) := ⟨_, rfl⟩
    rw [← ha] at o3 ⊢
    repeat (first | refine WK.seq ?_ | refine WK.block ?_ | refine WK.skip ?_)
    refine WK.reg 700 Tryz.ntmps102 (by kernel_rfl) ?_
    intro A hA Q hQ
    simp [h2, h2', hll, hg]
    refine hQ _ _ ?_
    clear hQ hA
    repeat (refine WK.seq ?_)
    refine WK.reg 800 Tryz.ntmps102 (by kernel_rfl) ?_
    intro A hA Q hQ
    simp [Wide.enc, h56, h8]
    refine hQ _ _ ?_
    clear hQ hA
    refine WK.reg 900 Tryz.ntmps102 (by kernel_rfl) ?_
    intro A hA Q hQ
    simp [h8, hcv]
    refine hQ _ _ ?_
    clear hQ hA
    repeat (refine WK.inBlock ?_)
    refine WK.reg 1000 Tryz.ntmps102 (by kernel_rfl) ?_
    intro A hA Q hQ
    simp [h6]
    refine hQ _ _ ?_
    clear hQ hA
    refine WK.next (fun n => n) (IH (i + 1) (by omega) (by first | omega | (dsimp only; omega))) (by repeat (first | exact TmW.nil | refine TmW.upd ?_ (by simp (maxDischargeDepth := 120) [h6, o3, wStep, Wide.enc]))) (by repeat (first | exact BxW.nil | refine BxW.upd ?_ (by simp (maxDischargeDepth := 120) [h6, o3, wStep, Wide.enc]))) (by first | exact InjW.id | exact InjW.nil | exact InjW.one | exact InjW.two (by simp) | exact InjW.three (by simp) (by simp) (by simp))
  · simp at h1
    have h2 : i = s := by omega
    have hT : l.take i = l := by rw [h2]; exact List.take_of_length_le (by omega)
    rw [hT]
    repeat (first | refine WK.seq ?_ | refine WK.exit rfl ?_)
    refine WK.reg 1100 Tryz.ntmps102 (by kernel_rfl) ?_
    intro A hA Q hQ
    simp
    refine hQ _ _ ?_
    clear hQ hA
    refine WK.ret Tryz.func102 (by simp (maxDischargeDepth := 120) [Tryz.results102, e]) (by simp [e])
end Go.Proofs.YtcccfbjkcahgfaaGreat
end

section
set_option linter.unusedVariables false
set_option linter.unusedSimpArgs false
namespace Go.Proofs.YtcccfbjkcahgfaaGreat
open Go Go.AI Go.Proofs

def Oxm.beyond (o : Oxm) (w : Wide) : Bool := !(w.less (lowW (fBits o.field))).zero
def Oxm.form (o : Oxm) : Int := if Oxm.beyond o o.value then 7 else if !o.masked then 0 else if Oxm.beyond o o.mask || o.mask.zero then 8 else if !(o.value.less o.mask).zero then 5 else 0
def Oxm.right (o : Oxm) : Bool := !(!fRight o.field || ((o.masked && !fMasks o.field) || (!o.masked && !o.mask.zero))) && (Oxm.form o) == 0
theorem obeyond_c (o : Oxm) (w0 : Wide) : FnP Tryz.prog 184 [.agg w0.enc, .iptr o.enc] (.bool (Oxm.beyond o w0)) := by
  refine FnP.intro Tryz.func184 rfl rfl fun G w => ?_
  repeat (refine WK.seq ?_)
  refine WK.reg 100 Tryz.ntmps184 (by kernel_rfl) ?_
  intro A hA Q hQ
  simp
  refine hQ _ _ ?_
  clear hQ hA
  repeat (refine WK.seq ?_)
  refine WK.ghost (Ghost.frzVar 2 rfl rfl) ?_
  refine WK.regD 200 clsOf (by kernel_rfl) Tryz.ntmps184 (by kernel_rfl) (by kernel_rfl) ?_
  intro A hA Q hQ
  simp [Oxm.enc]
  refine RunQ.call rfl rfl rfl rfl (by rfl) (by simp (maxDischargeDepth := 120)) (fbits_c o.field) (by simp) ?_
  refine RunQ.eval ?_
  simp
  refine RunQ.call rfl rfl rfl rfl (by rfl) (by simp (maxDischargeDepth := 120)) (low_c (fBits o.field)) (by simp) ?_
  refine RunQ.eval ?_
  simp
  refine RunQ.call rfl rfl rfl rfl (by rfl) (by simp (maxDischargeDepth := 120)) (less_c w0 (lowW (fBits o.field))) (by simp) ?_
  refine RunQ.eval ?_
  simp
  refine RunQ.call rfl rfl rfl rfl (by rfl) (by simp (maxDischargeDepth := 120)) (zero_c (w0.less (lowW (fBits o.field)))) (by simp) ?_
  refine RunQ.eval ?_
  simp
  refine hQ _ _ ?_
  clear hQ hA
  refine WK.ret Tryz.func184 (by simp (maxDischargeDepth := 120) [Tryz.results184, Oxm.beyond]) (by simp [Oxm.beyond])
set_option maxHeartbeats 2000000 in
theorem oform_c (o : Oxm) : FnP Tryz.prog 161 [.agg o.enc] (.int .i64 (Oxm.form o)) := by
  have hb1 := obeyond_c o o.value
  have hb2 := obeyond_c o o.mask
  have hz := zero_c o.mask
  have hl := less_c o.value o.mask
  have hz2 := zero_c (o.value.less o.mask)
  simp only [Oxm.enc, Wide.enc] at hb1 hb2 hz hl hz2
  cases k1 : Oxm.beyond o o.value
  case true =>
    rw [k1] at hb1
    have e : (Oxm.form o) = 7 := by unfold Oxm.form; rw [k1]; rfl
    refine FnP.intro Tryz.func161 rfl rfl fun G w => ?_
    repeat (refine WK.seq ?_)
    refine WK.reg 100 Tryz.ntmps161 (by kernel_rfl) ?_
    intro A hA Q hQ
    simp [Oxm.enc]
    refine hQ _ _ ?_
    clear hQ hA
    repeat (refine WK.seq ?_)
    refine WK.ghost (Ghost.frzVar 1 rfl rfl) ?_
    refine WK.reg 200 Tryz.ntmps161 (by kernel_rfl) ?_
    intro A hA Q hQ
    simp
    refine hQ _ _ ?_
    clear hQ hA
    repeat (first | refine WK.seq ?_ | refine WK.block ?_)
    refine WK.reg 300 Tryz.ntmps161 (by kernel_rfl) ?_
    intro A hA Q hQ
    simp
    refine RunQ.call rfl rfl rfl rfl (by rfl) (by simp (maxDischargeDepth := 120)) (hb1) (by simp) ?_
    refine RunQ.eval ?_
    simp
    refine hQ _ _ ?_
    clear hQ hA
    refine WK.cond2 rfl (fun h => ?_) (fun h => ?_)
    · repeat (refine WK.seq ?_)
      refine WK.reg 400 Tryz.ntmps161 (by kernel_rfl) ?_
      intro A hA Q hQ
      simp
      refine hQ _ _ ?_
      clear hQ hA
      refine WK.ret Tryz.func161 (by simp (maxDischargeDepth := 120) [Tryz.results161, e]) (by simp [e])
    · cases h
  rw [k1] at hb1
  cases k2 : o.masked
  case false =>
    have e : (Oxm.form o) = 0 := by unfold Oxm.form; rw [k1, k2]; rfl
    rw [k2] at hb1
    refine FnP.intro Tryz.func161 rfl rfl fun G w => ?_
    repeat (refine WK.seq ?_)
    refine WK.reg 100 Tryz.ntmps161 (by kernel_rfl) ?_
    intro A hA Q hQ
    simp [Oxm.enc, k2]
    refine hQ _ _ ?_
    clear hQ hA
    repeat (refine WK.seq ?_)
    refine WK.ghost (Ghost.frzVar 1 rfl rfl) ?_
    refine WK.reg 200 Tryz.ntmps161 (by kernel_rfl) ?_
    intro A hA Q hQ
    simp
    refine hQ _ _ ?_
    clear hQ hA
    repeat (first | refine WK.seq ?_ | refine WK.block ?_)
    refine WK.reg 300 Tryz.ntmps161 (by kernel_rfl) ?_
    intro A hA Q hQ
    simp
    refine RunQ.call rfl rfl rfl rfl (by rfl) (by simp (maxDischargeDepth := 120)) (hb1) (by simp) ?_
    refine RunQ.eval ?_
    simp
    refine hQ _ _ ?_
    clear hQ hA
    refine WK.cond2 rfl (fun h => ?_) (fun h => ?_)
    · cases h
    repeat (refine WK.seq ?_)
    refine WK.reg 400 Tryz.ntmps161 (by kernel_rfl) ?_
    intro A hA Q hQ
    simp
    refine hQ _ _ ?_
    clear hQ hA
    refine WK.cond2 rfl (fun h => ?_) (fun h => ?_)
    · repeat (refine WK.seq ?_)
      refine WK.reg 500 Tryz.ntmps161 (by kernel_rfl) ?_
      intro A hA Q hQ
      simp
      refine hQ _ _ ?_
      clear hQ hA
      refine WK.ret Tryz.func161 (by simp (maxDischargeDepth := 120) [Tryz.results161, e]) (by simp [e])
    · cases h
  rw [k2] at hb1 hb2
  cases k3 : Oxm.beyond o o.mask || o.mask.zero
  case true =>
    have e : (Oxm.form o) = 8 := by unfold Oxm.form; rw [k1, k2, k3]; rfl
    refine FnP.intro Tryz.func161 rfl rfl fun G w => ?_
    repeat (refine WK.seq ?_)
    refine WK.reg 100 Tryz.ntmps161 (by kernel_rfl) ?_
    intro A hA Q hQ
    simp [Oxm.enc, k2]
    refine hQ _ _ ?_
    clear hQ hA
    repeat (refine WK.seq ?_)
    refine WK.ghost (Ghost.frzVar 1 rfl rfl) ?_
    refine WK.reg 200 Tryz.ntmps161 (by kernel_rfl) ?_
    intro A hA Q hQ
    simp
    refine hQ _ _ ?_
    clear hQ hA
    repeat (first | refine WK.seq ?_ | refine WK.block ?_)
    refine WK.reg 300 Tryz.ntmps161 (by kernel_rfl) ?_
    intro A hA Q hQ
    simp
    refine RunQ.call rfl rfl rfl rfl (by rfl) (by simp (maxDischargeDepth := 120)) (hb1) (by simp) ?_
    refine RunQ.eval ?_
    simp
    refine hQ _ _ ?_
    clear hQ hA
    refine WK.cond2 rfl (fun h => ?_) (fun h => ?_)
    · cases h
    repeat (refine WK.seq ?_)
    refine WK.reg 400 Tryz.ntmps161 (by kernel_rfl) ?_
    intro A hA Q hQ
    simp
    refine hQ _ _ ?_
    clear hQ hA
    refine WK.cond2 rfl (fun h => ?_) (fun h => ?_)
    · cases h
    cases k4 : Oxm.beyond o o.mask
    · rw [k4] at hb2 k3
      rw [Bool.false_or] at k3
      rw [k3] at hz
      repeat (refine WK.seq ?_)
      refine WK.reg 500 Tryz.ntmps161 (by kernel_rfl) ?_
      intro A hA Q hQ
      have hg4 : (A[4]?).bind (·.dst) = some 19 := by rw [hA]; rfl
      simp [hg4]
      refine RunQ.call rfl rfl rfl rfl (by rfl) (by simp (maxDischargeDepth := 120) [hg4]) (hb2) (by simp [hg4]) ?_
      refine RunQ.eval ?_
      simp [hg4]
      refine RunQ.callG rfl rfl (by simp [hg4]) rfl (by rfl) (by simp (maxDischargeDepth := 120) [hg4]) (hz) (by simp [hg4]) ?_
      refine RunQ.eval ?_
      simp [hg4]
      refine hQ _ _ ?_
      clear hQ hA
      refine WK.cond2 rfl (fun h => ?_) (fun h => ?_)
      · repeat (refine WK.seq ?_)
        refine WK.reg 600 Tryz.ntmps161 (by kernel_rfl) ?_
        intro A hA Q hQ
        simp
        refine hQ _ _ ?_
        clear hQ hA
        refine WK.ret Tryz.func161 (by simp (maxDischargeDepth := 120) [Tryz.results161, e]) (by simp [e])
      · cases h
    · rw [k4] at hb2
      repeat (refine WK.seq ?_)
      refine WK.reg 700 Tryz.ntmps161 (by kernel_rfl) ?_
      intro A hA Q hQ
      have hg4 : (A[4]?).bind (·.dst) = some 19 := by rw [hA]; rfl
      simp [hg4]
      refine RunQ.call rfl rfl rfl rfl (by rfl) (by simp (maxDischargeDepth := 120) [hg4]) (hb2) (by simp [hg4]) ?_
      refine RunQ.eval ?_
      simp [hg4]
      refine hQ _ _ ?_
      clear hQ hA
      refine WK.cond2 rfl (fun h => ?_) (fun h => ?_)
      · repeat (refine WK.seq ?_)
        refine WK.reg 800 Tryz.ntmps161 (by kernel_rfl) ?_
        intro A hA Q hQ
        simp
        refine hQ _ _ ?_
        clear hQ hA
        refine WK.ret Tryz.func161 (by simp (maxDischargeDepth := 120) [Tryz.results161, e]) (by simp [e])
      · cases h
  rw [Bool.or_eq_false_iff] at k3
  rw [k3.1] at hb2
  rw [k3.2] at hz
  cases k5 : (o.value.less o.mask).zero
  · have e : (Oxm.form o) = 5 := by unfold Oxm.form; rw [k1, k2, k3.1, k3.2, k5]; rfl
    rw [k5] at hz2
    refine FnP.intro Tryz.func161 rfl rfl fun G w => ?_
    repeat (refine WK.seq ?_)
    refine WK.reg 100 Tryz.ntmps161 (by kernel_rfl) ?_
    intro A hA Q hQ
    simp [Oxm.enc, k2]
    refine hQ _ _ ?_
    clear hQ hA
    repeat (refine WK.seq ?_)
    refine WK.ghost (Ghost.frzVar 1 rfl rfl) ?_
    refine WK.reg 200 Tryz.ntmps161 (by kernel_rfl) ?_
    intro A hA Q hQ
    simp
    refine hQ _ _ ?_
    clear hQ hA
    repeat (first | refine WK.seq ?_ | refine WK.block ?_)
    refine WK.reg 300 Tryz.ntmps161 (by kernel_rfl) ?_
    intro A hA Q hQ
    simp
    refine RunQ.call rfl rfl rfl rfl (by rfl) (by simp (maxDischargeDepth := 120)) (hb1) (by simp) ?_
    refine RunQ.eval ?_
    simp
    refine hQ _ _ ?_
    clear hQ hA
    refine WK.cond2 rfl (fun h => ?_) (fun h => ?_)
    · cases h
    repeat (refine WK.seq ?_)
    refine WK.reg 400 Tryz.ntmps161 (by kernel_rfl) ?_
    intro A hA Q hQ
    simp
    refine hQ _ _ ?_
    clear hQ hA
    refine WK.cond2 rfl (fun h => ?_) (fun h => ?_)
    · cases h
    repeat (refine WK.seq ?_)
    refine WK.reg 500 Tryz.ntmps161 (by kernel_rfl) ?_
    intro A hA Q hQ
    have hg4 : (A[4]?).bind (·.dst) = some 19 := by rw [hA]; rfl
    simp [hg4]
    refine RunQ.call rfl rfl rfl rfl (by rfl) (by simp (maxDischargeDepth := 120) [hg4]) (hb2) (by simp [hg4]) ?_
    refine RunQ.eval ?_
    simp [hg4]
    refine RunQ.callG rfl rfl (by simp [hg4]) rfl (by rfl) (by simp (maxDischargeDepth := 120) [hg4]) (hz) (by simp [hg4]) ?_
    refine RunQ.eval ?_
    simp [hg4]
    refine hQ _ _ ?_
    clear hQ hA
    refine WK.cond2 rfl (fun h => ?_) (fun h => ?_)
    · cases h
    repeat (refine WK.seq ?_)
    refine WK.reg 600 Tryz.ntmps161 (by kernel_rfl) ?_
    intro A hA Q hQ
    simp
    refine RunQ.call rfl rfl rfl rfl (by rfl) (by simp (maxDischargeDepth := 120)) (hl) (by simp) ?_
    refine RunQ.eval ?_
    simp
    refine RunQ.call rfl rfl rfl rfl (by rfl) (by simp (maxDischargeDepth := 120)) (hz2) (by simp) ?_
    refine RunQ.eval ?_
    simp
    refine hQ _ _ ?_
    clear hQ hA
    refine WK.cond2 rfl (fun h => ?_) (fun h => ?_)
    · repeat (refine WK.seq ?_)
      refine WK.reg 700 Tryz.ntmps161 (by kernel_rfl) ?_
      intro A hA Q hQ
      simp
      refine hQ _ _ ?_
      clear hQ hA
      refine WK.ret Tryz.func161 (by simp (maxDischargeDepth := 120) [Tryz.results161, e]) (by simp [e])
    · cases h
  · have e : (Oxm.form o) = 0 := by unfold Oxm.form; rw [k1, k2, k3.1, k3.2, k5]; rfl
    rw [k5] at hz2
    refine FnP.intro Tryz.func161 rfl rfl fun G w => ?_
    repeat (refine WK.seq ?_)
    refine WK.reg 100 Tryz.ntmps161 (by kernel_rfl) ?_
    intro A hA Q hQ
    simp [Oxm.enc, k2]
    refine hQ _ _ ?_
    clear hQ hA
    repeat (refine WK.seq ?_)
    refine WK.ghost (Ghost.frzVar 1 rfl rfl) ?_
    refine WK.reg 200 Tryz.ntmps161 (by kernel_rfl) ?_
    intro A hA Q hQ
    simp
    refine hQ _ _ ?_
    clear hQ hA
    repeat (first | refine WK.seq ?_ | refine WK.block ?_)
    refine WK.reg 300 Tryz.ntmps161 (by kernel_rfl) ?_
    intro A hA Q hQ
    simp
    refine RunQ.call rfl rfl rfl rfl (by rfl) (by simp (maxDischargeDepth := 120)) (hb1) (by simp) ?_
    refine RunQ.eval ?_
    simp
    refine hQ _ _ ?_
    clear hQ hA
    refine WK.cond2 rfl (fun h => ?_) (fun h => ?_)
    · cases h
    repeat (refine WK.seq ?_)
    refine WK.reg 400 Tryz.ntmps161 (by kernel_rfl) ?_
    intro A hA Q hQ
    simp
    refine hQ _ _ ?_
    clear hQ hA
    refine WK.cond2 rfl (fun h => ?_) (fun h => ?_)
    · cases h
    repeat (refine WK.seq ?_)
    refine WK.reg 500 Tryz.ntmps161 (by kernel_rfl) ?_
    intro A hA Q hQ
    have hg4 : (A[4]?).bind (·.dst) = some 19 := by rw [hA]; rfl
    simp [hg4]
    refine RunQ.call rfl rfl rfl rfl (by rfl) (by simp (maxDischargeDepth := 120) [hg4]) (hb2) (by simp [hg4]) ?_
    refine RunQ.eval ?_
    simp [hg4]
    refine RunQ.callG rfl rfl (by simp [hg4]) rfl (by rfl) (by simp (maxDischargeDepth := 120) [hg4]) (hz) (by simp [hg4]) ?_
    refine RunQ.eval ?_
    simp [hg4]
    refine hQ _ _ ?_
    clear hQ hA
    refine WK.cond2 rfl (fun h => ?_) (fun h => ?_)
    · cases h
    repeat (refine WK.seq ?_)
    refine WK.reg 600 Tryz.ntmps161 (by kernel_rfl) ?_
    intro A hA Q hQ
    simp
    refine RunQ.call rfl rfl rfl rfl (by rfl) (by simp (maxDischargeDepth := 120)) (hl) (by simp) ?_
    refine RunQ.eval ?_
    simp
    refine RunQ.call rfl rfl rfl rfl (by rfl) (by simp (maxDischargeDepth := 120)) (hz2) (by simp) ?_
    refine RunQ.eval ?_
    simp
    refine hQ _ _ ?_
    clear hQ hA
    refine WK.cond2 rfl (fun h => ?_) (fun h => ?_)
    · cases h
    · repeat (first | refine WK.seq ?_ | refine WK.inBlock ?_ | refine WK.skip ?_)
      refine WK.reg 700 Tryz.ntmps161 (by kernel_rfl) ?_
      intro A hA Q hQ
      simp
      refine hQ _ _ ?_
      clear hQ hA
      refine WK.ret Tryz.func161 (by simp (maxDischargeDepth := 120) [Tryz.results161, e]) (by simp [e])
end Go.Proofs.YtcccfbjkcahgfaaGreat
end

section
set_option linter.unusedVariables false
set_option linter.unusedSimpArgs false
namespace Go.Proofs.YtcccfbjkcahgfaaGreat
open Go Go.AI Go.Proofs

set_option maxHeartbeats 4000000 in
theorem oright_c (o : Oxm) : FnP Tryz.prog 211 [.agg o.enc] (.bool (Oxm.right o)) := by
  have hf := oform_c o
  have hm := zero_c o.mask
  simp only [Oxm.enc, Wide.enc] at hf hm
  cases k1 : fRight o.field
  · have e : Oxm.right o = false := by unfold Oxm.right; rw [k1]; rfl
    refine FnP.intro Tryz.func211 rfl rfl fun G w => ?_
    repeat (refine WK.seq ?_)
    refine WK.reg 100 Tryz.ntmps211 (by kernel_rfl) ?_
    intro A hA Q hQ
    simp [Oxm.enc]
    refine hQ _ _ ?_
    clear hQ hA
    repeat (refine WK.seq ?_)
    refine WK.ghost (Ghost.frzVar 1 rfl rfl) ?_
    refine WK.reg 200 Tryz.ntmps211 (by kernel_rfl) ?_
    intro A hA Q hQ
    have hg4 : (A[4]?).bind (·.dst) = some 7 := by rw [hA]; rfl
    have hg7 : (A[7]?).bind (·.dst) = some 10 := by rw [hA]; rfl
    have hg14 : (A[14]?).bind (·.dst) = some 17 := by rw [hA]; rfl
    have hg18 : (A[18]?).bind (·.dst) = some 21 := by rw [hA]; rfl
    simp [hg4, hg7, hg14, hg18]
    refine RunQ.call rfl rfl rfl rfl (by rfl) (by simp (maxDischargeDepth := 120) [k1, hg4, hg7, hg14, hg18]) (fright_c o.field) (by simp [k1, hg4, hg7, hg14, hg18]) ?_
    refine RunQ.eval ?_
    simp [k1, hg4, hg7, hg14, hg18]
    refine hQ _ _ ?_
    clear hQ hA
    refine WK.cond2 rfl (fun h => ?_) (fun h => ?_)
    · repeat (refine WK.seq ?_)
      refine WK.reg 300 Tryz.ntmps211 (by kernel_rfl) ?_
      intro A hA Q hQ
      simp
      refine hQ _ _ ?_
      clear hQ hA
      refine WK.ret Tryz.func211 (by simp (maxDischargeDepth := 120) [Tryz.results211, e]) (by simp [e])
    · cases h
  cases k2 : o.masked
  · rw [k2] at hf
    cases k3 : o.mask.zero
    · have e : Oxm.right o = false := by unfold Oxm.right; rw [k1, k2, k3]; rfl
      rw [k3] at hm
      refine FnP.intro Tryz.func211 rfl rfl fun G w => ?_
      repeat (refine WK.seq ?_)
      refine WK.reg 100 Tryz.ntmps211 (by kernel_rfl) ?_
      intro A hA Q hQ
      simp [Oxm.enc, k2]
      refine hQ _ _ ?_
      clear hQ hA
      repeat (refine WK.seq ?_)
      refine WK.ghost (Ghost.frzVar 1 rfl rfl) ?_
      refine WK.reg 200 Tryz.ntmps211 (by kernel_rfl) ?_
      intro A hA Q hQ
      have hg4 : (A[4]?).bind (·.dst) = some 7 := by rw [hA]; rfl
      have hg7 : (A[7]?).bind (·.dst) = some 10 := by rw [hA]; rfl
      have hg14 : (A[14]?).bind (·.dst) = some 17 := by rw [hA]; rfl
      have hg18 : (A[18]?).bind (·.dst) = some 21 := by rw [hA]; rfl
      simp [hg4, hg7, hg14, hg18]
      refine RunQ.call rfl rfl rfl rfl (by rfl) (by simp (maxDischargeDepth := 120) [k1, hg4, hg7, hg14, hg18]) (fright_c o.field) (by simp [k1, hg4, hg7, hg14, hg18]) ?_
      refine RunQ.eval ?_
      simp [k1, hg4, hg7, hg14, hg18]
      refine RunQ.callG rfl rfl (by simp [hg14, hg18]) rfl (by rfl) (by simp (maxDischargeDepth := 120) [hg14, hg18]) (hm) (by simp [hg14, hg18]) ?_
      refine RunQ.eval ?_
      simp [hg14, hg18]
      refine hQ _ _ ?_
      clear hQ hA
      refine WK.cond2 rfl (fun h => ?_) (fun h => ?_)
      · repeat (refine WK.seq ?_)
        refine WK.reg 300 Tryz.ntmps211 (by kernel_rfl) ?_
        intro A hA Q hQ
        simp
        refine hQ _ _ ?_
        clear hQ hA
        refine WK.ret Tryz.func211 (by simp (maxDischargeDepth := 120) [Tryz.results211, e]) (by simp [e])
      · cases h
    · have e : Oxm.right o = (Oxm.form o == 0) := by unfold Oxm.right; rw [k1, k2, k3]; rfl
      rw [k3] at hm
      refine FnP.intro Tryz.func211 rfl rfl fun G w => ?_
      repeat (refine WK.seq ?_)
      refine WK.reg 100 Tryz.ntmps211 (by kernel_rfl) ?_
      intro A hA Q hQ
      simp [Oxm.enc, k2]
      refine hQ _ _ ?_
      clear hQ hA
      repeat (refine WK.seq ?_)
      refine WK.ghost (Ghost.frzVar 1 rfl rfl) ?_
      refine WK.reg 200 Tryz.ntmps211 (by kernel_rfl) ?_
      intro A hA Q hQ
      have hg4 : (A[4]?).bind (·.dst) = some 7 := by rw [hA]; rfl
      have hg7 : (A[7]?).bind (·.dst) = some 10 := by rw [hA]; rfl
      have hg14 : (A[14]?).bind (·.dst) = some 17 := by rw [hA]; rfl
      have hg18 : (A[18]?).bind (·.dst) = some 21 := by rw [hA]; rfl
      simp [hg4, hg7, hg14, hg18]
      refine RunQ.call rfl rfl rfl rfl (by rfl) (by simp (maxDischargeDepth := 120) [k1, hg4, hg7, hg14, hg18]) (fright_c o.field) (by simp [k1, hg4, hg7, hg14, hg18]) ?_
      refine RunQ.eval ?_
      simp [k1, hg4, hg7, hg14, hg18]
      refine RunQ.callG rfl rfl (by simp [hg14, hg18]) rfl (by rfl) (by simp (maxDischargeDepth := 120) [hg14, hg18]) (hm) (by simp [hg14, hg18]) ?_
      refine RunQ.eval ?_
      simp [hg14, hg18]
      refine hQ _ _ ?_
      clear hQ hA
      refine WK.cond2 rfl (fun h => ?_) (fun h => ?_)
      · cases h
      repeat (first | refine WK.seq ?_ | refine WK.skip ?_)
      refine WK.reg 300 Tryz.ntmps211 (by kernel_rfl) ?_
      intro A hA Q hQ
      simp
      refine RunQ.call rfl rfl rfl rfl (by rfl) (by simp (maxDischargeDepth := 120)) (hf) (by simp) ?_
      refine RunQ.eval ?_
      simp
      refine hQ _ _ ?_
      clear hQ hA
      refine WK.ret Tryz.func211 (by simp (maxDischargeDepth := 120) [Tryz.results211, e]) (by simp [e])
  · rw [k2] at hf
    cases k3 : fMasks o.field
    · have e : Oxm.right o = false := by unfold Oxm.right; rw [k1, k2, k3]; rfl
      refine FnP.intro Tryz.func211 rfl rfl fun G w => ?_
      repeat (refine WK.seq ?_)
      refine WK.reg 100 Tryz.ntmps211 (by kernel_rfl) ?_
      intro A hA Q hQ
      simp [Oxm.enc, k2]
      refine hQ _ _ ?_
      clear hQ hA
      repeat (refine WK.seq ?_)
      refine WK.ghost (Ghost.frzVar 1 rfl rfl) ?_
      refine WK.reg 200 Tryz.ntmps211 (by kernel_rfl) ?_
      intro A hA Q hQ
      have hg4 : (A[4]?).bind (·.dst) = some 7 := by rw [hA]; rfl
      have hg7 : (A[7]?).bind (·.dst) = some 10 := by rw [hA]; rfl
      have hg14 : (A[14]?).bind (·.dst) = some 17 := by rw [hA]; rfl
      have hg18 : (A[18]?).bind (·.dst) = some 21 := by rw [hA]; rfl
      simp [hg4, hg7, hg14, hg18]
      refine RunQ.call rfl rfl rfl rfl (by rfl) (by simp (maxDischargeDepth := 120) [k1, hg4, hg7, hg14, hg18]) (fright_c o.field) (by simp [k1, hg4, hg7, hg14, hg18]) ?_
      refine RunQ.eval ?_
      simp [k1, hg4, hg7, hg14, hg18]
      refine RunQ.callG rfl rfl (by simp [k3, hg4, hg7, hg14, hg18]) rfl (by rfl) (by simp (maxDischargeDepth := 120) [k3, hg4, hg7, hg14, hg18]) (fmasks_c o.field) (by simp [k3, hg4, hg7, hg14, hg18]) ?_
      refine RunQ.eval ?_
      simp [k3, hg4, hg7, hg14, hg18]
      refine hQ _ _ ?_
      clear hQ hA
      refine WK.cond2 rfl (fun h => ?_) (fun h => ?_)
      · repeat (refine WK.seq ?_)
        refine WK.reg 300 Tryz.ntmps211 (by kernel_rfl) ?_
        intro A hA Q hQ
        simp
        refine hQ _ _ ?_
        clear hQ hA
        refine WK.ret Tryz.func211 (by simp (maxDischargeDepth := 120) [Tryz.results211, e]) (by simp [e])
      · cases h
    · have e : Oxm.right o = (Oxm.form o == 0) := by unfold Oxm.right; rw [k1, k2, k3]; rfl
      refine FnP.intro Tryz.func211 rfl rfl fun G w => ?_
      repeat (refine WK.seq ?_)
      refine WK.reg 100 Tryz.ntmps211 (by kernel_rfl) ?_
      intro A hA Q hQ
      simp [Oxm.enc, k2]
      refine hQ _ _ ?_
      clear hQ hA
      repeat (refine WK.seq ?_)
      refine WK.ghost (Ghost.frzVar 1 rfl rfl) ?_
      refine WK.reg 200 Tryz.ntmps211 (by kernel_rfl) ?_
      intro A hA Q hQ
      have hg4 : (A[4]?).bind (·.dst) = some 7 := by rw [hA]; rfl
      have hg7 : (A[7]?).bind (·.dst) = some 10 := by rw [hA]; rfl
      have hg14 : (A[14]?).bind (·.dst) = some 17 := by rw [hA]; rfl
      have hg18 : (A[18]?).bind (·.dst) = some 21 := by rw [hA]; rfl
      simp [hg4, hg7, hg14, hg18]
      refine RunQ.call rfl rfl rfl rfl (by rfl) (by simp (maxDischargeDepth := 120) [k1, hg4, hg7, hg14, hg18]) (fright_c o.field) (by simp [k1, hg4, hg7, hg14, hg18]) ?_
      refine RunQ.eval ?_
      simp [k1, hg4, hg7, hg14, hg18]
      refine RunQ.callG rfl rfl (by simp [k3, hg4, hg7, hg14, hg18]) rfl (by rfl) (by simp (maxDischargeDepth := 120) [k3, hg4, hg7, hg14, hg18]) (fmasks_c o.field) (by simp [k3, hg4, hg7, hg14, hg18]) ?_
      refine RunQ.eval ?_
      simp [k3, hg4, hg7, hg14, hg18]
      refine hQ _ _ ?_
      clear hQ hA
      refine WK.cond2 rfl (fun h => ?_) (fun h => ?_)
      · cases h
      repeat (first | refine WK.seq ?_ | refine WK.skip ?_)
      refine WK.reg 300 Tryz.ntmps211 (by kernel_rfl) ?_
      intro A hA Q hQ
      simp
      refine RunQ.call rfl rfl rfl rfl (by rfl) (by simp (maxDischargeDepth := 120)) (hf) (by simp) ?_
      refine RunQ.eval ?_
      simp
      refine hQ _ _ ?_
      clear hQ hA
      refine WK.ret Tryz.func211 (by simp (maxDischargeDepth := 120) [Tryz.results211, e]) (by simp [e])
theorem obad_c (n : Int) : FnP Tryz.prog 159 [.int .i64 n] (.agg [.bool true, .int .i64 4, .int .i64 n]) := by
  refine FnP.intro Tryz.func159 rfl rfl fun G w => ?_
  repeat (refine WK.seq ?_)
  refine WK.reg 100 Tryz.ntmps159 (by kernel_rfl) ?_
  intro A hA Q hQ
  simp
  refine hQ _ _ ?_
  clear hQ hA
  repeat (refine WK.seq ?_)
  refine WK.reg 200 Tryz.ntmps159 (by kernel_rfl) ?_
  intro A hA Q hQ
  simp
  refine hQ _ _ ?_
  clear hQ hA
  refine WK.ret Tryz.func159 (by simp (maxDischargeDepth := 120) [Tryz.results159]) (by simp)
end Go.Proofs.YtcccfbjkcahgfaaGreat
end

section
set_option linter.unusedVariables false
set_option linter.unusedSimpArgs false
namespace Go.Proofs.YtcccfbjkcahgfaaGreat
open Go Go.AI Go.Proofs

theorem nputP_c (b : List (BitVec 8)) (n : Int) (s : Nat) (hs : Sz s) (hb0 : b.length ≤ 1000000) : FnP Tryz.prog 52 [byS b, .int .i64 n, .int .i64 s] (byS (putN b n s)) := by
  have h := (nput_c b n s hs hb0).toP (by simp [byL_take])
  rwa [Nat.mul_one, by_full _ _ rfl] at h
theorem wputP_c (b : List (BitVec 8)) (a : Wide) (s : Nat) (hs : s ≤ 16) (hb0 : b.length ≤ 1000000) : FnP Tryz.prog 235 [byS b, .agg a.enc, .int .i64 s] (byS (wPut b a s)) := by
  have h := (wput_c b a s hs hb0).toP (by simp [byL_take])
  rwa [Nat.mul_one, by_full _ _ rfl] at h
theorem putN_len (b : List (BitVec 8)) (n : Int) (s : Nat) : (putN b n s).length ≤ b.length + s := by
  unfold putN; split
  · rw [List.length_append, beN_len]; omega
  · omega
/-- what is behind a part's head -/
def oBody (o : Oxm) : List (BitVec 8) := if o.masked then wPut (wPut [] o.value (fSize o.field)) o.mask (fSize o.field) else wPut [] o.value (fSize o.field)
def oNum (o : Oxm) : Int := if o.masked then fID o.field * 2 + 1 else fID o.field * 2
def oHead (o : Oxm) : List (BitVec 8) := putN (putN (putN [] 32768 2) (oNum o) 1) (oBody o).length 1
def oEnc (o : Oxm) : List (BitVec 8) × Int := if Oxm.right o then (oHead o ++ oBody o, 0) else ([], 1)
theorem shl_one (f : Int) : bShl .i64 (fID f) 1 = fID f * 2 := by
  have := (fRow_ok f).1
  unfold bShl fID
  show IntKind.wrap .i64 ((fRow f).1 * 2 ^ 1) = _
  rw [Int.pow_one, wrap_i64 (by omega) (by omega)]
theorem or_one_all : ∀ n : Fin 35, bOr .i64 ((n.val : Int) * 2) 1 = (n.val : Int) * 2 + 1 := by decide +kernel
theorem or_one (f : Int) (h : fRight f = true) : bOr .i64 (fID f * 2) 1 = fID f * 2 + 1 := by
  unfold fRight at h
  rw [Bool.and_eq_true, decide_eq_true_eq, decide_eq_true_eq] at h
  have hp : 0 ≤ fID f ∧ fID f ≤ 34 := by
    unfold fID fRow
    rw [if_pos ⟨h.1, h.2⟩]
    have hl : f.toNat < fRows.length := by show f.toNat < 24; omega
    have : ∀ r, r ∈ fRows → 0 ≤ r.1 ∧ r.1 ≤ 34 := by decide
    exact this _ (nth_mem hl)
  have := or_one_all ⟨(fID f).toNat, by omega⟩
  rwa [show (((⟨(fID f).toNat, by omega⟩ : Fin 35).val : Nat) : Int) = fID f by show (((fID f).toNat : Nat) : Int) = _; omega] at this
theorem right_field {o : Oxm} (h : Oxm.right o = true) : fRight o.field = true := by
  unfold Oxm.right at h
  cases hf : fRight o.field
  · rw [hf] at h; simp at h
  · rfl
theorem oBody_len (o : Oxm) : (oBody o).length = if o.masked then fSize o.field + fSize o.field else fSize o.field := by
  have := fSize_le o.field
  unfold oBody
  split
  · rw [wPut_len _ _ _ this, wPut_len _ _ _ this]; simp
  · rw [wPut_len _ _ _ this]; simp
set_option maxHeartbeats 4000000 in
theorem oenc_c (o : Oxm) : FnP Tryz.prog 238 [.agg o.enc] (.tup [byS (oEnc o).1, .int .i64 (oEnc o).2]) := by
  have hr := oright_c o
  have hsz := fSize_le o.field
  have hid := (fRow_ok o.field).1
  have hbl := oBody_len o
  have hsh := shl_one o.field
  have p1 := nputP_c [] 32768 2 (by unfold Sz; omega) (by simp)
  rw [show byS [] = .sl false 0 [] from rfl] at p1
  have l1 := putN_len [] 32768 2
  have hbl2 : (oBody o).length ≤ 32 := by rw [hbl]; split <;> omega
  simp only [Oxm.enc] at hr
  cases k : Oxm.right o
  · have e : oEnc o = ([], 1) := by unfold oEnc; rw [k]; rfl
    rw [k] at hr
    refine FnP.intro Tryz.func238 rfl rfl fun G w => ?_
    repeat (refine WK.seq ?_)
    refine WK.reg 100 Tryz.ntmps238 (by kernel_rfl) ?_
    intro A hA Q hQ
    simp [Oxm.enc]
    refine hQ _ _ ?_
    clear hQ hA
    repeat (refine WK.seq ?_)
    refine WK.ghost (Ghost.frzVar 1 rfl rfl) ?_
    refine WK.reg 200 Tryz.ntmps238 (by kernel_rfl) ?_
    intro A hA Q hQ
    simp
    refine RunQ.call rfl rfl rfl rfl (by rfl) (by simp (maxDischargeDepth := 120)) (hr) (by simp) ?_
    refine RunQ.eval ?_
    simp
    refine hQ _ _ ?_
    clear hQ hA
    refine WK.cond2 rfl (fun h => ?_) (fun h => ?_)
    · repeat (refine WK.seq ?_)
      refine WK.reg 300 Tryz.ntmps238 (by kernel_rfl) ?_
      intro A hA Q hQ
      simp
      refine hQ _ _ ?_
      clear hQ hA
      refine WK.ret Tryz.func238 (by simp (maxDischargeDepth := 120) [Tryz.results238, e, byS, byL_nil]) (by simp [e, byS, byL_nil])
    · cases h
  rw [k] at hr
  have e : oEnc o = (oHead o ++ oBody o, 0) := by unfold oEnc; rw [k]; rfl
  have hor := or_one o.field (right_field k)
  obtain ⟨b1, hb1⟩ : ∃ b1, b1 = putN [] 32768 2 := ⟨_, rfl⟩
  rw [← hb1] at p1 l1
  simp only [List.length_nil, Nat.zero_add] at l1
  have p2 := nputP_c b1 (oNum o) 1 (by unfold Sz; omega) (by omega)
  have l2 := putN_len b1 (oNum o) 1
  have p3 := nput_c (putN b1 (oNum o) 1) (oBody o).length 1 (by unfold Sz; omega) (by omega)
  have eh : oHead o = putN (putN b1 (oNum o) 1) (oBody o).length 1 := by unfold oHead; rw [hb1]
  have l3 := putN_len (putN b1 (oNum o) 1) (oBody o).length 1
  rw [← eh] at p3 l3
  obtain ⟨b2, hb2⟩ : ∃ b2, b2 = putN b1 (oNum o) 1 := ⟨_, rfl⟩
  rw [← hb2] at p2 p3
  have q1 := wputP_c [] o.value (fSize o.field) hsz (by simp)
  rw [show byS [] = .sl false 0 [] from rfl] at q1
  have hf := by_full (oBody o) _ rfl
  have hbd : (oHead o).length + (oBody o).length ≤ 140737488355328 := by omega
  have hT : (byL (oHead o) ++ byL (oBody o)).take ((oHead o).length + (oBody o).length) = byL (oHead o) ++ byL (oBody o) := List.take_of_length_le (by simp)
  refine FnP.intro Tryz.func238 rfl rfl fun G w => ?_
  repeat (refine WK.seq ?_)
  refine WK.reg 100 Tryz.ntmps238 (by kernel_rfl) ?_
  intro A hA Q hQ
  simp [Oxm.enc]
  refine hQ _ _ ?_
  clear hQ hA
  repeat (refine WK.seq ?_)
  refine WK.ghost (Ghost.frzVar 1 rfl rfl) ?_
  refine WK.reg 200 Tryz.ntmps238 (by kernel_rfl) ?_
  intro A hA Q hQ
  simp
  refine RunQ.call rfl rfl rfl rfl (by rfl) (by simp (maxDischargeDepth := 120)) (hr) (by simp) ?_
  refine RunQ.eval ?_
  simp
  refine hQ _ _ ?_
  clear hQ hA
  refine WK.cond2 rfl (fun h => ?_) (fun h => ?_)
  · cases h
  repeat (first | refine WK.seq ?_ | refine WK.skip ?_)
  refine WK.reg 300 Tryz.ntmps238 (by kernel_rfl) ?_
  intro A hA Q hQ
  simp
  refine RunQ.call rfl rfl rfl rfl (by rfl) (by simp (maxDischargeDepth := 120)) (fsize_c o.field) (by simp) ?_
  refine RunQ.eval ?_
  simp
  refine hQ _ _ ?_
  clear hQ hA
  repeat (refine WK.seq ?_)
  apply WK.cut (⟨(upd (upd J 5 (.sl false (oBody o).length (byL (oBody o)))) 6 (.int .i64 (oNum o))), B0, 0⟩ : St)
  · intro hcut
    simp only [Wide.enc] at q1
    cases m : o.masked
    · have eb : oBody o = wPut [] o.value (fSize o.field) := by unfold oBody; rw [m]; rfl
      have en : oNum o = fID o.field * 2 := by unfold oNum; rw [m]; rfl
      rw [← eb] at q1
      refine WK.reg 400 Tryz.ntmps238 (by kernel_rfl) ?_
      intro A hA Q hQ
      simp
      refine RunQ.call rfl rfl rfl rfl (by rfl) (by simp (maxDischargeDepth := 120)) (q1) (by simp) ?_
      refine RunQ.eval ?_
      simp
      refine hQ _ _ ?_
      clear hQ hA
      repeat (refine WK.seq ?_)
      refine WK.reg 500 Tryz.ntmps238 (by kernel_rfl) ?_
      intro A hA Q hQ
      simp
      refine RunQ.call rfl rfl rfl rfl (by rfl) (by simp (maxDischargeDepth := 120) [hsh]) (fid_c o.field) (by simp [hsh]) ?_
      refine RunQ.eval ?_
      simp [hsh]
      refine hQ _ _ ?_
      clear hQ hA
      repeat (refine WK.seq ?_)
      refine WK.reg 600 Tryz.ntmps238 (by kernel_rfl) ?_
      intro A hA Q hQ
      simp [m]
      refine hQ _ _ ?_
      clear hQ hA
      refine WK.cond2 rfl (fun h => ?_) (fun h => ?_)
      · cases h
      · repeat (first | refine WK.seq ?_ | refine WK.skip ?_)
        refine WK.next (fun n => n) hcut (by repeat (first | exact TmW.nil | refine TmW.upd ?_ (by simp (maxDischargeDepth := 120) [en, byS]))) (by repeat (first | exact BxW.nil | refine BxW.upd ?_ (by simp (maxDischargeDepth := 120) [en, byS]))) (by first | exact InjW.id | exact InjW.nil | exact InjW.one | exact InjW.two (by simp) | exact InjW.three (by simp) (by simp) (by simp))
    · have eb : oBody o = wPut (wPut [] o.value (fSize o.field)) o.mask (fSize o.field) := by unfold oBody; rw [m]; rfl
      have en : oNum o = fID o.field * 2 + 1 := by unfold oNum; rw [m]; rfl
      have l4 := wPut_len [] o.value (fSize o.field) hsz
      have q2 := wputP_c (wPut [] o.value (fSize o.field)) o.mask (fSize o.field) hsz (by rw [l4]; simp; omega)
      rw [← eb] at q2
      simp only [Wide.enc] at q2
      obtain ⟨b4, hb4⟩ : ∃ b4, b4 = wPut [] o.value (fSize o.field) := ⟨_, rfl⟩
      rw [← hb4] at q1 q2
      refine WK.reg 700 Tryz.ntmps238 (by kernel_rfl) ?_
      intro A hA Q hQ
      simp
      refine RunQ.call rfl rfl rfl rfl (by rfl) (by simp (maxDischargeDepth := 120)) (q1) (by simp) ?_
      refine RunQ.eval ?_
      simp
      refine hQ _ _ ?_
      clear hQ hA
      repeat (refine WK.seq ?_)
      refine WK.reg 800 Tryz.ntmps238 (by kernel_rfl) ?_
      intro A hA Q hQ
      simp
      refine RunQ.call rfl rfl rfl rfl (by rfl) (by simp (maxDischargeDepth := 120) [hsh]) (fid_c o.field) (by simp [hsh]) ?_
      refine RunQ.eval ?_
      simp [hsh]
      refine hQ _ _ ?_
      clear hQ hA
      repeat (refine WK.seq ?_)
      refine WK.reg 900 Tryz.ntmps238 (by kernel_rfl) ?_
      intro A hA Q hQ
      simp [m]
      refine hQ _ _ ?_
      clear hQ hA
      refine WK.cond2 rfl (fun h => ?_) (fun h => ?_)
      · repeat (refine WK.seq ?_)
        refine WK.reg 1000 Tryz.ntmps238 (by kernel_rfl) ?_
        intro A hA Q hQ
        simp
        refine RunQ.call rfl rfl rfl rfl (by rfl) (by simp (maxDischargeDepth := 120)) (q2) (by simp) ?_
        refine RunQ.eval ?_
        simp
        refine hQ _ _ ?_
        clear hQ hA
        refine WK.reg 1100 Tryz.ntmps238 (by kernel_rfl) ?_
        intro A hA Q hQ
        simp [hor]
        refine hQ _ _ ?_
        clear hQ hA
        repeat (refine WK.seq ?_)
        refine WK.next (fun n => n) hcut (by repeat (first | exact TmW.nil | refine TmW.upd ?_ (by simp (maxDischargeDepth := 120) [en, byS]))) (by repeat (first | exact BxW.nil | refine BxW.upd ?_ (by simp (maxDischargeDepth := 120) [en, byS]))) (by first | exact InjW.id | exact InjW.nil | exact InjW.one | exact InjW.two (by simp) | exact InjW.three (by simp) (by simp) (by simp))
      · cases h
  refine WK.reg 1200 Tryz.ntmps238 (by kernel_rfl) ?_
  intro A hA Q hQ
  simp
  refine RunQ.call rfl rfl rfl rfl (by rfl) (by simp (maxDischargeDepth := 120)) (p1) (by simp) ?_
  refine RunQ.eval ?_
  simp
  refine RunQ.call rfl rfl rfl rfl (by rfl) (by simp (maxDischargeDepth := 120)) (p2) (by simp) ?_
  refine RunQ.eval ?_
  simp
  refine RunQ.callO 900 rfl rfl rfl (by simp) (by rfl) (by simp (maxDischargeDepth := 120)) (p3) (by simp) (by simp) (by simp) ?_
  refine RunQ.eval ?_
  simp
  refine hQ _ _ ?_
  clear hQ hA
  repeat (refine WK.seq ?_)
  refine WK.reg 1300 Tryz.ntmps238 (by kernel_rfl) ?_
  intro A hA Q hQ
  simp
  refine RunQ.append 901 appByte rfl rfl rfl rfl rfl rfl rfl (by simp [hbd, hf]) rfl (by simp [hbd, hf]) (by simp [hbd, hf]) (by simp [hbd, hf]) (by simp [hbd, hf]) ?_
  refine RunQ.eval ?_
  simp [hbd, hf]
  refine hQ _ _ ?_
  clear hQ hA
  refine WK.ghost (Ghost.frzSl 2 1 rfl rfl) ?_
  refine WK.ret Tryz.func238 (by simp (maxDischargeDepth := 120) [Tryz.results238, e, byS, byL_app, hT]) (by simp [e, byS, byL_app, hT])
end Go.Proofs.YtcccfbjkcahgfaaGreat
end

section
set_option linter.unusedVariables false
set_option linter.unusedSimpArgs false
namespace Go.Proofs.YtcccfbjkcahgfaaGreat
open Go Go.AI Go.Proofs

def bAt (b : List (BitVec 8)) (i : Nat) : Nat := (nth b i).toNat
def hField (b : List (BitVec 8)) : Int × Bool := fIndex (bAt b 2 / 2 : Nat)
def hMasked (b : List (BitVec 8)) : Bool := bAt b 2 % 2 == 1
def hWant (b : List (BitVec 8)) : Nat := if hMasked b then fSize (hField b).1 * 2 else fSize (hField b).1
/-- what is wrong with a part's head; 0 if nothing is -/
def hCode (b : List (BitVec 8)) : Int :=
  if b.length < 4 then 1 else if b.length < 4 + bAt b 3 then 1
  else if bAt b 0 != 128 || (bAt b 1 != 0 || !(hField b).2) then 6
  else if hMasked b && !fMasks (hField b).1 then 8
  else if bAt b 3 != hWant b then 1 else 0
theorem u8_and : ∀ x : BitVec 8, bAnd .u8 (bI x) 1 = ((x.toNat % 2 : Nat) : Int) := by
  intro x
  have h : ∀ n : Fin 256, bAnd .u8 ((n.val : Int)) 1 = ((n.val % 2 : Nat) : Int) := by decide +kernel
  exact h ⟨x.toNat, x.isLt⟩
theorem u8_shr : ∀ x : BitVec 8, bShr .u8 (bI x) 1 = ((x.toNat / 2 : Nat) : Int) := by
  intro x
  have h : ∀ n : Fin 256, bShr .u8 ((n.val : Int)) 1 = ((n.val / 2 : Nat) : Int) := by decide +kernel
  exact h ⟨x.toNat, x.isLt⟩
theorem bI_nat (b : List (BitVec 8)) (i : Nat) : bI (nth b i) = (bAt b i : Int) := rfl
theorem bAt_lt (b : List (BitVec 8)) (i : Nat) : bAt b i < 256 := (nth b i).isLt
def hRes (b : List (BitVec 8)) : List AV := if hCode b = 0 then [.int .i64 (hField b).1, .bool (hMasked b), .int .i64 (bAt b 3 : Nat), .int .i64 0] else [.int .i64 0, .bool false, .int .i64 0, .int .i64 (hCode b)]
set_option maxHeartbeats 4000000 in
theorem ohead_c (b : List (BitVec 8)) (hb0 : b.length ≤ 9223372036854775807) : FnP Tryz.prog 158 [byS b] (.tup (hRes b)) := by
  unfold byS
  by_cases h4 : b.length < 4
  · have e : hCode b = 1 := by unfold hCode; rw [if_pos h4]
    have er : hRes b = [.int .i64 0, .bool false, .int .i64 0, .int .i64 1] := by unfold hRes; rw [if_neg (by omega), e]
    rw [er]
    refine FnP.intro Tryz.func158 rfl rfl fun G w => ?_
    repeat (refine WK.seq ?_)
    refine WK.reg 100 Tryz.ntmps158 (by kernel_rfl) ?_
    intro A hA Q hQ
    simp
    refine hQ _ _ ?_
    clear hQ hA
    repeat (refine WK.seq ?_)
    refine WK.reg 200 Tryz.ntmps158 (by kernel_rfl) ?_
    intro A hA Q hQ
    simp [h4]
    refine hQ _ _ ?_
    clear hQ hA
    refine WK.cond2 rfl (fun h => ?_) (fun h => ?_)
    · repeat (refine WK.seq ?_)
      refine WK.reg 300 Tryz.ntmps158 (by kernel_rfl) ?_
      intro A hA Q hQ
      simp
      refine hQ _ _ ?_
      clear hQ hA
      refine WK.ret Tryz.func158 (by simp (maxDischargeDepth := 120) [Tryz.results158]) (by simp)
    · simp at h; omega
  have i0 : 0 < b.length := by omega
  have i1 : 1 < b.length := by omega
  have i2 : 2 < b.length := by omega
  have i3 : 3 < b.length := by omega
  have j0 : (0 : Int) < b.length := by omega
  have j1 : (1 : Int) < b.length := by omega
  have j2 : (2 : Int) < b.length := by omega
  have j3 : (3 : Int) < b.length := by omega
  have g0 := by_get b 0 i0
  have g1 := by_get b 1 i1
  have g2 := by_get b 2 i2
  have g3 := by_get b 3 i3
  have l2 := bAt_lt b 2
  have l3 := bAt_lt b 3
  have m1 := u8_and (nth b 2)
  have m2 := u8_shr (nth b 2)
  have m3 : IntKind.i64.wrap (bI (nth b 3)) = (bAt b 3 : Int) := by rw [bI_nat]; exact wrap_i64 (by omega) (by omega)
  have m4 : IntKind.i64.wrap (((nth b 2).toNat / 2 : Nat) : Int) = ((bAt b 2 / 2 : Nat) : Int) := by show IntKind.i64.wrap ((bAt b 2 / 2 : Nat) : Int) = _; exact wrap_i64 (by omega) (by omega)
  have hfi := findex_c ((bAt b 2 / 2 : Nat) : Int)
  obtain ⟨q, hq⟩ : ∃ q, q = bAt b 2 / 2 := ⟨_, rfl⟩
  have hF : hField b = fIndex q := by unfold hField; rw [hq]
  rw [← hq] at m4 hfi
  have m2' : bShr .u8 (bI (nth b 2)) 1 = (q : Int) := by rw [m2, hq]; rfl
  have m4' : IntKind.i64.wrap (q : Int) = q := wrap_i64 (by omega) (by omega)
  rw [← hF] at hfi
  have hsz := fSize_le (hField b).1
  have hfs := fsize_c (hField b).1
  obtain ⟨f, ok⟩ : ∃ f : Int × Bool, f = hField b := ⟨_, rfl⟩
  refine FnP.intro Tryz.func158 rfl rfl fun G w => ?_
  repeat (refine WK.seq ?_)
  refine WK.reg 100 Tryz.ntmps158 (by kernel_rfl) ?_
  intro A hA Q hQ
  simp
  refine hQ _ _ ?_
  clear hQ hA
  repeat (refine WK.seq ?_)
  refine WK.reg 200 Tryz.ntmps158 (by kernel_rfl) ?_
  intro A hA Q hQ
  simp
  refine hQ _ _ ?_
  clear hQ hA
  refine WK.cond2 rfl (fun h => ?_) (fun h => ?_)
  · simp at h; omega
  repeat (first | refine WK.seq ?_ | refine WK.skip ?_)
  apply WK.cut (⟨(upd (upd (upd J 0 (.sl false b.length (byL b))) 6 (.int .i64 (bAt b 3 : Nat))) 7 (.bool (hMasked b))), B0, 0⟩ : St)
  · intro hcut
    cases hm : hMasked b
    · have m5 : bAnd .u8 (bI (nth b 2)) 1 = 0 := by
        rw [m1]
        have h1 : ¬ ((nth b 2).toNat % 2 = 1) := by intro h1; unfold hMasked bAt at hm; rw [h1] at hm; cases hm
        have h2 : (nth b 2).toNat % 2 = 0 := by omega
        rw [h2]; rfl
      refine WK.regD 300 clsOf (by kernel_rfl) Tryz.ntmps158 (by kernel_rfl) (by kernel_rfl) ?_
      intro A hA Q hQ
      simp [g2, g3, m3, m5, i2, i3, j2, j3]
      refine hQ _ _ ?_
      clear hQ hA
      repeat (refine WK.seq ?_)
      refine WK.next (fun n => n) hcut (by repeat (first | exact TmW.nil | refine TmW.upd ?_ (by simp (maxDischargeDepth := 120) [hm]))) (by repeat (first | exact BxW.nil | refine BxW.upd ?_ (by simp (maxDischargeDepth := 120) [hm]))) (by first | exact InjW.id | exact InjW.nil | exact InjW.one | exact InjW.two (by simp) | exact InjW.three (by simp) (by simp) (by simp))
    · have m5 : bAnd .u8 (bI (nth b 2)) 1 = 1 := by
        rw [m1]
        have h2 : (nth b 2).toNat % 2 = 1 := by unfold hMasked bAt at hm; simpa using hm
        rw [h2]; rfl
      refine WK.regD 400 clsOf (by kernel_rfl) Tryz.ntmps158 (by kernel_rfl) (by kernel_rfl) ?_
      intro A hA Q hQ
      simp [g2, g3, m3, m5, i2, i3, j2, j3]
      refine hQ _ _ ?_
      clear hQ hA
      repeat (refine WK.seq ?_)
      refine WK.next (fun n => n) hcut (by repeat (first | exact TmW.nil | refine TmW.upd ?_ (by simp (maxDischargeDepth := 120) [hm]))) (by repeat (first | exact BxW.nil | refine BxW.upd ?_ (by simp (maxDischargeDepth := 120) [hm]))) (by first | exact InjW.id | exact InjW.nil | exact InjW.one | exact InjW.two (by simp) | exact InjW.three (by simp) (by simp) (by simp))
  refine WK.reg 500 Tryz.ntmps158 (by kernel_rfl) ?_
  intro A hA Q hQ
  simp [g2, m2', m4', i2, j2]
  refine RunQ.call rfl rfl rfl rfl (by rfl) (by simp (maxDischargeDepth := 120)) (hfi) (by simp) ?_
  refine RunQ.eval ?_
  simp
  refine hQ _ _ ?_
  clear hQ hA
  repeat (refine WK.seq ?_)
  refine WK.reg 600 Tryz.ntmps158 (by kernel_rfl) ?_
  intro A hA Q hQ
  simp
  refine RunQ.call rfl rfl rfl rfl (by rfl) (by simp (maxDischargeDepth := 120)) (hfs) (by simp) ?_
  refine RunQ.eval ?_
  simp
  refine hQ _ _ ?_
  clear hQ hA
  repeat (refine WK.seq ?_)
  apply WK.cut (⟨(upd (upd (upd (upd (upd (upd J 0 (.sl false b.length (byL b))) 6 (.int .i64 (bAt b 3 : Nat))) 7 (.bool (hMasked b))) 8 (.int .i64 (hField b).1)) 9 (.bool (hField b).2)) 10 (.int .i64 (hWant b))), B0, 0⟩ : St)
  · intro hcut
    refine WK.reg 700 Tryz.ntmps158 (by kernel_rfl) ?_
    intro A hA Q hQ
    simp
    refine hQ _ _ ?_
    clear hQ hA
    cases hm : hMasked b
    · have ew : hWant b = fSize (hField b).1 := by unfold hWant; rw [hm]; rfl
      refine WK.cond2 rfl (fun h => ?_) (fun h => ?_)
      · cases h
      · repeat (first | refine WK.seq ?_ | refine WK.block ?_ | refine WK.skip ?_)
        refine WK.next (fun n => n) hcut (by repeat (first | exact TmW.nil | refine TmW.upd ?_ (by simp (maxDischargeDepth := 120) [ew, hm]))) (by repeat (first | exact BxW.nil | refine BxW.upd ?_ (by simp (maxDischargeDepth := 120) [ew, hm]))) (by first | exact InjW.id | exact InjW.nil | exact InjW.one | exact InjW.two (by simp) | exact InjW.three (by simp) (by simp) (by simp))
    · have ew : hWant b = fSize (hField b).1 * 2 := by unfold hWant; rw [hm]; rfl
      have w1 : IntKind.i64.wrap ((fSize (hField b).1 : Int) * 2) = (fSize (hField b).1 : Int) * 2 := wrap_i64 (by omega) (by omega)
      refine WK.cond2 rfl (fun h => ?_) (fun h => ?_)
      · refine WK.reg 800 Tryz.ntmps158 (by kernel_rfl) ?_
        intro A hA Q hQ
        simp [w1]
        refine hQ _ _ ?_
        clear hQ hA
        repeat (first | refine WK.seq ?_ | refine WK.block ?_)
        refine WK.next (fun n => n) hcut (by repeat (first | exact TmW.nil | refine TmW.upd ?_ (by simp (maxDischargeDepth := 120) [ew, w1, hm]))) (by repeat (first | exact BxW.nil | refine BxW.upd ?_ (by simp (maxDischargeDepth := 120) [ew, w1, hm]))) (by first | exact InjW.id | exact InjW.nil | exact InjW.one | exact InjW.two (by simp) | exact InjW.three (by simp) (by simp) (by simp))
      · cases h
  have w4 : IntKind.i64.wrap (4 + (bAt b 3 : Int)) = 4 + (bAt b 3 : Int) := wrap_i64 (by omega) (by omega)
  by_cases c1 : b.length < 4 + bAt b 3
  · have e : hCode b = 1 := by unfold hCode; rw [if_neg h4, if_pos c1]
    have er : hRes b = [.int .i64 0, .bool false, .int .i64 0, .int .i64 1] := by unfold hRes; rw [if_neg (by omega), e]
    have d1 : (b.length : Int) < 4 + (bAt b 3 : Int) := by omega
    rw [er]
    refine WK.reg 900 Tryz.ntmps158 (by kernel_rfl) ?_
    intro A hA Q hQ
    simp [w4, d1]
    refine hQ _ _ ?_
    clear hQ hA
    refine WK.cond2 rfl (fun h => ?_) (fun h => ?_)
    · repeat (refine WK.seq ?_)
      refine WK.reg 1000 Tryz.ntmps158 (by kernel_rfl) ?_
      intro A hA Q hQ
      simp
      refine hQ _ _ ?_
      clear hQ hA
      refine WK.ret Tryz.func158 (by simp (maxDischargeDepth := 120) [Tryz.results158]) (by simp)
    · cases h
  have d1 : ¬ (b.length : Int) < 4 + (bAt b 3 : Int) := by omega
  refine WK.reg 1100 Tryz.ntmps158 (by kernel_rfl) ?_
  intro A hA Q hQ
  simp [w4, d1]
  refine hQ _ _ ?_
  clear hQ hA
  refine WK.cond2 rfl (fun h => ?_) (fun h => ?_)
  · cases h
  have z0 : (bI (nth b 0) == 128) = (bAt b 0 == 128) := by rw [bI_nat, Bool.eq_iff_iff, beq_iff_eq, beq_iff_eq]; omega
  have z1 : (bI (nth b 1) == 0) = (bAt b 1 == 0) := by rw [bI_nat, Bool.eq_iff_iff, beq_iff_eq, beq_iff_eq]; omega
  have z3 : ((bAt b 3 : Int) == (hWant b : Int)) = (bAt b 3 == hWant b) := by rw [Bool.eq_iff_iff, beq_iff_eq, beq_iff_eq]; omega
  repeat (refine WK.seq ?_)
  apply WK.cut (⟨(upd (upd (upd (upd (upd (upd (upd J 0 (.sl false b.length (byL b))) 6 (.int .i64 (bAt b 3 : Nat))) 7 (.bool (hMasked b))) 8 (.int .i64 (hField b).1)) 9 (.bool (hField b).2)) 10 (.int .i64 (hWant b))) 43 (.bool (bAt b 0 != 128 || (bAt b 1 != 0 || !(hField b).2)))), B0, 0⟩ : St)
  · intro hcut
    cases k0 : bAt b 0 == 128
    · rw [k0] at z0
      refine WK.reg 1200 Tryz.ntmps158 (by kernel_rfl) ?_
      intro A hA Q hQ
      have hg4 : (A[4]?).bind (·.dst) = some 48 := by rw [hA]; rfl
      have hg10 : (A[10]?).bind (·.dst) = some 54 := by rw [hA]; rfl
      simp [g0, g1, i0, i1, j0, j1, z0, bne, hg4, hg10]
      refine hQ _ _ ?_
      clear hQ hA
      refine WK.next (fun n => n) hcut (by repeat (first | exact TmW.nil | refine TmW.upd ?_ (by simp (maxDischargeDepth := 120) [bne, k0]))) (by repeat (first | exact BxW.nil | refine BxW.upd ?_ (by simp (maxDischargeDepth := 120) [bne, k0]))) (by first | exact InjW.id | exact InjW.nil | exact InjW.one | exact InjW.two (by simp) | exact InjW.three (by simp) (by simp) (by simp))
    · rw [k0] at z0
      cases k1 : bAt b 1 == 0
      · rw [k1] at z1
        refine WK.reg 1300 Tryz.ntmps158 (by kernel_rfl) ?_
        intro A hA Q hQ
        have hg4 : (A[4]?).bind (·.dst) = some 48 := by rw [hA]; rfl
        have hg10 : (A[10]?).bind (·.dst) = some 54 := by rw [hA]; rfl
        simp [g0, g1, i0, i1, j0, j1, z0, z1, bne, hg4, hg10]
        refine hQ _ _ ?_
        clear hQ hA
        refine WK.next (fun n => n) hcut (by repeat (first | exact TmW.nil | refine TmW.upd ?_ (by simp (maxDischargeDepth := 120) [bne, k0, k1]))) (by repeat (first | exact BxW.nil | refine BxW.upd ?_ (by simp (maxDischargeDepth := 120) [bne, k0, k1]))) (by first | exact InjW.id | exact InjW.nil | exact InjW.one | exact InjW.two (by simp) | exact InjW.three (by simp) (by simp) (by simp))
      · rw [k1] at z1
        refine WK.reg 1400 Tryz.ntmps158 (by kernel_rfl) ?_
        intro A hA Q hQ
        have hg4 : (A[4]?).bind (·.dst) = some 48 := by rw [hA]; rfl
        have hg10 : (A[10]?).bind (·.dst) = some 54 := by rw [hA]; rfl
        simp [g0, g1, i0, i1, j0, j1, z0, z1, bne, hg4, hg10]
        refine hQ _ _ ?_
        clear hQ hA
        refine WK.next (fun n => n) hcut (by repeat (first | exact TmW.nil | refine TmW.upd ?_ (by simp (maxDischargeDepth := 120) [bne, k0, k1]))) (by repeat (first | exact BxW.nil | refine BxW.upd ?_ (by simp (maxDischargeDepth := 120) [bne, k0, k1]))) (by first | exact InjW.id | exact InjW.nil | exact InjW.one | exact InjW.two (by simp) | exact InjW.three (by simp) (by simp) (by simp))
  refine WK.cond2 rfl (fun h6 => ?_) (fun h6 => ?_)
  · have e : hCode b = 6 := by unfold hCode; rw [if_neg h4, if_neg c1, if_pos h6]
    have er : hRes b = [.int .i64 0, .bool false, .int .i64 0, .int .i64 6] := by unfold hRes; rw [if_neg (by omega), e]
    rw [er]
    repeat (refine WK.seq ?_)
    refine WK.reg 1500 Tryz.ntmps158 (by kernel_rfl) ?_
    intro A hA Q hQ
    simp
    refine hQ _ _ ?_
    clear hQ hA
    refine WK.ret Tryz.func158 (by simp (maxDischargeDepth := 120) [Tryz.results158]) (by simp)
  have h6' : ¬ (bAt b 0 != 128 || (bAt b 1 != 0 || !(hField b).2)) = true := by rw [h6]; exact Bool.false_ne_true
  have hmk := fmasks_c (hField b).1
  repeat (refine WK.seq ?_)
  apply WK.cut (⟨(upd (upd (upd (upd (upd (upd (upd J 0 (.sl false b.length (byL b))) 6 (.int .i64 (bAt b 3 : Nat))) 7 (.bool (hMasked b))) 8 (.int .i64 (hField b).1)) 9 (.bool (hField b).2)) 10 (.int .i64 (hWant b))) 58 (.bool (hMasked b && !fMasks (hField b).1))), B0, 0⟩ : St)
  · intro hcut
    cases k0 : hMasked b
    · refine WK.reg 1600 Tryz.ntmps158 (by kernel_rfl) ?_
      intro A hA Q hQ
      have hg1 : (A[1]?).bind (·.dst) = some 60 := by rw [hA]; rfl
      simp [k0, hg1]
      refine hQ _ _ ?_
      clear hQ hA
      refine WK.next (fun n => n) hcut (by repeat (first | exact TmW.nil | refine TmW.upd ?_ (by simp (maxDischargeDepth := 120) [k0]))) (by repeat (first | exact BxW.nil | refine BxW.upd ?_ (by simp (maxDischargeDepth := 120) [k0]))) (by first | exact InjW.id | exact InjW.nil | exact InjW.one | exact InjW.two (by simp) | exact InjW.three (by simp) (by simp) (by simp))
    · refine WK.reg 1700 Tryz.ntmps158 (by kernel_rfl) ?_
      intro A hA Q hQ
      have hg1 : (A[1]?).bind (·.dst) = some 60 := by rw [hA]; rfl
      simp [k0, hg1]
      refine RunQ.callG rfl rfl (by simp [hg1]) rfl (by rfl) (by simp (maxDischargeDepth := 120) [hg1]) (hmk) (by simp [hg1]) ?_
      refine RunQ.eval ?_
      simp [hg1]
      refine hQ _ _ ?_
      clear hQ hA
      refine WK.next (fun n => n) hcut (by repeat (first | exact TmW.nil | refine TmW.upd ?_ (by simp (maxDischargeDepth := 120) [k0]))) (by repeat (first | exact BxW.nil | refine BxW.upd ?_ (by simp (maxDischargeDepth := 120) [k0]))) (by first | exact InjW.id | exact InjW.nil | exact InjW.one | exact InjW.two (by simp) | exact InjW.three (by simp) (by simp) (by simp))
  refine WK.cond2 rfl (fun h8 => ?_) (fun h8 => ?_)
  · have e : hCode b = 8 := by unfold hCode; rw [if_neg h4, if_neg c1, if_neg h6', if_pos h8]
    have er : hRes b = [.int .i64 0, .bool false, .int .i64 0, .int .i64 8] := by unfold hRes; rw [if_neg (by omega), e]
    rw [er]
    repeat (refine WK.seq ?_)
    refine WK.reg 1800 Tryz.ntmps158 (by kernel_rfl) ?_
    intro A hA Q hQ
    simp
    refine hQ _ _ ?_
    clear hQ hA
    refine WK.ret Tryz.func158 (by simp (maxDischargeDepth := 120) [Tryz.results158]) (by simp)
  have h8' : ¬ (hMasked b && !fMasks (hField b).1) = true := by rw [h8]; exact Bool.false_ne_true
  cases k3 : bAt b 3 == hWant b
  · rw [k3] at z3
    have e : hCode b = 1 := by unfold hCode; rw [if_neg h4, if_neg c1, if_neg h6', if_neg h8', if_pos (by rw [bne, k3]; rfl)]
    have er : hRes b = [.int .i64 0, .bool false, .int .i64 0, .int .i64 1] := by unfold hRes; rw [if_neg (by omega), e]
    rw [er]
    repeat (refine WK.seq ?_)
    refine WK.reg 1900 Tryz.ntmps158 (by kernel_rfl) ?_
    intro A hA Q hQ
    simp [z3, bne]
    refine hQ _ _ ?_
    clear hQ hA
    refine WK.cond2 rfl (fun h => ?_) (fun h => ?_)
    · repeat (refine WK.seq ?_)
      refine WK.reg 2000 Tryz.ntmps158 (by kernel_rfl) ?_
      intro A hA Q hQ
      simp
      refine hQ _ _ ?_
      clear hQ hA
      refine WK.ret Tryz.func158 (by simp (maxDischargeDepth := 120) [Tryz.results158]) (by simp)
    · cases h
  · rw [k3] at z3
    have e : hCode b = 0 := by unfold hCode; rw [if_neg h4, if_neg c1, if_neg h6', if_neg h8', if_neg (by rw [bne, k3]; exact Bool.false_ne_true)]
    have er : hRes b = [.int .i64 (hField b).1, .bool (hMasked b), .int .i64 (bAt b 3 : Nat), .int .i64 0] := by unfold hRes; rw [if_pos e]
    rw [er]
    repeat (refine WK.seq ?_)
    refine WK.reg 2100 Tryz.ntmps158 (by kernel_rfl) ?_
    intro A hA Q hQ
    simp [z3, bne]
    refine hQ _ _ ?_
    clear hQ hA
    refine WK.cond2 rfl (fun h => ?_) (fun h => ?_)
    · cases h
    · repeat (first | refine WK.seq ?_ | refine WK.inBlock ?_ | refine WK.skip ?_)
      refine WK.reg 2200 Tryz.ntmps158 (by kernel_rfl) ?_
      intro A hA Q hQ
      simp
      refine hQ _ _ ?_
      clear hQ hA
      refine WK.ret Tryz.func158 (by simp (maxDischargeDepth := 120) [Tryz.results158]) (by simp)
end Go.Proofs.YtcccfbjkcahgfaaGreat
end

section
set_option linter.unusedVariables false
set_option linter.unusedSimpArgs false
namespace Go.Proofs.YtcccfbjkcahgfaaGreat
open Go Go.AI Go.Proofs

def oxm0 : Oxm := ⟨0, false, wideZ, wideZ⟩
/-- the part that bytes are, if their head is right -/
def oRead (b : List (BitVec 8)) : Oxm := ⟨(hField b).1, hMasked b, (wGet (b.drop 4) (fSize (hField b).1)).1,
  if hMasked b then (wGet (b.drop (4 + fSize (hField b).1)) (fSize (hField b).1)).1 else wideZ⟩
def oDec (b : List (BitVec 8)) : Oxm × Int × Int :=
  if hCode b = 0 then (if Oxm.form (oRead b) = 0 then (oRead b, 4 + bAt b 3, 0) else (oxm0, 0, Oxm.form (oRead b))) else (oxm0, 0, hCode b)
/-- a fault of a match -/
def oFault (c : Int) : List AV := if c = 0 then [.bool false, .int .i64 0, .int .i64 0] else [.bool true, .int .i64 4, .int .i64 c]
theorem oxm0_enc : oxm0.enc = [.int .i64 0, .bool false, .int .u64 0, .int .u64 0, .int .u64 0, .int .u64 0] := rfl
set_option maxHeartbeats 4000000 in
theorem odec_c (b : List (BitVec 8)) (hb0 : b.length ≤ 9223372036854775807) : FnP Tryz.prog 129 [byS b] (.tup [.agg (oDec b).1.enc, .int .i64 (oDec b).2.1, .agg (oFault (oDec b).2.2)]) := by
  have hh := ohead_c b hb0
  by_cases k : hCode b = 0
  case neg =>
    have er : hRes b = [.int .i64 0, .bool false, .int .i64 0, .int .i64 (hCode b)] := by unfold hRes; rw [if_neg k]
    have e : oDec b = (oxm0, 0, hCode b) := by unfold oDec; rw [if_neg k]
    have kb : (hCode b == 0) = false := beq_eq_false_iff_ne.2 k
    rw [er] at hh
    unfold byS at hh ⊢
    refine FnP.intro Tryz.func129 rfl rfl fun G w => ?_
    repeat (refine WK.seq ?_)
    refine WK.reg 100 Tryz.ntmps129 (by kernel_rfl) ?_
    intro A hA Q hQ
    simp
    refine hQ _ _ ?_
    clear hQ hA
    repeat (refine WK.seq ?_)
    refine WK.reg 200 Tryz.ntmps129 (by kernel_rfl) ?_
    intro A hA Q hQ
    simp
    refine RunQ.call rfl rfl rfl rfl (by rfl) (by simp (maxDischargeDepth := 120)) (hh) (by simp) ?_
    refine RunQ.eval ?_
    simp
    refine hQ _ _ ?_
    clear hQ hA
    repeat (refine WK.seq ?_)
    refine WK.reg 300 Tryz.ntmps129 (by kernel_rfl) ?_
    intro A hA Q hQ
    simp [kb, bne]
    refine hQ _ _ ?_
    clear hQ hA
    refine WK.cond2 rfl (fun h => ?_) (fun h => ?_)
    · repeat (refine WK.seq ?_)
      refine WK.reg 400 Tryz.ntmps129 (by kernel_rfl) ?_
      intro A hA Q hQ
      simp
      refine RunQ.call rfl rfl rfl rfl (by rfl) (by simp (maxDischargeDepth := 120)) (obad_c (hCode b)) (by simp) ?_
      refine RunQ.eval ?_
      simp
      refine hQ _ _ ?_
      clear hQ hA
      refine WK.ret Tryz.func129 (by simp (maxDischargeDepth := 120) [Tryz.results129, e, oxm0_enc, oFault, k]) (by simp [e, oxm0_enc, oFault, k])
    · cases h
  have er : hRes b = [.int .i64 (hField b).1, .bool (hMasked b), .int .i64 (bAt b 3 : Nat), .int .i64 0] := by unfold hRes; rw [if_pos k]
  have hk : 4 + bAt b 3 ≤ b.length ∧ bAt b 3 = hWant b := by
    unfold hCode at k
    split at k
    · cases k
    split at k
    · cases k
    split at k
    · cases k
    split at k
    · cases k
    split at k
    · cases k
    · rename_i h1 h2 h3 h4 h5
      simp at h5
      exact ⟨by omega, h5⟩
  have hl3 := bAt_lt b 3
  have hsz := fSize_le (hField b).1
  have hws : fSize (hField b).1 ≤ hWant b := by unfold hWant; split <;> omega
  have hfs := fsize_c (hField b).1
  obtain ⟨s, hs⟩ : ∃ s, s = fSize (hField b).1 := ⟨_, rfl⟩
  rw [← hs] at hfs hsz hws
  have q1 := wget_c (b.drop 4) s hsz (by rw [List.length_drop]; omega)
  have q2 := wget_c (b.drop (4 + s)) s hsz (by rw [List.length_drop]; omega)
  have hfo := oform_c (oRead b)
  have hR : oRead b = ⟨(hField b).1, hMasked b, (wGet (b.drop 4) s).1, if hMasked b then (wGet (b.drop (4 + s)) s).1 else wideZ⟩ := by unfold oRead; rw [← hs]
  have d4 : ((byL b).drop 4).take (b.length - 4) = byL (b.drop 4) := by rw [byL_drop]; exact by_full _ _ (by rw [List.length_drop])
  have d5 : ((byL b).drop (4 + s)).take (b.length - (4 + s)) = byL (b.drop (4 + s)) := by rw [byL_drop]; exact by_full _ _ (by rw [List.length_drop])
  have j4 : (4 : Int) ≤ b.length := by omega
  have j5 : 4 + (s : Int) ≤ b.length := by omega
  have j6 : (4 + (s : Int)).toNat = 4 + s := by omega
  have j7 : (0 : Int) ≤ 4 + (s : Int) := by omega
  have w5 : IntKind.i64.wrap (4 + (s : Int)) = 4 + (s : Int) := wrap_i64 (by omega) (by omega)
  rw [er] at hh
  unfold byS at hh q1 q2 ⊢
  rw [List.length_drop] at q1 q2
  obtain ⟨v1, hv1⟩ : ∃ v1, v1 = wGet (b.drop 4) s := ⟨_, rfl⟩
  obtain ⟨v2, hv2⟩ : ∃ v2, v2 = wGet (b.drop (4 + s)) s := ⟨_, rfl⟩
  rw [← hv1] at q1 hR
  rw [← hv2] at q2 hR
  refine FnP.intro Tryz.func129 rfl rfl fun G w => ?_
  repeat (refine WK.seq ?_)
  refine WK.reg 100 Tryz.ntmps129 (by kernel_rfl) ?_
  intro A hA Q hQ
  simp
  refine hQ _ _ ?_
  clear hQ hA
  repeat (refine WK.seq ?_)
  refine WK.reg 200 Tryz.ntmps129 (by kernel_rfl) ?_
  intro A hA Q hQ
  simp
  refine RunQ.call rfl rfl rfl rfl (by rfl) (by simp (maxDischargeDepth := 120)) (hh) (by simp) ?_
  refine RunQ.eval ?_
  simp
  refine hQ _ _ ?_
  clear hQ hA
  repeat (refine WK.seq ?_)
  refine WK.reg 300 Tryz.ntmps129 (by kernel_rfl) ?_
  intro A hA Q hQ
  simp
  refine hQ _ _ ?_
  clear hQ hA
  refine WK.cond2 rfl (fun h => ?_) (fun h => ?_)
  · cases h
  repeat (first | refine WK.seq ?_ | refine WK.skip ?_)
  refine WK.reg 400 Tryz.ntmps129 (by kernel_rfl) ?_
  intro A hA Q hQ
  simp
  refine hQ _ _ ?_
  clear hQ hA
  repeat (refine WK.seq ?_)
  refine WK.reg 500 Tryz.ntmps129 (by kernel_rfl) ?_
  intro A hA Q hQ
  simp
  refine RunQ.call rfl rfl rfl rfl (by rfl) (by simp (maxDischargeDepth := 120)) (hfs) (by simp) ?_
  refine RunQ.eval ?_
  simp
  refine hQ _ _ ?_
  clear hQ hA
  repeat (refine WK.seq ?_)
  refine WK.reg 600 Tryz.ntmps129 (by kernel_rfl) ?_
  intro A hA Q hQ
  simp [j4, d4]
  refine RunQ.call rfl rfl rfl rfl (by rfl) (by simp (maxDischargeDepth := 120)) (q1) (by simp) ?_
  refine RunQ.eval ?_
  simp
  refine hQ _ _ ?_
  clear hQ hA
  repeat (refine WK.seq ?_)
  apply WK.cut (⟨(upd (upd (upd (upd J 2 (.ptr 0 0)) 4 (.ptr 2 0)) 7 (.int .i64 (bAt b 3 : Nat))) 9 (.ptr 303 0)), (upd (upd (upd B0 0 (.var oxm0.enc)) 2 (.var [.bool false, .int .i64 0, .int .i64 0])) 303 (.var (oRead b).enc)), 0⟩ : St)
  · intro hcut
    rw [hR] at hcut
    cases m : hMasked b
    · rw [m] at hcut
      refine WK.reg 700 Tryz.ntmps129 (by kernel_rfl) ?_
      intro A hA Q hQ
      simp
      refine hQ _ _ ?_
      clear hQ hA
      refine WK.cond2 rfl (fun h => ?_) (fun h => ?_)
      · cases h
      · repeat (first | refine WK.seq ?_ | refine WK.skip ?_)
        refine WK.next (fun n => n) hcut (by repeat (first | exact TmW.nil | refine TmW.upd ?_ (by simp (maxDischargeDepth := 120) [m, oxm0, Oxm.enc, Wide.enc, wideZ, uI_zero]))) (by repeat (first | exact BxW.nil | refine BxW.upd ?_ (by simp (maxDischargeDepth := 120) [m, oxm0, Oxm.enc, Wide.enc, wideZ, uI_zero]))) (by first | exact InjW.id | exact InjW.nil | exact InjW.one | exact InjW.two (by simp) | exact InjW.three (by simp) (by simp) (by simp))
    · rw [m] at hcut
      refine WK.reg 800 Tryz.ntmps129 (by kernel_rfl) ?_
      intro A hA Q hQ
      simp
      refine hQ _ _ ?_
      clear hQ hA
      refine WK.cond2 rfl (fun h => ?_) (fun h => ?_)
      · refine WK.reg 900 Tryz.ntmps129 (by kernel_rfl) ?_
        intro A hA Q hQ
        simp [w5, j5, j6, j7, d5]
        refine RunQ.call rfl rfl rfl rfl (by rfl) (by simp (maxDischargeDepth := 120)) (q2) (by simp) ?_
        refine RunQ.eval ?_
        simp
        refine hQ _ _ ?_
        clear hQ hA
        repeat (refine WK.seq ?_)
        refine WK.next (fun n => n) hcut (by repeat (first | exact TmW.nil | refine TmW.upd ?_ (by simp (maxDischargeDepth := 120) [m, oxm0, Oxm.enc, Wide.enc, wideZ, uI_zero]))) (by repeat (first | exact BxW.nil | refine BxW.upd ?_ (by simp (maxDischargeDepth := 120) [m, oxm0, Oxm.enc, Wide.enc, wideZ, uI_zero]))) (by first | exact InjW.id | exact InjW.nil | exact InjW.one | exact InjW.two (by simp) | exact InjW.three (by simp) (by simp) (by simp))
      · cases h
  refine WK.ghost (Ghost.frzVar 9 rfl rfl) ?_
  have w6 : IntKind.i64.wrap (4 + (bAt b 3 : Int)) = 4 + (bAt b 3 : Int) := wrap_i64 (by omega) (by omega)
  simp only [Oxm.enc] at hfo
  by_cases c : Oxm.form (oRead b) = 0
  · have e : oDec b = (oRead b, 4 + (bAt b 3 : Int), 0) := by unfold oDec; rw [if_pos k, if_pos c]
    rw [c] at hfo
    refine WK.reg 1000 Tryz.ntmps129 (by kernel_rfl) ?_
    intro A hA Q hQ
    simp [Oxm.enc]
    refine RunQ.call rfl rfl rfl rfl (by rfl) (by simp (maxDischargeDepth := 120)) (hfo) (by simp) ?_
    refine RunQ.eval ?_
    simp
    refine hQ _ _ ?_
    clear hQ hA
    repeat (refine WK.seq ?_)
    refine WK.reg 1100 Tryz.ntmps129 (by kernel_rfl) ?_
    intro A hA Q hQ
    simp
    refine hQ _ _ ?_
    clear hQ hA
    refine WK.cond2 rfl (fun h => ?_) (fun h => ?_)
    · cases h
    · repeat (first | refine WK.seq ?_ | refine WK.skip ?_)
      refine WK.reg 1200 Tryz.ntmps129 (by kernel_rfl) ?_
      intro A hA Q hQ
      simp [w6, Oxm.enc, oxm0_enc]
      refine hQ _ _ ?_
      clear hQ hA
      refine WK.ret Tryz.func129 (by simp (maxDischargeDepth := 120) [Tryz.results129, e, oFault, Oxm.enc]) (by simp [e, oFault, Oxm.enc])
  · have e : oDec b = (oxm0, 0, Oxm.form (oRead b)) := by unfold oDec; rw [if_pos k, if_neg c]
    have cb : (Oxm.form (oRead b) == 0) = false := beq_eq_false_iff_ne.2 c
    refine WK.reg 1300 Tryz.ntmps129 (by kernel_rfl) ?_
    intro A hA Q hQ
    simp [Oxm.enc]
    refine RunQ.call rfl rfl rfl rfl (by rfl) (by simp (maxDischargeDepth := 120)) (hfo) (by simp) ?_
    refine RunQ.eval ?_
    simp
    refine hQ _ _ ?_
    clear hQ hA
    repeat (refine WK.seq ?_)
    refine WK.reg 1400 Tryz.ntmps129 (by kernel_rfl) ?_
    intro A hA Q hQ
    simp [cb, bne]
    refine hQ _ _ ?_
    clear hQ hA
    refine WK.cond2 rfl (fun h => ?_) (fun h => ?_)
    · repeat (refine WK.seq ?_)
      refine WK.reg 1500 Tryz.ntmps129 (by kernel_rfl) ?_
      intro A hA Q hQ
      simp [Oxm.enc, oxm0_enc]
      refine RunQ.call rfl rfl rfl rfl (by rfl) (by simp (maxDischargeDepth := 120)) (obad_c (Oxm.form (oRead b))) (by simp) ?_
      refine RunQ.eval ?_
      simp
      refine hQ _ _ ?_
      clear hQ hA
      refine WK.ret Tryz.func129 (by simp (maxDischargeDepth := 120) [Tryz.results129, e, oFault, c, oxm0_enc]) (by simp [e, oFault, c, oxm0_enc])
    · cases h
end Go.Proofs.YtcccfbjkcahgfaaGreat
end

section
set_option linter.unusedVariables false
set_option linter.unusedSimpArgs false
namespace Go.Proofs.YtcccfbjkcahgfaaGreat
open Go Go.AI Go.Proofs
attribute [local irreducible] FnP FnO FnB FnT FnSeq WK RunQ RunQW RunX RunXW

def act0 : Action := ⟨0, 0, 0, 0, 0, oxm0⟩
def aSets (f : Int) : Bool := fRight f && (f != 0 && f != 1)
def aGoes (p : Int) : Bool := (decide (0 < p) && decide (p ≤ 4294967040)) || p == 4294967293
def aMost (a : Action) : Bool := decide (0 ≤ a.max) && (decide (a.max ≤ 65535) && (a.max == 0 || a.port == 4294967293))
/-- what an action has but for what is of no use in its kind -/
def Action.bare (a : Action) : Action := if a.kind = 0 then ⟨0, a.port, a.max, 0, 0, oxm0⟩ else if a.kind = 22 then ⟨22, 0, 0, a.group, 0, oxm0⟩ else if a.kind = 17 then ⟨17, 0, 0, 0, a.ether, oxm0⟩
  else if a.kind = 25 then ⟨25, 0, 0, 0, 0, a.oxm⟩ else ⟨a.kind, 0, 0, 0, 0, oxm0⟩
def Action.fine (a : Action) : Bool := if a.kind = 0 then aGoes a.port && aMost a else if a.kind = 22 then decide (0 ≤ a.group) && decide (a.group ≤ 4294967040) else if a.kind = 17 then a.ether == 33024 || a.ether == 34984
  else if a.kind = 18 then true else if a.kind = 25 then Oxm.right a.oxm && (!a.oxm.masked && aSets a.oxm.field) else false
def Action.right (a : Action) : Bool := Action.fine a && a == Action.bare a
theorem asets_c (f : Int) : FnP Tryz.prog 207 [.int .i64 f] (.bool (aSets f)) := by
  refine FnP.intro Tryz.func207 rfl rfl fun G w => ?_
  repeat' (first
   | refine WK.seq ?_
   | (refine Hid.h hQ _ _ ?_; clear hQ hA)
   | (refine Fork.mk (fun h => ?_) (fun h => ?_) <;> (first | (simp [*] at h; done) | (have h2 := h; simp at h2; exfalso; omega) | (have h2 := h; simp at h2; try simp only [Bool.not_eq_true', Bool.not_eq_false'] at h) | skip))
   | (refine WK.regH Tryz.ntmps207 (by kernel_rfl) ?_; intro A hA Q hQ; simp [bne, *])
   | (refine RunQ.gd rfl (by rw [hA.h]; rfl) ?_; simp [bne, *])
   | (refine RunQ.call rfl rfl rfl rfl rfl ?_ (fright_c f) ?_ ?_; (focus (simp (maxDischargeDepth := 120) [bne, *]; done)); (focus (simp [bne, *]; done)); refine RunQ.evalH ?_; simp [bne, *])
   | (refine WK.ret Tryz.func207 ?_ ?_ <;> simp (maxDischargeDepth := 120) [Tryz.results207, bne, aSets, *])
   | fail)
theorem agoes_c (p : Int) : FnP Tryz.prog 209 [.int .i64 p] (.bool (aGoes p)) := by
  refine FnP.intro Tryz.func209 rfl rfl fun G w => ?_
  repeat' (first
   | refine WK.seq ?_
   | (refine Hid.h hQ _ _ ?_; clear hQ hA)
   | (refine Fork.mk (fun h => ?_) (fun h => ?_) <;> (first | (simp [*] at h; done) | (have h2 := h; simp at h2; exfalso; omega) | (have h2 := h; simp at h2; try simp only [Bool.not_eq_true', Bool.not_eq_false'] at h) | skip))
   | (refine WK.regH Tryz.ntmps209 (by kernel_rfl) ?_; intro A hA Q hQ; simp [*])
   | (refine RunQ.gd rfl (by rw [hA.h]; rfl) ?_; simp [*])
   | (refine WK.ret Tryz.func209 ?_ ?_ <;> simp (maxDischargeDepth := 120) [Tryz.results209, aGoes, *])
   | fail)
set_option maxHeartbeats 4000000 in
theorem aright_c (a : Action) : FnP Tryz.prog 210 [.agg a.enc] (.bool (Action.right a)) := by
  have ho := oright_c a.oxm
  simp only [Oxm.enc] at ho
  have g : aGoes 4294967293 = true := rfl
  refine FnP.intro Tryz.func210 rfl rfl fun G w => ?_
  repeat' (first
   | refine WK.seq ?_
   | refine WK.block ?_
   | refine WK.inBlock ?_
   | refine WK.skip ?_
   | (refine Hid.h hQ _ _ ?_; clear hQ hA)
   | (refine WK.cond2 rfl (fun h => ?_) (fun h => ?_) <;> (first | (simp [*] at h; done) | (have h2 := h; simp at h2; exfalso; omega) | (have h2 := h; simp at h2; try simp only [Bool.not_eq_true', Bool.not_eq_false'] at h) | skip))
   | (refine Fork.mk (fun h => ?_) (fun h => ?_) <;> (first | (simp [*] at h; done) | (have h2 := h; simp at h2; exfalso; omega) | (have h2 := h; simp at h2; try simp only [Bool.not_eq_true', Bool.not_eq_false'] at h) | skip))
   | (refine WK.regH Tryz.ntmps210 (by kernel_rfl) ?_; intro A hA Q hQ; simp [Action.enc, *])
   | (refine WK.regX (by kernel_rfl) Tryz.ntmps210 (by kernel_rfl) ?_; intro A hA Q hQ; simp [Action.enc, *])
   | (refine Hid.h hQ _ _ _ (by decide +kernel) ?_; clear hQ hA)
   | (refine RunQ.gd rfl (by rw [hA.h]; rfl) ?_; simp [Action.enc, *])
   | (refine RunQ.call rfl rfl rfl rfl rfl ?_ (agoes_c a.port) ?_ ?_; (focus (simp (maxDischargeDepth := 120) [Action.enc, *]; done)); (focus (simp [Action.enc, *]; done)); refine RunQ.evalH ?_; simp [Action.enc, *])
   | (refine RunQ.call rfl rfl rfl rfl rfl ?_ (ho) ?_ ?_; (focus (simp (maxDischargeDepth := 120) [Action.enc, *]; done)); (focus (simp [Action.enc, *]; done)); refine RunQ.evalH ?_; simp [Action.enc, *])
   | (refine RunQW.call rfl rfl rfl rfl ?_ (asets_c a.oxm.field) ?_ ?_; (focus (simp (maxDischargeDepth := 120) [Action.enc, *]; done)); (focus (simp [Action.enc, *]; done)); refine RunQ.evalH ?_; simp [Action.enc, *])
   | (refine WK.ret Tryz.func210 ?_ ?_ <;> simp (maxDischargeDepth := 120) [Tryz.results210, Action.enc, Action.right, Action.fine, aMost, Action.bare, Action.beq, Oxm.beq, oxm0, wideZ, *])
   | fail)
end Go.Proofs.YtcccfbjkcahgfaaGreat
end
