/- Bytes: numbers put and got. -/
import Derived.Test.YtiifjagnhnchoaaGreatWk2
import Derived.Test.YtiifjagnhnchoaaGreatAf
import Derived.Test.YtiifjagnhnchoaaGreatWk1
import Derived.Test.YtiifjagnhnchoaaGreatDa
set_option linter.all false
set_option linter.unnecessarySimpa false
section
set_option linter.unusedVariables false
set_option linter.unusedSimpArgs false
namespace Go.Proofs.YtiifjagnhnchoaaGreat
open Go Go.AI Go.Proofs

def bI (b : BitVec 8) : Int := b.toNat
def byL (l : List (BitVec 8)) : List AV := l.map fun b => .int .u8 (bI b)
def byS (l : List (BitVec 8)) : AV := .sl false l.length (byL l)
@[simp] theorem byL_len (l : List (BitVec 8)) : (byL l).length = l.length := by simp [byL]
@[simp] theorem byL_cl (l : List (BitVec 8)) : ClL (byL l) = true := by
  induction l with
  | nil => rfl
  | cons x l ih => simp only [byL, List.map_cons, ClL, Cl, Bool.true_and]; exact ih
@[simp] theorem byS_cl (l : List (BitVec 8)) : Cl (byS l) = true := by simp [byS, Cl]
theorem byL_app (a b : List (BitVec 8)) : byL (a ++ b) = byL a ++ byL b := by simp [byL]
theorem byL_nil : byL [] = [] := rfl
theorem byL_one (b : BitVec 8) : byL [b] = [.int .u8 (bI b)] := rfl
theorem byL_drop (l : List (BitVec 8)) (n : Nat) : (byL l).drop n = byL (l.drop n) := by simp [byL]
theorem byL_take (l : List (BitVec 8)) (n : Nat) : (byL l).take n = byL (l.take n) := by simp [byL]
theorem by_full (l : List (BitVec 8)) (n : Nat) (h : n = l.length) : (byL l).take n = byL l := List.take_of_length_le (by simp [h])
theorem appByte : AppOk Tryz.prog 22 5 1 1 := ⟨by simp, by simp, by simp, by simp, by simp, by simp, by omega, by omega⟩
theorem bI_lt (b : BitVec 8) : 0 ≤ bI b ∧ bI b < 256 := by unfold bI; have := b.isLt; omega
theorem bI_of (x : Int) : bI (BitVec.ofInt 8 x) = x % 256 := by
  unfold bI
  rw [BitVec.toNat_ofInt]
  have : 0 ≤ x % 256 := Int.emod_nonneg _ (by decide)
  omega
theorem wrap_u8 (x : Int) : IntKind.wrap .u8 x = bI (BitVec.ofInt 8 x) := by
  rw [bI_of]
  unfold IntKind.wrap
  show (if (false && decide (x % 256 ≥ 128)) = true then x % 256 - 256 else x % 256) = x % 256
  rw [Bool.false_and, if_neg Bool.false_ne_true]
/-- whether a number has so many bytes -/
def numOk (n : Int) (s : Nat) : Bool := decide (0 ≤ n) && decide (n < 256 ^ s)
def Sz (s : Nat) : Prop := s = 1 ∨ s = 2 ∨ s = 4
theorem sized_c (s : Nat) (hs : Sz s) : FnP Tryz.prog 48 [.int .i64 s] (.bool true) := by
  rcases hs with rfl | rfl | rfl <;>
  · refine FnP.intro Tryz.func48 rfl rfl fun G w => ?_
    repeat (refine WK.seq ?_)
    refine WK.reg 100 Tryz.ntmps48 (by kernel_rfl) ?_
    intro A hA Q hQ
    simp
    refine hQ _ _ ?_
    clear hQ hA
    repeat (refine WK.seq ?_)
    refine WK.reg 200 Tryz.ntmps48 (by kernel_rfl) ?_
    intro A hA Q hQ
    have hg2 : (A[2]?).bind (·.dst) = some 5 := by rw [hA]; rfl
    have hg6 : (A[6]?).bind (·.dst) = some 9 := by rw [hA]; rfl
    simp [hg2, hg6]
    refine hQ _ _ ?_
    clear hQ hA
    refine WK.ret Tryz.func48 (by simp (maxDischargeDepth := 120) [Tryz.results48]) (by simp)
theorem shr_i64 (n : Int) (k : Nat) (hk : k ≤ 64) : bShr .i64 n k = n / 2 ^ k := by
  unfold bShr
  have : min (Int.toNat (k : Int)) (IntKind.bits .i64) = k := by show min (Int.toNat (k : Int)) 64 = k; omega
  rw [this, Int.fdiv_eq_ediv_of_nonneg _ (by exact Int.le_of_lt (Int.pow_pos (by decide)))]
theorem shr_zero (n : Int) (s : Nat) (h0 : 0 ≤ n) : (n / 2 ^ (8 * s) == 0) = decide (n < 256 ^ s) := by
  have hp : (2 : Int) ^ (8 * s) = 256 ^ s := by rw [Int.pow_mul]; rfl
  rw [hp]
  have hpos : (0 : Int) < 256 ^ s := Int.pow_pos (by decide)
  rw [Bool.eq_iff_iff, beq_iff_eq, decide_eq_true_eq]
  constructor
  · intro h
    have := Int.lt_ediv_add_one_mul_self n hpos
    rw [h] at this; omega
  · intro h; exact Int.ediv_eq_zero_of_lt h0 h
theorem nright_c (n : Int) (s : Nat) (hs : Sz s) : FnP Tryz.prog 44 [.int .i64 n, .int .i64 s] (.bool (numOk n s)) := by
  have hsz := sized_c s hs
  have hs4 : s ≤ 4 := by rcases hs with rfl | rfl | rfl <;> omega
  have w8 : IntKind.i64.wrap (8 * (s : Int)) = 8 * (s : Int) := by
    rcases hs with rfl | rfl | rfl <;> rfl
  have hsh : bShr .i64 n (8 * (s : Int)) = n / 2 ^ (8 * s) := by
    have := shr_i64 n (8 * s) (by omega)
    rw [← this]; congr 1
  have hnn : ¬ (8 * (s : Int) < 0) := by omega
  cases k : decide (0 ≤ n)
  · refine FnP.intro Tryz.func44 rfl rfl fun G w => ?_
    repeat (refine WK.seq ?_)
    refine WK.reg 100 Tryz.ntmps44 (by kernel_rfl) ?_
    intro A hA Q hQ
    simp
    refine hQ _ _ ?_
    clear hQ hA
    repeat (refine WK.seq ?_)
    refine WK.reg 200 Tryz.ntmps44 (by kernel_rfl) ?_
    intro A hA Q hQ
    have hg2 : (A[2]?).bind (·.dst) = some 7 := by rw [hA]; rfl
    have hg6 : (A[6]?).bind (·.dst) = some 11 := by rw [hA]; rfl
    simp [hg2, hg6]
    refine RunQ.call rfl rfl rfl rfl (by rfl) (by simp (maxDischargeDepth := 120) [hg2, hg6, k]) (hsz) (by simp [hg2, hg6, k]) ?_
    refine RunQ.eval ?_
    simp [hg2, hg6, k]
    refine hQ _ _ ?_
    clear hQ hA
    refine WK.ret Tryz.func44 (by simp (maxDischargeDepth := 120) [Tryz.results44, numOk, k]) (by simp [numOk, k])
  · have h0 := shr_zero n s (of_decide_eq_true k)
    refine FnP.intro Tryz.func44 rfl rfl fun G w => ?_
    repeat (refine WK.seq ?_)
    refine WK.reg 100 Tryz.ntmps44 (by kernel_rfl) ?_
    intro A hA Q hQ
    simp
    refine hQ _ _ ?_
    clear hQ hA
    repeat (refine WK.seq ?_)
    refine WK.reg 200 Tryz.ntmps44 (by kernel_rfl) ?_
    intro A hA Q hQ
    have hg2 : (A[2]?).bind (·.dst) = some 7 := by rw [hA]; rfl
    have hg6 : (A[6]?).bind (·.dst) = some 11 := by rw [hA]; rfl
    simp [hg2, hg6]
    refine RunQ.call rfl rfl rfl rfl (by rfl) (by simp (maxDischargeDepth := 120) [hg2, hg6, k, w8, hsh, h0, hnn]) (hsz) (by simp [hg2, hg6, k, w8, hsh, h0, hnn]) ?_
    refine RunQ.eval ?_
    simp [hg2, hg6, k, w8, hsh, h0, hnn]
    refine hQ _ _ ?_
    clear hQ hA
    refine WK.ret Tryz.func44 (by simp (maxDischargeDepth := 120) [Tryz.results44, numOk, k]) (by simp [numOk, k])
/-- the last `s` bytes of a number, the first one highest -/
def beN (n : Int) (s : Nat) : List (BitVec 8) := (List.range s).map fun i => BitVec.ofInt 8 (n / 2 ^ (8 * (s - 1 - i)))
theorem beN_len (n : Int) (s : Nat) : (beN n s).length = s := by simp [beN]
def putN (b : List (BitVec 8)) (n : Int) (s : Nat) : List (BitVec 8) := if numOk n s then b ++ beN n s else b
/-- four bytes, of which the first `i` are set -/
def fourAt (n : Int) (i : Nat) : List (BitVec 8) := (List.range 4).map fun j => if j < i then BitVec.ofInt 8 (n / 2 ^ (24 - 8 * j)) else 0#8
theorem fourAt_zero (n : Int) : byL (fourAt n 0) = [.int .u8 0, .int .u8 0, .int .u8 0, .int .u8 0] := rfl
theorem fourAt_set (n : Int) (i : Nat) (h : i < 4) : (byL (fourAt n i)).take i ++ .int .u8 (bI (BitVec.ofInt 8 (n / 2 ^ (24 - 8 * i)))) :: (byL (fourAt n i)).drop (i + 1) = byL (fourAt n (i + 1)) := by
  match i, h with
  | 0, _ => rfl
  | 1, _ => rfl
  | 2, _ => rfl
  | 3, _ => rfl
theorem fourAt_len (n : Int) (i : Nat) : (fourAt n i).length = 4 := by simp [fourAt]
theorem four_drop (n : Int) (s : Nat) (hs : Sz s) : (fourAt n 4).drop (4 - s) = beN n s := by
  rcases hs with rfl | rfl | rfl <;> rfl
set_option maxHeartbeats 2000000 in
theorem nput_c (b : List (BitVec 8)) (n : Int) (s : Nat) (hs : Sz s) (hb : b.length ≤ 1000000) : FnO Tryz.prog 34 [byS b, .int .i64 n, .int .i64 s] (putN b n s).length 1 (byL (putN b n s)) := by
  have hr := nright_c n s hs
  have hs4 : s ≤ 4 := by rcases hs with rfl | rfl | rfl <;> omega
  have hs1 : 1 ≤ s := by rcases hs with rfl | rfl | rfl <;> omega
  have hf := by_full b b.length rfl
  unfold byS
  cases k : numOk n s
  · have e : putN b n s = b := by unfold putN; rw [k]; rfl
    have hbd : b.length ≤ 140737488355328 := by omega
    rw [e]
    refine FnO.intro Tryz.func34 rfl rfl fun G w => ?_
    repeat (refine WK.seq ?_)
    refine WK.reg 100 Tryz.ntmps34 (by kernel_rfl) ?_
    intro A hA Q hQ
    simp
    refine hQ _ _ ?_
    clear hQ hA
    repeat (refine WK.seq ?_)
    refine WK.reg 200 Tryz.ntmps34 (by kernel_rfl) ?_
    intro A hA Q hQ
    simp
    refine RunQ.call rfl rfl rfl rfl (by rfl) (by simp (maxDischargeDepth := 120) [k]) (hr) (by simp [k]) ?_
    refine RunQ.eval ?_
    simp [k]
    refine hQ _ _ ?_
    clear hQ hA
    refine WK.cond2 rfl (fun h => ?_) (fun h => ?_)
    · repeat (refine WK.seq ?_)
      refine WK.reg 300 Tryz.ntmps34 (by kernel_rfl) ?_
      intro A hA Q hQ
      simp
      refine RunQ.append0 900 901 appByte rfl rfl rfl rfl rfl rfl rfl (by simp [hbd]) (by simp [hbd]) (by simp [hbd]) (by simp [hbd]) (by simp [hbd]) (by simp [hbd]) (by simp) ?_
      refine RunQ.eval ?_
      simp [hbd]
      refine hQ _ _ ?_
      clear hQ hA
      refine WK.retO Tryz.func34 (by rfl) (by rfl) (by simp (maxDischargeDepth := 120) [hf]) (by simp [hf])
    · cases h
  · have e : putN b n s = b ++ beN n s := by unfold putN; rw [k]; rfl
    rw [e]
    refine FnO.intro Tryz.func34 rfl rfl fun G w => ?_
    repeat (refine WK.seq ?_)
    refine WK.reg 100 Tryz.ntmps34 (by kernel_rfl) ?_
    intro A hA Q hQ
    simp
    refine hQ _ _ ?_
    clear hQ hA
    repeat (refine WK.seq ?_)
    refine WK.reg 200 Tryz.ntmps34 (by kernel_rfl) ?_
    intro A hA Q hQ
    simp
    refine RunQ.call rfl rfl rfl rfl (by rfl) (by simp (maxDischargeDepth := 120) [k]) (hr) (by simp [k]) ?_
    refine RunQ.eval ?_
    simp [k]
    refine hQ _ _ ?_
    clear hQ hA
    refine WK.cond2 rfl (fun h => ?_) (fun h => ?_)
    · cases h
    repeat (first | refine WK.seq ?_ | refine WK.skip ?_)
    refine WK.reg 300 Tryz.ntmps34 (by kernel_rfl) ?_
    intro A hA Q hQ
    simp
    refine hQ _ _ ?_
    clear hQ hA
    repeat (refine WK.seq ?_)
    refine WK.reg 400 Tryz.ntmps34 (by kernel_rfl) ?_
    intro A hA Q hQ
    simp
    refine hQ _ _ ?_
    clear hQ hA
    repeat (refine WK.block ?_)
    refine WK.loopI (fun _ => 200) (fun i : Nat => (⟨(upd (upd (upd (upd (upd J 0 (.sl false b.length (byL b))) 1 (.int .i64 n)) 2 (.int .i64 s)) 7 (.ptr 1 0)) 15 (.int .i64 i)), (upd B0 1 (.var (byL (fourAt n i)))), 0⟩ : St)) (fun i => i ≤ 4) (fun i => 4 - i) (0) (by repeat (first | exact TmW.nil | refine TmW.upd ?_ (by simp (maxDischargeDepth := 120) [fourAt_zero]))) (by repeat (first | exact BxW.nil | refine BxW.upd ?_ (by simp (maxDischargeDepth := 120) [fourAt_zero]))) (by first | exact InjW.id | exact InjW.nil | exact InjW.one | exact InjW.two (by simp) | exact InjW.three (by simp) (by simp) (by simp)) (by omega) (fun i hi IH => ?_)
    repeat (refine WK.seq ?_)
    refine WK.reg 500 Tryz.ntmps34 (by kernel_rfl) ?_
    intro A hA Q hQ
    simp
    refine hQ _ _ ?_
    clear hQ hA
    repeat (refine WK.seq ?_)
    refine WK.cond2 rfl (fun h1 => ?_) (fun h1 => ?_)
    · simp at h1
      have h2 : i < 4 := by omega
      have h6 : IntKind.i64.wrap ((i : Int) + 1) = i + 1 := wrap_i64 (by omega) (by omega)
      have m1 : IntKind.i64.wrap (8 * (i : Int)) = 8 * (i : Int) := wrap_i64 (by omega) (by omega)
      have m2 : IntKind.i64.wrap (24 - 8 * (i : Int)) = ((24 - 8 * i : Nat) : Int) := by rw [wrap_i64 (by omega) (by omega)]; omega
      have m3 := shr_i64 n (24 - 8 * i) (by omega)
      have m4 : ¬ ((24 - 8 * i : Nat) : Int) < 0 := by omega
      have m5 := wrap_u8 (n / 2 ^ (24 - 8 * i))
      have hset := fourAt_set n i h2
      have hfl := fourAt_len n i
      have b1 : (i : Int) < 4 := by omega
      have b2 : i + 1 ≤ 4 := by omega
      repeat (first | refine WK.seq ?_ | refine WK.block ?_ | refine WK.skip ?_)
      refine WK.reg 600 Tryz.ntmps34 (by kernel_rfl) ?_
      intro A hA Q hQ
      simp
      refine hQ _ _ ?_
      clear hQ hA
      obtain ⟨q, hq⟩ : ∃ q, q = 24 - 8 * i := ⟨_, rfl⟩
      rw [← hq] at m2 m3 m4 m5 hset
      refine WK.reg 700 Tryz.ntmps34 (by kernel_rfl) ?_
      intro A hA Q hQ
      simp [m1, m2, m3, m4, m5, h2, hset, hfl, b1, b2]
      refine hQ _ _ ?_
      clear hQ hA
      repeat (refine WK.inBlock ?_)
      refine WK.reg 800 Tryz.ntmps34 (by kernel_rfl) ?_
      intro A hA Q hQ
      simp [h6]
      refine hQ _ _ ?_
      clear hQ hA
      refine WK.next (fun n => n) (IH (i + 1) (by omega) (by first | omega | (dsimp only; omega))) (by repeat (first | exact TmW.nil | refine TmW.upd ?_ (by simp (maxDischargeDepth := 120) [h6]))) (by repeat (first | exact BxW.nil | refine BxW.upd ?_ (by simp (maxDischargeDepth := 120) [h6]))) (by first | exact InjW.id | exact InjW.nil | exact InjW.one | exact InjW.two (by simp) | exact InjW.three (by simp) (by simp) (by simp))
    · simp at h1
      have hi4 : i = 4 := by omega
      subst hi4
      repeat (first | refine WK.seq ?_ | refine WK.exit rfl ?_)
      refine WK.ghost (Ghost.frzVar 7 rfl rfl) ?_
      have m1 : IntKind.i64.wrap (4 - (s : Int)) = ((4 - s : Nat) : Int) := by rw [wrap_i64 (by omega) (by omega)]; omega
      have m2 : (4 - s : Nat) ≤ 4 := by omega
      have m3 : 4 - (4 - s) = s := by omega
      have m4 := four_drop n s hs
      have m5 : (byL (fourAt n 4)).drop (4 - s) = byL (beN n s) := by rw [byL_drop, m4]
      have m6 : (byL (beN n s)).take s = byL (beN n s) := by_full _ _ (beN_len n s).symm
      obtain ⟨q, hq⟩ : ∃ q, q = 4 - s := ⟨_, rfl⟩
      rw [← hq] at m1 m2 m3 m5
      have hl1 : (beN n s).length = s := beN_len n s
      have hs63 : s ≤ 140737488355328 := by omega
      have c1 : (q : Int) ≤ 4 := by omega
      have hbd : (b.length + s) * 1 ≤ 140737488355328 := by omega
      by_cases hb0 : b = []
      · subst hb0
        rw [List.nil_append, hl1]
        refine WK.regD 900 clsOf (by kernel_rfl) Tryz.ntmps34 (by kernel_rfl) (by kernel_rfl) ?_
        intro A hA Q hQ
        simp [m1, m2, m3, m5, m6, c1, byL_nil]
        refine RunQ.append0 900 901 appByte rfl rfl rfl rfl rfl rfl rfl (by simp [hs63, hl1, m6]) (by simp [hs63, hl1, m6]) (by simp [hs63, hl1, m6]) (by simp [hs63, hl1, m6]) (by simp [hs63, hl1, m6]) (by simp [hs63, hl1, m6]) (by simp) ?_
        refine RunQ.eval ?_
        simp [hs63, hl1, m6]
        refine hQ _ _ ?_
        clear hQ hA
        refine WK.retO Tryz.func34 (by rfl) (by rfl) (by simp (maxDischargeDepth := 120) [m6]) (by simp [m6])
      · have hbp : 0 < b.length := List.length_pos_iff.2 hb0
        rw [List.length_append, hl1]
        refine WK.regD 1000 clsOf (by kernel_rfl) Tryz.ntmps34 (by kernel_rfl) (by kernel_rfl) ?_
        intro A hA Q hQ
        simp [m1, m2, m3, m5, m6, c1, hf]
        refine RunQ.appendF 901 appByte rfl rfl rfl rfl rfl rfl (by simp [hbd, hl1, m6, hf]) rfl (by first | omega | simp [hbd, hl1, m6, hf]) (by first | omega | simp [hbd, hl1, m6, hf]) (by simp [hbd, hl1, m6, hf]) (by simp [hbd, hl1, m6, hf]) (by first | omega | simp [hbd, hl1, m6, hf]) (by simp) ?_
        refine RunQ.eval ?_
        simp [hbd, hl1, m6, hf]
        refine hQ _ _ ?_
        clear hQ hA
        refine WK.retO Tryz.func34 (by rfl) (by rfl) (by simp (maxDischargeDepth := 120) [byL_app, hf, m6, hl1]) (by simp [byL_app, hf, m6, hl1])
end Go.Proofs.YtiifjagnhnchoaaGreat
end

section
set_option linter.unusedVariables false
set_option linter.unusedSimpArgs false
namespace Go.Proofs.YtiifjagnhnchoaaGreat
open Go Go.AI Go.Proofs Go.Proofs.YtiifjagnhnchoaaGreat
theorem allP2 {p q : AV → Prop} {xs : List AV} (h : AllP [p, q] xs) : ∃ x y, xs = [x, y] ∧ p x ∧ q y := by
  match xs, h with
  | [x, y], ⟨h0, h1, _⟩ => exact ⟨x, y, rfl, h0, h1⟩
end Go.Proofs.YtiifjagnhnchoaaGreat
end

section
set_option linter.unusedVariables false
set_option linter.unusedSimpArgs false
namespace Go.Proofs.YtiifjagnhnchoaaGreat
open Go Go.AI Go.Proofs

theorem rright_c (n : Int) (s : Nat) (hs : Sz s) : FnP Tryz.prog 45 [.int .i64 n, .int .i64 s] (.bool (numOk n s)) := by
  cases k : decide (0 ≤ n)
  · rcases hs with rfl | rfl | rfl
    · refine FnP.intro Tryz.func45 rfl rfl fun G w => ?_
      repeat (refine WK.seq ?_)
      refine WK.reg 100 Tryz.ntmps45 (by kernel_rfl) ?_
      intro A hA Q hQ
      simp
      refine hQ _ _ ?_
      clear hQ hA
      repeat (refine WK.seq ?_)
      refine WK.reg 200 Tryz.ntmps45 (by kernel_rfl) ?_
      intro A hA Q hQ
      simp
      refine hQ _ _ ?_
      clear hQ hA
      repeat (first | refine WK.seq ?_ | refine WK.block ?_)
      refine WK.reg 300 Tryz.ntmps45 (by kernel_rfl) ?_
      intro A hA Q hQ
      simp
      refine hQ _ _ ?_
      clear hQ hA
      refine WK.cond2 rfl (fun h => ?_) (fun h => ?_)
      · repeat (refine WK.seq ?_)
        refine WK.reg 400 Tryz.ntmps45 (by kernel_rfl) ?_
        intro A hA Q hQ
        have hg2 : (A[2]?).bind (·.dst) = some 10 := by rw [hA]; rfl
        simp [k, hg2]
        refine hQ _ _ ?_
        clear hQ hA
        refine WK.ret Tryz.func45 (by simp (maxDischargeDepth := 120) [Tryz.results45, numOk, k]) (by simp [numOk, k])
      · cases h
    · refine FnP.intro Tryz.func45 rfl rfl fun G w => ?_
      repeat (refine WK.seq ?_)
      refine WK.reg 100 Tryz.ntmps45 (by kernel_rfl) ?_
      intro A hA Q hQ
      simp
      refine hQ _ _ ?_
      clear hQ hA
      repeat (refine WK.seq ?_)
      refine WK.reg 200 Tryz.ntmps45 (by kernel_rfl) ?_
      intro A hA Q hQ
      simp
      refine hQ _ _ ?_
      clear hQ hA
      repeat (first | refine WK.seq ?_ | refine WK.block ?_)
      refine WK.reg 300 Tryz.ntmps45 (by kernel_rfl) ?_
      intro A hA Q hQ
      simp
      refine hQ _ _ ?_
      clear hQ hA
      refine WK.cond2 rfl (fun h => ?_) (fun h => ?_)
      · cases h
      repeat (refine WK.seq ?_)
      refine WK.reg 400 Tryz.ntmps45 (by kernel_rfl) ?_
      intro A hA Q hQ
      simp
      refine hQ _ _ ?_
      clear hQ hA
      refine WK.cond2 rfl (fun h => ?_) (fun h => ?_)
      · repeat (refine WK.seq ?_)
        refine WK.reg 500 Tryz.ntmps45 (by kernel_rfl) ?_
        intro A hA Q hQ
        have hg2 : (A[2]?).bind (·.dst) = some 18 := by rw [hA]; rfl
        simp [k, hg2]
        refine hQ _ _ ?_
        clear hQ hA
        refine WK.ret Tryz.func45 (by simp (maxDischargeDepth := 120) [Tryz.results45, numOk, k]) (by simp [numOk, k])
      · cases h
    · refine FnP.intro Tryz.func45 rfl rfl fun G w => ?_
      repeat (refine WK.seq ?_)
      refine WK.reg 100 Tryz.ntmps45 (by kernel_rfl) ?_
      intro A hA Q hQ
      simp
      refine hQ _ _ ?_
      clear hQ hA
      repeat (refine WK.seq ?_)
      refine WK.reg 200 Tryz.ntmps45 (by kernel_rfl) ?_
      intro A hA Q hQ
      simp
      refine hQ _ _ ?_
      clear hQ hA
      repeat (first | refine WK.seq ?_ | refine WK.block ?_)
      refine WK.reg 300 Tryz.ntmps45 (by kernel_rfl) ?_
      intro A hA Q hQ
      simp
      refine hQ _ _ ?_
      clear hQ hA
      refine WK.cond2 rfl (fun h => ?_) (fun h => ?_)
      · cases h
      repeat (refine WK.seq ?_)
      refine WK.reg 400 Tryz.ntmps45 (by kernel_rfl) ?_
      intro A hA Q hQ
      simp
      refine hQ _ _ ?_
      clear hQ hA
      refine WK.cond2 rfl (fun h => ?_) (fun h => ?_)
      · cases h
      repeat (refine WK.seq ?_)
      refine WK.reg 500 Tryz.ntmps45 (by kernel_rfl) ?_
      intro A hA Q hQ
      simp
      refine hQ _ _ ?_
      clear hQ hA
      refine WK.cond2 rfl (fun h => ?_) (fun h => ?_)
      · repeat (refine WK.seq ?_)
        refine WK.reg 600 Tryz.ntmps45 (by kernel_rfl) ?_
        intro A hA Q hQ
        have hg2 : (A[2]?).bind (·.dst) = some 26 := by rw [hA]; rfl
        simp [k, hg2]
        refine hQ _ _ ?_
        clear hQ hA
        refine WK.ret Tryz.func45 (by simp (maxDischargeDepth := 120) [Tryz.results45, numOk, k]) (by simp [numOk, k])
      · cases h
  · rcases hs with rfl | rfl | rfl
    · have e : decide (n ≤ 255) = decide (n < 256 ^ 1) := decide_eq_decide.2 (by omega)
      refine FnP.intro Tryz.func45 rfl rfl fun G w => ?_
      repeat (refine WK.seq ?_)
      refine WK.reg 100 Tryz.ntmps45 (by kernel_rfl) ?_
      intro A hA Q hQ
      simp
      refine hQ _ _ ?_
      clear hQ hA
      repeat (refine WK.seq ?_)
      refine WK.reg 200 Tryz.ntmps45 (by kernel_rfl) ?_
      intro A hA Q hQ
      simp
      refine hQ _ _ ?_
      clear hQ hA
      repeat (first | refine WK.seq ?_ | refine WK.block ?_)
      refine WK.reg 300 Tryz.ntmps45 (by kernel_rfl) ?_
      intro A hA Q hQ
      simp
      refine hQ _ _ ?_
      clear hQ hA
      refine WK.cond2 rfl (fun h => ?_) (fun h => ?_)
      · repeat (refine WK.seq ?_)
        refine WK.reg 400 Tryz.ntmps45 (by kernel_rfl) ?_
        intro A hA Q hQ
        have hg2 : (A[2]?).bind (·.dst) = some 10 := by rw [hA]; rfl
        simp [k, hg2]
        refine hQ _ _ ?_
        clear hQ hA
        refine WK.ret Tryz.func45 (by simp (maxDischargeDepth := 120) [Tryz.results45, numOk, k, e]) (by simp [numOk, k, e])
      · cases h
    · have e : decide (n ≤ 65535) = decide (n < 256 ^ 2) := decide_eq_decide.2 (by omega)
      refine FnP.intro Tryz.func45 rfl rfl fun G w => ?_
      repeat (refine WK.seq ?_)
      refine WK.reg 100 Tryz.ntmps45 (by kernel_rfl) ?_
      intro A hA Q hQ
      simp
      refine hQ _ _ ?_
      clear hQ hA
      repeat (refine WK.seq ?_)
      refine WK.reg 200 Tryz.ntmps45 (by kernel_rfl) ?_
      intro A hA Q hQ
      simp
      refine hQ _ _ ?_
      clear hQ hA
      repeat (first | refine WK.seq ?_ | refine WK.block ?_)
      refine WK.reg 300 Tryz.ntmps45 (by kernel_rfl) ?_
      intro A hA Q hQ
      simp
      refine hQ _ _ ?_
      clear hQ hA
      refine WK.cond2 rfl (fun h => ?_) (fun h => ?_)
      · cases h
      repeat (refine WK.seq ?_)
      refine WK.reg 400 Tryz.ntmps45 (by kernel_rfl) ?_
      intro A hA Q hQ
      simp
      refine hQ _ _ ?_
      clear hQ hA
      refine WK.cond2 rfl (fun h => ?_) (fun h => ?_)
      · repeat (refine WK.seq ?_)
        refine WK.reg 500 Tryz.ntmps45 (by kernel_rfl) ?_
        intro A hA Q hQ
        have hg2 : (A[2]?).bind (·.dst) = some 18 := by rw [hA]; rfl
        simp [k, hg2]
        refine hQ _ _ ?_
        clear hQ hA
        refine WK.ret Tryz.func45 (by simp (maxDischargeDepth := 120) [Tryz.results45, numOk, k, e]) (by simp [numOk, k, e])
      · cases h
    · have e : decide (n ≤ 4294967295) = decide (n < 256 ^ 4) := decide_eq_decide.2 (by omega)
      refine FnP.intro Tryz.func45 rfl rfl fun G w => ?_
      repeat (refine WK.seq ?_)
      refine WK.reg 100 Tryz.ntmps45 (by kernel_rfl) ?_
      intro A hA Q hQ
      simp
      refine hQ _ _ ?_
      clear hQ hA
      repeat (refine WK.seq ?_)
      refine WK.reg 200 Tryz.ntmps45 (by kernel_rfl) ?_
      intro A hA Q hQ
      simp
      refine hQ _ _ ?_
      clear hQ hA
      repeat (first | refine WK.seq ?_ | refine WK.block ?_)
      refine WK.reg 300 Tryz.ntmps45 (by kernel_rfl) ?_
      intro A hA Q hQ
      simp
      refine hQ _ _ ?_
      clear hQ hA
      refine WK.cond2 rfl (fun h => ?_) (fun h => ?_)
      · cases h
      repeat (refine WK.seq ?_)
      refine WK.reg 400 Tryz.ntmps45 (by kernel_rfl) ?_
      intro A hA Q hQ
      simp
      refine hQ _ _ ?_
      clear hQ hA
      refine WK.cond2 rfl (fun h => ?_) (fun h => ?_)
      · cases h
      repeat (refine WK.seq ?_)
      refine WK.reg 500 Tryz.ntmps45 (by kernel_rfl) ?_
      intro A hA Q hQ
      simp
      refine hQ _ _ ?_
      clear hQ hA
      refine WK.cond2 rfl (fun h => ?_) (fun h => ?_)
      · repeat (refine WK.seq ?_)
        refine WK.reg 600 Tryz.ntmps45 (by kernel_rfl) ?_
        intro A hA Q hQ
        have hg2 : (A[2]?).bind (·.dst) = some 26 := by rw [hA]; rfl
        simp [k, hg2]
        refine hQ _ _ ?_
        clear hQ hA
        refine WK.ret Tryz.func45 (by simp (maxDischargeDepth := 120) [Tryz.results45, numOk, k, e]) (by simp [numOk, k, e])
      · cases h
theorem beN_get (n : Int) (s t : Nat) (h : t < s) : (beN n s).take (t + 1) = (beN n s).take t ++ [BitVec.ofInt 8 (n / 2 ^ (8 * (s - 1 - t)))] := by
  have h' : t < (beN n s).length := by rw [beN_len]; exact h
  rw [List.take_succ_eq_append_getElem h']
  congr 2
  simp [beN]
set_option maxHeartbeats 2000000 in
theorem rput_c (b : List (BitVec 8)) (n : Int) (s : Nat) (hs : Sz s) (hb : b.length ≤ 1000000) : FnO Tryz.prog 38 [byS b, .int .i64 n, .int .i64 s] (putN b n s).length 1 (byL (putN b n s)) := by
  have hr := rright_c n s hs
  have hs4 : s ≤ 4 := by rcases hs with rfl | rfl | rfl <;> omega
  have hs1 : 1 ≤ s := by rcases hs with rfl | rfl | rfl <;> omega
  have hf := by_full b b.length rfl
  have hbd : b.length ≤ 140737488355328 := by omega
  unfold byS
  cases k : numOk n s
  · have e : putN b n s = b := by unfold putN; rw [k]; rfl
    rw [e]
    refine FnO.intro Tryz.func38 rfl rfl fun G w => ?_
    repeat (refine WK.seq ?_)
    refine WK.reg 100 Tryz.ntmps38 (by kernel_rfl) ?_
    intro A hA Q hQ
    simp
    refine hQ _ _ ?_
    clear hQ hA
    repeat (refine WK.seq ?_)
    refine WK.reg 200 Tryz.ntmps38 (by kernel_rfl) ?_
    intro A hA Q hQ
    simp
    refine RunQ.append0 900 901 appByte rfl rfl rfl rfl rfl rfl rfl (by simp [hbd]) (by simp [hbd]) (by simp [hbd]) (by simp [hbd]) (by simp [hbd]) (by simp [hbd]) (by simp) ?_
    refine RunQ.eval ?_
    simp [hbd]
    refine hQ _ _ ?_
    clear hQ hA
    repeat (refine WK.seq ?_)
    refine WK.reg 300 Tryz.ntmps38 (by kernel_rfl) ?_
    intro A hA Q hQ
    simp
    refine RunQ.call rfl rfl rfl rfl (by rfl) (by simp (maxDischargeDepth := 120) [k]) (hr) (by simp [k]) ?_
    refine RunQ.eval ?_
    simp [k]
    refine hQ _ _ ?_
    clear hQ hA
    refine WK.cond2 rfl (fun h => ?_) (fun h => ?_)
    · repeat (refine WK.seq ?_)
      refine WK.reg 400 Tryz.ntmps38 (by kernel_rfl) ?_
      intro A hA Q hQ
      simp
      refine hQ _ _ ?_
      clear hQ hA
      refine WK.retO Tryz.func38 (by rfl) (by rfl) (by simp (maxDischargeDepth := 120) [hf]) (by simp [hf])
    · cases h
  · have e : putN b n s = b ++ beN n s := by unfold putN; rw [k]; rfl
    have hl1 := beN_len n s
    have hz : (beN n s).take 0 = [] := rfl
    have w1 : IntKind.i64.wrap ((s : Int) - 1) = (s : Int) - 1 := wrap_i64 (by omega) (by omega)
    rw [e, List.length_append, hl1]
    refine FnO.intro Tryz.func38 rfl rfl fun G w => ?_
    repeat (refine WK.seq ?_)
    refine WK.reg 100 Tryz.ntmps38 (by kernel_rfl) ?_
    intro A hA Q hQ
    simp
    refine hQ _ _ ?_
    clear hQ hA
    repeat (refine WK.seq ?_)
    refine WK.reg 200 Tryz.ntmps38 (by kernel_rfl) ?_
    intro A hA Q hQ
    simp
    refine RunQ.append0 900 901 appByte rfl rfl rfl rfl rfl rfl rfl (by simp [hbd]) (by simp [hbd]) (by simp [hbd]) (by simp [hbd]) (by simp [hbd]) (by simp [hbd]) (by simp) ?_
    refine RunQ.eval ?_
    simp [hbd]
    refine hQ _ _ ?_
    clear hQ hA
    repeat (refine WK.seq ?_)
    refine WK.reg 300 Tryz.ntmps38 (by kernel_rfl) ?_
    intro A hA Q hQ
    simp
    refine RunQ.call rfl rfl rfl rfl (by rfl) (by simp (maxDischargeDepth := 120) [k]) (hr) (by simp [k]) ?_
    refine RunQ.eval ?_
    simp [k]
    refine hQ _ _ ?_
    clear hQ hA
    refine WK.cond2 rfl (fun h => ?_) (fun h => ?_)
    · cases h
    repeat (first | refine WK.seq ?_ | refine WK.skip ?_)
    refine WK.reg 400 Tryz.ntmps38 (by kernel_rfl) ?_
    intro A hA Q hQ
    simp [w1]
    refine hQ _ _ ?_
    clear hQ hA
    repeat (refine WK.block ?_)
    refine WK.loopI (fun _ => 901) (fun t : Nat => (⟨(upd (upd (upd J 1 (.int .i64 n)) 7 (.msl 1 0 (b.length + t))) 8 (.int .i64 ((s : Int) - 1 - t))), (upd B0 1 (.buf 1 (byL (b ++ (beN n s).take t)))), 0⟩ : St)) (fun t => t ≤ s) (fun t => s - t) (0) (by repeat (first | exact TmW.nil | refine TmW.upd ?_ (by simp (maxDischargeDepth := 120) [hz, hf]))) (by repeat (first | exact BxW.nil | refine BxW.upd ?_ (by simp (maxDischargeDepth := 120) [hz, hf]))) (by first | exact InjW.id | exact InjW.nil | exact InjW.one | exact InjW.two (by simp) | exact InjW.three (by simp) (by simp) (by simp)) (Nat.zero_le _) (fun t ht IHt => ?_)
    repeat (refine WK.seq ?_)
    refine WK.reg 500 Tryz.ntmps38 (by kernel_rfl) ?_
    intro A hA Q hQ
    simp
    refine hQ _ _ ?_
    clear hQ hA
    refine WK.cond2 rfl (fun h1 => ?_) (fun h1 => ?_)
    · simp at h1
      have h2 : t < s := by omega
      obtain ⟨j, hj⟩ : ∃ j, j = s - 1 - t := ⟨_, rfl⟩
      have ej : (s : Int) - 1 - t = (j : Int) := by omega
      have w8 : IntKind.i64.wrap (8 * (j : Int)) = 8 * (j : Int) := wrap_i64 (by omega) (by omega)
      have w9 : IntKind.i64.wrap ((j : Int) - 1) = (s : Int) - 1 - ((t : Int) + 1) := by rw [wrap_i64 (by omega) (by omega)]; omega
      have hsh : bShr .i64 n (8 * (j : Int)) = n / 2 ^ (8 * j) := by
        have := shr_i64 n (8 * j) (by omega)
        rw [← this]; congr 1
      have hnn : ¬ (8 * (j : Int) < 0) := by omega
      have hu := wrap_u8 (n / 2 ^ (8 * j))
      have hg := beN_get n s t h2
      rw [← hj] at hg
      have hs' : byL (b ++ (beN n s).take t) ++ [.int .u8 (bI (BitVec.ofInt 8 (n / 2 ^ (8 * j))))] = byL (b ++ (beN n s).take (t + 1)) := by
        rw [hg, ← byL_one, ← byL_app, List.append_assoc]
      have hL : ((beN n s).take t).length = t := by rw [List.length_take, hl1]; omega
      have hbd2 : b.length + t + 1 ≤ 140737488355328 := by omega
      rw [ej]
      repeat (first | refine WK.seq ?_ | refine WK.block ?_ | refine WK.skip ?_)
      refine WK.reg 600 Tryz.ntmps38 (by kernel_rfl) ?_
      intro A hA Q hQ
      simp [w8, hsh, hnn, hu]
      refine RunQ.append 902 appByte rfl rfl rfl rfl rfl rfl rfl (by simp [hbd2, hL]) rfl (by simp [hbd2, hL]) (by simp [hbd2, hL]) (by simp [hbd2, hL]) (by simp [hbd2, hL]) ?_
      refine RunQ.eval ?_
      simp [hbd2, hL]
      refine hQ _ _ ?_
      clear hQ hA
      repeat (refine WK.inBlock ?_)
      refine WK.reg 700 Tryz.ntmps38 (by kernel_rfl) ?_
      intro A hA Q hQ
      simp [w9]
      refine hQ _ _ ?_
      clear hQ hA
      refine WK.next (fun n => if n = 1 then 902 else n) (IHt (t + 1) (by omega) (by first | omega | (dsimp only; omega))) (by repeat (first | exact TmW.nil | refine TmW.upd ?_ (by simp (maxDischargeDepth := 120) [w9, hs', Nat.add_assoc]))) (by repeat (first | exact BxW.nil | refine BxW.upd ?_ (by simp (maxDischargeDepth := 120) [w9, hs', Nat.add_assoc]))) (by first | exact InjW.id | exact InjW.nil | exact InjW.one | exact InjW.two (by simp) | exact InjW.three (by simp) (by simp) (by simp))
    · simp at h1
      have h2 : t = s := by omega
      have hT : (beN n s).take t = beN n s := by rw [h2]; exact List.take_of_length_le (by omega)
      rw [h2]
      rw [h2] at hT
      rw [hT]
      repeat (first | refine WK.seq ?_ | refine WK.exit rfl ?_)
      refine WK.reg 800 Tryz.ntmps38 (by kernel_rfl) ?_
      intro A hA Q hQ
      simp
      refine hQ _ _ ?_
      clear hQ hA
      refine WK.retO Tryz.func38 (by rfl) (by rfl) (by simp (maxDischargeDepth := 120)) (by simp)
end Go.Proofs.YtiifjagnhnchoaaGreat
end

section
set_option linter.unusedVariables false
set_option linter.unusedSimpArgs false
namespace Go.Proofs.YtiifjagnhnchoaaGreat
open Go Go.AI Go.Proofs

def valN (l : List (BitVec 8)) : Nat := l.foldl (fun n x => n * 256 + x.toNat) 0
theorem valN_snoc (l : List (BitVec 8)) (x : BitVec 8) : valN (l ++ [x]) = valN l * 256 + x.toNat := by simp [valN]
theorem valN_lt : ∀ (k : Nat) (l : List (BitVec 8)), l.length = k → valN l < 256 ^ k
  | 0, l, h => by rw [List.eq_nil_of_length_eq_zero h]; decide
  | k + 1, l, h => by
    have hne : l ≠ [] := by intro e; subst e; simp at h
    rw [← List.dropLast_concat_getLast hne, valN_snoc]
    have := valN_lt k l.dropLast (by rw [List.length_dropLast]; omega)
    have := (l.getLast hne).isLt
    rw [Nat.pow_succ]
    omega
/-- what is got: the number and what is wrong -/
def getN (b : List (BitVec 8)) (p s : Nat) : Int × Int := if p + s ≤ b.length then (valN ((b.drop p).take s), 0) else (0, 3)
theorem valN_le {b : List (BitVec 8)} {p s i : Nat} (hs : s ≤ 4) (hi : i ≤ s) (h : p + s ≤ b.length) : (valN (((b.drop p).take s).take i) : Int) < 4294967296 := by
  have hl : (((b.drop p).take s).take i).length = i := by simp only [List.length_take, List.length_drop]; omega
  have h1 := valN_lt i _ hl
  have h2 : 256 ^ i ≤ 256 ^ 4 := Nat.pow_le_pow_right (by decide) (by omega)
  have h3 : (256 : Nat) ^ 4 = 4294967296 := rfl
  omega
theorem by_get (b : List (BitVec 8)) (i : Nat) (h : i < b.length) (h' : i < (byL b).length) : (byL b)[i] = .int .u8 (bI (nth b i)) := by
  rw [nth_eq h]; simp [byL]
theorem or_byte (n : Nat) (x : BitVec 8) (h : n < 4294967296) : bOr .i64 ((n : Int) * 256) (bI x) = ((n * 256 + x.toNat : Nat) : Int) := by
  have hx := x.isLt
  unfold bOr bI
  show IntKind.wrap .i64 (((BitVec.ofInt 64 ((n : Int) * 256) ||| BitVec.ofInt 64 (x.toNat : Int)).toNat : Nat) : Int) = _
  have e1 : BitVec.ofInt 64 ((n : Int) * 256) = BitVec.ofNat 64 (n * 256) := by
    rw [← BitVec.ofInt_natCast]; congr 1
  have e2 : BitVec.ofInt 64 (x.toNat : Int) = BitVec.ofNat 64 x.toNat := by rw [← BitVec.ofInt_natCast]
  rw [e1, e2, BitVec.toNat_or, BitVec.toNat_ofNat, BitVec.toNat_ofNat, Nat.mod_eq_of_lt (by omega), Nat.mod_eq_of_lt (by omega)]
  have e3 : n * 256 ||| x.toNat = n * 256 + x.toNat := by
    have := Nat.two_pow_add_eq_or_of_lt (i := 8) (b := x.toNat) hx n
    rw [show (2 : Nat) ^ 8 = 256 from rfl, Nat.mul_comm] at this
    exact this.symm
  rw [e3, wrap_i64 (by omega) (by omega)]
theorem shl_byte (n : Nat) (h : n < 4294967296) : bShl .i64 (n : Int) 8 = (n : Int) * 256 := by
  unfold bShl
  show IntKind.wrap .i64 ((n : Int) * 2 ^ 8) = _
  rw [show (2 : Int) ^ 8 = 256 from rfl, wrap_i64 (by omega) (by omega)]
set_option maxHeartbeats 2000000 in
theorem nget_c (b : List (BitVec 8)) (p s : Nat) (hs : Sz s) (hb : b.length ≤ 9223372036854775807) (hp : p ≤ 1000000) :
    FnP Tryz.prog 21 [byS b, .int .i64 p, .int .i64 s] (.tup [.int .i64 (getN b p s).1, .int .i64 (getN b p s).2]) := by
  have hz := sized_c s hs
  have hs4 : s ≤ 4 := by rcases hs with rfl | rfl | rfl <;> omega
  have w1 : IntKind.i64.wrap ((b.length : Int) - p) = (b.length : Int) - p := wrap_i64 (by omega) (by omega)
  have w2 : IntKind.i64.wrap ((p : Int) + s) = ((p + s : Nat) : Int) := by rw [wrap_i64 (by omega) (by omega)]; omega
  unfold byS
  by_cases hle : p + s ≤ b.length
  case neg =>
    have e : getN b p s = (0, 3) := by unfold getN; rw [if_neg hle]
    have d : decide ((b.length : Int) - p < s) = true := decide_eq_true (by omega)
    refine FnP.intro Tryz.func21 rfl rfl fun G w => ?_
    repeat (refine WK.seq ?_)
    refine WK.reg 100 Tryz.ntmps21 (by kernel_rfl) ?_
    intro A hA Q hQ
    simp
    refine hQ _ _ ?_
    clear hQ hA
    repeat (refine WK.seq ?_)
    refine WK.reg 200 Tryz.ntmps21 (by kernel_rfl) ?_
    intro A hA Q hQ
    have hg3 : (A[3]?).bind (·.dst) = some 14 := by rw [hA]; rfl
    simp [hg3]
    refine RunQ.call rfl rfl rfl rfl (by rfl) (by simp (maxDischargeDepth := 120) [hg3]) (hz) (by simp [hg3]) ?_
    refine RunQ.eval ?_
    simp [hg3]
    refine hQ _ _ ?_
    clear hQ hA
    refine WK.cond2 rfl (fun h => ?_) (fun h => ?_)
    · cases h
    repeat (first | refine WK.seq ?_ | refine WK.skip ?_)
    refine WK.reg 300 Tryz.ntmps21 (by kernel_rfl) ?_
    intro A hA Q hQ
    simp [w1, d]
    refine hQ _ _ ?_
    clear hQ hA
    refine WK.cond2 rfl (fun h => ?_) (fun h => ?_)
    · repeat (refine WK.seq ?_)
      refine WK.reg 400 Tryz.ntmps21 (by kernel_rfl) ?_
      intro A hA Q hQ
      simp
      refine hQ _ _ ?_
      clear hQ hA
      refine WK.ret Tryz.func21 (by simp (maxDischargeDepth := 120) [Tryz.results21, e]) (by simp [e])
    · simp at h
  have e : getN b p s = ((valN ((b.drop p).take s) : Int), 0) := by unfold getN; rw [if_pos hle]
  have d : decide ((b.length : Int) - p < s) = false := decide_eq_false (by omega)
  have c1 : (p : Int) ≤ (p : Int) + s := by omega
  have c2 : (p : Int) + s ≤ b.length := by omega
  have c3 : ((p : Int) + s).toNat = p + s := by omega
  have c4 : p + s - p = s := by omega
  have c5 : (0 : Int) ≤ (p : Int) + s := by omega
  obtain ⟨l, hl⟩ : ∃ l, l = (b.drop p).take s := ⟨_, rfl⟩
  have hll : l.length = s := by rw [hl]; simp only [List.length_take, List.length_drop]; omega
  have hsl : ((byL b).drop p).take s = byL l := by rw [byL_drop, byL_take, hl]
  have hv0 : valN [] = 0 := rfl
  rw [← hl] at e
  refine FnP.intro Tryz.func21 rfl rfl fun G w => ?_
  repeat (refine WK.seq ?_)
  refine WK.reg 100 Tryz.ntmps21 (by kernel_rfl) ?_
  intro A hA Q hQ
  simp
  refine hQ _ _ ?_
  clear hQ hA
  repeat (refine WK.seq ?_)
  refine WK.reg 200 Tryz.ntmps21 (by kernel_rfl) ?_
  intro A hA Q hQ
  have hg3 : (A[3]?).bind (·.dst) = some 14 := by rw [hA]; rfl
  simp [hg3]
  refine RunQ.call rfl rfl rfl rfl (by rfl) (by simp (maxDischargeDepth := 120) [hg3]) (hz) (by simp [hg3]) ?_
  refine RunQ.eval ?_
  simp [hg3]
  refine hQ _ _ ?_
  clear hQ hA
  refine WK.cond2 rfl (fun h => ?_) (fun h => ?_)
  · cases h
  repeat (first | refine WK.seq ?_ | refine WK.skip ?_)
  refine WK.reg 300 Tryz.ntmps21 (by kernel_rfl) ?_
  intro A hA Q hQ
  simp [w1, d]
  refine hQ _ _ ?_
  clear hQ hA
  refine WK.cond2 rfl (fun h => ?_) (fun h => ?_)
  · simp at h
  repeat (first | refine WK.seq ?_ | refine WK.skip ?_)
  refine WK.reg 400 Tryz.ntmps21 (by kernel_rfl) ?_
  intro A hA Q hQ
  simp
  refine hQ _ _ ?_
  clear hQ hA
  repeat (refine WK.seq ?_)
  refine WK.reg 500 Tryz.ntmps21 (by kernel_rfl) ?_
  intro A hA Q hQ
  simp [w2, c1, c2, c3, c4, c5, hsl]
  refine hQ _ _ ?_
  clear hQ hA
  repeat (refine WK.block ?_)
  refine WK.loopI (fun n => n) (fun i : Nat => (⟨(upd (upd (upd (upd J 8 (.int .i64 (valN (l.take i)))) 29 (.sl false s (byL l))) 30 (.int .i64 s)) 31 (.int .i64 i)), B0, 0⟩ : St)) (fun i => i ≤ s) (fun i => s - i) (0) (by repeat (first | exact TmW.nil | refine TmW.upd ?_ (by simp (maxDischargeDepth := 120) [hv0]))) (by repeat (first | exact BxW.nil | refine BxW.upd ?_ (by simp (maxDischargeDepth := 120) [hv0]))) (by first | exact InjW.id | exact InjW.nil | exact InjW.one | exact InjW.two (by simp) | exact InjW.three (by simp) (by simp) (by simp)) (Nat.zero_le _) (fun i hi IH => ?_)
  repeat (refine WK.seq ?_)
  refine WK.reg 600 Tryz.ntmps21 (by kernel_rfl) ?_
  intro A hA Q hQ
  simp
  refine hQ _ _ ?_
  clear hQ hA
  repeat (refine WK.seq ?_)
  refine WK.cond2 rfl (fun h1 => ?_) (fun h1 => ?_)
  · simp at h1
    have h2 : i < s := by omega
    have h2' : i < l.length := by omega
    have h6 : IntKind.i64.wrap ((i : Int) + 1) = i + 1 := wrap_i64 (by omega) (by omega)
    have hg := by_get l i h2'
    have hlt := valN_le (b := b) (p := p) hs4 (Nat.le_of_lt h2) hle
    rw [← hl] at hlt
    have hlt' : valN (l.take i) < 4294967296 := by omega
    have o1 := shl_byte _ hlt'
    have o2 := or_byte _ (nth l i) hlt'
    have o3 : valN (l.take (i + 1)) = valN (l.take i) * 256 + (nth l i).toNat := by rw [take_nth h2', valN_snoc]
    rw [← o3] at o2
    have o4 : IntKind.i64.wrap (bI (nth l i)) = bI (nth l i) := by have := bI_lt (nth l i); exact wrap_i64 (by omega) (by omega)
    repeat (first | refine WK.seq ?_ | refine WK.block ?_ | refine WK.skip ?_)
    refine WK.reg 700 Tryz.ntmps21 (by kernel_rfl) ?_
    intro A hA Q hQ
    simp [h2, h2', hll, hg]
    refine hQ _ _ ?_
    clear hQ hA
    refine WK.reg 800 Tryz.ntmps21 (by kernel_rfl) ?_
    intro A hA Q hQ
    simp [o1, o2, o4]
    refine hQ _ _ ?_
    clear hQ hA
    repeat (refine WK.inBlock ?_)
    refine WK.reg 900 Tryz.ntmps21 (by kernel_rfl) ?_
    intro A hA Q hQ
    simp [h6]
    refine hQ _ _ ?_
    clear hQ hA
    refine WK.next (fun n => n) (IH (i + 1) (by omega) (by first | omega | (dsimp only; omega))) (by repeat (first | exact TmW.nil | refine TmW.upd ?_ (by simp (maxDischargeDepth := 120) [h6]))) (by repeat (first | exact BxW.nil | refine BxW.upd ?_ (by simp (maxDischargeDepth := 120) [h6]))) (by first | exact InjW.id | exact InjW.nil | exact InjW.one | exact InjW.two (by simp) | exact InjW.three (by simp) (by simp) (by simp))
  · simp at h1
    have h2 : i = s := by omega
    have hT : l.take i = l := by rw [h2]; exact List.take_of_length_le (by omega)
    rw [hT]
    repeat (first | refine WK.seq ?_ | refine WK.exit rfl ?_)
    refine WK.reg 1000 Tryz.ntmps21 (by kernel_rfl) ?_
    intro A hA Q hQ
    simp
    refine hQ _ _ ?_
    clear hQ hA
    refine WK.ret Tryz.func21 (by simp (maxDischargeDepth := 120) [Tryz.results21, e]) (by simp [e])
end Go.Proofs.YtiifjagnhnchoaaGreat
end

section
set_option linter.unusedVariables false
set_option linter.unusedSimpArgs false
namespace Go.Proofs.YtiifjagnhnchoaaGreat
open Go Go.AI Go.Proofs

def fID (f : Int) : Int := (fRow f).1
def fMasks (f : Int) : Bool := (fRow f).2.2
def fSize (f : Int) : Nat := ((fBits f).toNat + 7) / 8
theorem fRow_ok (f : Int) : (-1 ≤ (fRow f).1 ∧ (fRow f).1 ≤ 34) ∧ 0 ≤ (fRow f).2.1 ∧ (fRow f).2.1 ≤ 128 := by
  unfold fRow
  split
  · have h : f.toNat < fRows.length := by show f.toNat < 24; omega
    have : ∀ r, r ∈ fRows → (-1 ≤ r.1 ∧ r.1 ≤ 34) ∧ 0 ≤ r.2.1 ∧ r.2.1 ≤ 128 := by decide
    exact this _ (nth_mem h)
  · decide
theorem fSize_le (f : Int) : fSize f ≤ 16 := by
  have := fRow_ok f
  unfold fSize fBits; omega
theorem fid_c (f : Int) : FnP Tryz.prog 110 [.int .i64 f] (.int .i64 (fID f)) := by
  refine FnP.intro Tryz.func110 rfl rfl fun G w => ?_
  repeat (refine WK.seq ?_)
  refine WK.reg 100 Tryz.ntmps110 (by kernel_rfl) ?_
  intro A hA Q hQ
  simp
  refine hQ _ _ ?_
  clear hQ hA
  repeat (refine WK.seq ?_)
  refine WK.reg 200 Tryz.ntmps110 (by kernel_rfl) ?_
  intro A hA Q hQ
  simp
  refine RunQ.call rfl rfl rfl rfl (by rfl) (by simp (maxDischargeDepth := 120) [rowEnc]) (fat_c f) (by simp [rowEnc]) ?_
  refine RunQ.eval ?_
  simp [rowEnc]
  refine hQ _ _ ?_
  clear hQ hA
  refine WK.ret Tryz.func110 (by simp (maxDischargeDepth := 120) [Tryz.results110, fID]) (by simp [fID])
theorem fmasks_c (f : Int) : FnP Tryz.prog 121 [.int .i64 f] (.bool (fMasks f)) := by
  refine FnP.intro Tryz.func121 rfl rfl fun G w => ?_
  repeat (refine WK.seq ?_)
  refine WK.reg 100 Tryz.ntmps121 (by kernel_rfl) ?_
  intro A hA Q hQ
  simp
  refine hQ _ _ ?_
  clear hQ hA
  repeat (refine WK.seq ?_)
  refine WK.reg 200 Tryz.ntmps121 (by kernel_rfl) ?_
  intro A hA Q hQ
  simp
  refine RunQ.call rfl rfl rfl rfl (by rfl) (by simp (maxDischargeDepth := 120) [rowEnc]) (fat_c f) (by simp [rowEnc]) ?_
  refine RunQ.eval ?_
  simp [rowEnc]
  refine hQ _ _ ?_
  clear hQ hA
  refine WK.ret Tryz.func121 (by simp (maxDischargeDepth := 120) [Tryz.results121, fMasks]) (by simp [fMasks])
theorem fsize_c (f : Int) : FnP Tryz.prog 88 [.int .i64 f] (.int .i64 (fSize f)) := by
  have h := (fRow_ok f).2
  have h1 : IntKind.i64.wrap ((fRow f).2.1 + 7) = (fRow f).2.1 + 7 := wrap_i64 (by omega) (by omega)
  have h2 : bShr .i64 ((fRow f).2.1 + 7) 3 = fSize f := by
    have := shr_i64 ((fRow f).2.1 + 7) 3 (by omega)
    rw [show ((3 : Nat) : Int) = 3 from rfl] at this
    rw [this, show (2 : Int) ^ 3 = 8 from rfl]
    unfold fSize fBits; omega
  refine FnP.intro Tryz.func88 rfl rfl fun G w => ?_
  repeat (refine WK.seq ?_)
  refine WK.reg 100 Tryz.ntmps88 (by kernel_rfl) ?_
  intro A hA Q hQ
  simp
  refine hQ _ _ ?_
  clear hQ hA
  repeat (refine WK.seq ?_)
  refine WK.reg 200 Tryz.ntmps88 (by kernel_rfl) ?_
  intro A hA Q hQ
  simp
  refine RunQ.call rfl rfl rfl rfl (by rfl) (by simp (maxDischargeDepth := 120) [rowEnc, h1, h2]) (fat_c f) (by simp [rowEnc, h1, h2]) ?_
  refine RunQ.eval ?_
  simp [rowEnc, h1, h2]
  refine hQ _ _ ?_
  clear hQ hA
  refine WK.ret Tryz.func88 (by simp (maxDischargeDepth := 120) [Tryz.results88]) (by simp)
theorem rfid_c (f : Int) : FnP Tryz.prog 113 [.int .i64 f] (.int .i64 (fID f)) := by
  refine FnP.intro Tryz.func113 rfl rfl fun G w => ?_
  repeat (refine WK.seq ?_)
  refine WK.reg 100 Tryz.ntmps113 (by kernel_rfl) ?_
  intro A hA Q hQ
  simp
  refine hQ _ _ ?_
  clear hQ hA
  repeat (refine WK.seq ?_)
  refine WK.reg 200 Tryz.ntmps113 (by kernel_rfl) ?_
  intro A hA Q hQ
  simp
  refine RunQ.call rfl rfl rfl rfl (by rfl) (by simp (maxDischargeDepth := 120)) (rlow_c f) (by simp) ?_
  refine RunQ.eval ?_
  simp
  refine hQ _ _ ?_
  clear hQ hA
  repeat (refine WK.seq ?_)
  refine WK.reg 300 Tryz.ntmps113 (by kernel_rfl) ?_
  intro A hA Q hQ
  simp
  refine hQ _ _ ?_
  clear hQ hA
  refine WK.ret Tryz.func113 (by simp (maxDischargeDepth := 120) [Tryz.results113, fID]) (by simp [fID])
theorem rfmasks_c (f : Int) : FnP Tryz.prog 99 [.int .i64 f] (.bool (fMasks f)) := by
  refine FnP.intro Tryz.func99 rfl rfl fun G w => ?_
  repeat (refine WK.seq ?_)
  refine WK.reg 100 Tryz.ntmps99 (by kernel_rfl) ?_
  intro A hA Q hQ
  simp
  refine hQ _ _ ?_
  clear hQ hA
  repeat (refine WK.seq ?_)
  refine WK.reg 200 Tryz.ntmps99 (by kernel_rfl) ?_
  intro A hA Q hQ
  simp
  refine RunQ.call rfl rfl rfl rfl (by rfl) (by simp (maxDischargeDepth := 120)) (rlow_c f) (by simp) ?_
  refine RunQ.eval ?_
  simp
  refine hQ _ _ ?_
  clear hQ hA
  repeat (refine WK.seq ?_)
  refine WK.reg 300 Tryz.ntmps99 (by kernel_rfl) ?_
  intro A hA Q hQ
  simp
  refine hQ _ _ ?_
  clear hQ hA
  refine WK.ret Tryz.func99 (by simp (maxDischargeDepth := 120) [Tryz.results99, fMasks]) (by simp [fMasks])
theorem rfsize_c (f : Int) : FnP Tryz.prog 98 [.int .i64 f] (.int .i64 (fSize f)) := by
  have h := (fRow_ok f).2
  have h1 : IntKind.i64.wrap (fBits f + 7) = fBits f + 7 := by unfold fBits; exact wrap_i64 (by omega) (by omega)
  have h2 : IntKind.i64.wrap ((fBits f + 7).tdiv 8) = fSize f := by
    rw [Int.tdiv_eq_ediv_of_nonneg (by unfold fBits; omega), wrap_i64 (by unfold fBits; omega) (by unfold fBits; omega)]
    unfold fSize fBits; omega
  refine FnP.intro Tryz.func98 rfl rfl fun G w => ?_
  repeat (refine WK.seq ?_)
  refine WK.reg 100 Tryz.ntmps98 (by kernel_rfl) ?_
  intro A hA Q hQ
  simp
  refine hQ _ _ ?_
  clear hQ hA
  repeat (refine WK.seq ?_)
  refine WK.reg 200 Tryz.ntmps98 (by kernel_rfl) ?_
  intro A hA Q hQ
  simp
  refine RunQ.call rfl rfl rfl rfl (by rfl) (by simp (maxDischargeDepth := 120) [h1, h2]) (rfbits_c f) (by simp [h1, h2]) ?_
  refine RunQ.eval ?_
  simp [h1, h2]
  refine hQ _ _ ?_
  clear hQ hA
  refine WK.ret Tryz.func98 (by simp (maxDischargeDepth := 120) [Tryz.results98]) (by simp)
/-- the first field of a number -/
def fIndexN (id : Int) (n : Nat) : Option Nat := (List.range n).find? fun f => (nth fRows f).1 == id
def fIndex (id : Int) : Int × Bool := match fIndexN id 24 with | some f => (f, true) | none => (0, false)
theorem fIndex_some {id : Int} {n : Nat} (hn : n < 24) (h : ∀ j, j < n → ((nth fRows j).1 == id) = false) (he : ((nth fRows n).1 == id) = true) : fIndex id = ((n : Int), true) := by
  unfold fIndex fIndexN
  have : (List.range 24).find? (fun f => (nth fRows f).1 == id) = some n := by
    rw [List.find?_range_eq_some]
    exact ⟨he, List.mem_range.2 hn, fun j hj => by rw [h j hj]; rfl⟩
  rw [this]
theorem fIndex_none {id : Int} (h : ∀ j, j < 24 → ((nth fRows j).1 == id) = false) : fIndex id = (0, false) := by
  unfold fIndex fIndexN
  have : (List.range 24).find? (fun f => (nth fRows f).1 == id) = none := by
    rw [List.find?_eq_none]; intro j hj; rw [h j (List.mem_range.1 hj)]; simp
  rw [this]
theorem fRow_nat (i : Nat) (h : i < 24) : fRow i = nth fRows i := by unfold fRow; rw [if_pos (by omega)]; rfl
theorem rowsC_cl : ClL rowsC = true := ClL_flatMap _ rowEnc_cl _
theorem findex_c (id : Int) : FnP Tryz.prog 120 [.int .i64 id] (.tup [.int .i64 (fIndex id).1, .bool (fIndex id).2]) := by
  refine FnP.intro Tryz.func120 rfl rfl fun G w => ?_
  repeat (refine WK.seq ?_)
  refine WK.reg 100 Tryz.ntmps120 (by kernel_rfl) ?_
  intro A hA Q hQ
  simp
  refine hQ _ _ ?_
  clear hQ hA
  repeat (refine WK.seq ?_)
  refine WK.reg 200 Tryz.ntmps120 (by kernel_rfl) ?_
  intro A hA Q hQ
  simp
  refine RunQ.call rfl rfl rfl rfl (by rfl) (by simp (maxDischargeDepth := 120)) (rows_c) (by simp) ?_
  refine RunQ.eval ?_
  simp
  refine hQ _ _ ?_
  clear hQ hA
  repeat (refine WK.block ?_)
  refine WK.loopI (fun n => n) (fun i : Nat => (⟨(upd (upd (upd J 0 (.int .i64 id)) 6 (.agg rowsC)) 7 (.int .i64 i)), B0, 0⟩ : St)) (fun i => i ≤ 24 ∧ ∀ j, j < i → ((nth fRows j).1 == id) = false) (fun i => 24 - i) (0) (by repeat (first | exact TmW.nil | refine TmW.upd ?_ (by simp (maxDischargeDepth := 120) [rowsC_cl]))) (by repeat (first | exact BxW.nil | refine BxW.upd ?_ (by simp (maxDischargeDepth := 120) [rowsC_cl]))) (by first | exact InjW.id | exact InjW.nil | exact InjW.one | exact InjW.two (by simp) | exact InjW.three (by simp) (by simp) (by simp)) (⟨by omega, by simp⟩) (fun i hi IH => ?_)
  repeat (refine WK.seq ?_)
  refine WK.reg 300 Tryz.ntmps120 (by kernel_rfl) ?_
  intro A hA Q hQ
  simp
  refine hQ _ _ ?_
  clear hQ hA
  repeat (refine WK.seq ?_)
  refine WK.cond2 rfl (fun h1 => ?_) (fun h1 => ?_)
  · simp at h1
    have h2 : i < 24 := by omega
    have h2' : (i : Int) < 24 := by omega
    have h3 : i * 4 + 4 ≤ 96 := by omega
    have h4 := row_sub i ⟨by omega, by omega⟩
    rw [Int.toNat_natCast, fRow_nat i h2] at h4
    have h6 : IntKind.i64.wrap ((i : Int) + 1) = i + 1 := wrap_i64 (by omega) (by omega)
    repeat (first | refine WK.seq ?_ | refine WK.block ?_ | refine WK.skip ?_)
    refine WK.reg 400 Tryz.ntmps120 (by kernel_rfl) ?_
    intro A hA Q hQ
    simp [h2, h2', h3, h4, rowEnc]
    refine hQ _ _ ?_
    clear hQ hA
    repeat (refine WK.seq ?_)
    refine WK.reg 500 Tryz.ntmps120 (by kernel_rfl) ?_
    intro A hA Q hQ
    simp
    refine hQ _ _ ?_
    clear hQ hA
    refine WK.cond2 rfl (fun h5 => ?_) (fun h5 => ?_)
    · have e := fIndex_some h2 hi.2 h5
      repeat (refine WK.seq ?_)
      refine WK.reg 600 Tryz.ntmps120 (by kernel_rfl) ?_
      intro A hA Q hQ
      simp
      refine hQ _ _ ?_
      clear hQ hA
      refine WK.ret Tryz.func120 (by simp (maxDischargeDepth := 120) [Tryz.results120, e]) (by simp [e])
    · repeat (first | refine WK.inBlock ?_ | refine WK.skip ?_)
      refine WK.reg 700 Tryz.ntmps120 (by kernel_rfl) ?_
      intro A hA Q hQ
      simp [h6]
      refine hQ _ _ ?_
      clear hQ hA
      refine WK.next (fun n => n) (IH (i + 1) (⟨by omega, fun j hj => by by_cases h7 : j = i; (subst h7; exact h5); exact hi.2 j (by omega)⟩) (by first | omega | (dsimp only; omega))) (by repeat (first | exact TmW.nil | refine TmW.upd ?_ (by simp (maxDischargeDepth := 120) [h6, rowsC_cl]))) (by repeat (first | exact BxW.nil | refine BxW.upd ?_ (by simp (maxDischargeDepth := 120) [h6, rowsC_cl]))) (by first | exact InjW.id | exact InjW.nil | exact InjW.one | exact InjW.two (by simp) | exact InjW.three (by simp) (by simp) (by simp))
  · simp at h1
    have e := fIndex_none (id := id) (fun j hj => hi.2 j (by omega))
    repeat (first | refine WK.seq ?_ | refine WK.exit rfl ?_)
    refine WK.reg 800 Tryz.ntmps120 (by kernel_rfl) ?_
    intro A hA Q hQ
    simp
    refine hQ _ _ ?_
    clear hQ hA
    refine WK.ret Tryz.func120 (by simp (maxDischargeDepth := 120) [Tryz.results120, e]) (by simp [e])
end Go.Proofs.YtiifjagnhnchoaaGreat
end

section
set_option linter.unusedVariables false
set_option linter.unusedSimpArgs false
namespace Go.Proofs.YtiifjagnhnchoaaGreat
open Go Go.AI Go.Proofs

/-- eight bits of a number -/
def hb (x : BitVec 64) (k : Nat) : BitVec 8 := (x >>> k).setWidth 8
theorem wrap_u8u (x : BitVec 64) : IntKind.wrap .u8 (uI x) = bI (x.setWidth 8) := by
  rw [wrap_u8, bI_of]; unfold bI uI; rw [BitVec.toNat_setWidth]; omega
theorem shr_uI (x : BitVec 64) (k : Nat) (hk : k ≤ 64) : bShr .u64 (uI x) k = uI (x >>> k) := by
  unfold bShr
  have : min (Int.toNat (k : Int)) (IntKind.bits .u64) = k := by show min (Int.toNat (k : Int)) 64 = k; omega
  rw [this, Int.fdiv_eq_ediv_of_nonneg _ (by exact Int.le_of_lt (Int.pow_pos (by decide)))]
  unfold uI
  rw [BitVec.toNat_ushiftRight, Nat.shiftRight_eq_div_pow]
  simp
theorem by_set (l : List (BitVec 8)) (i : Nat) (v : BitVec 8) (h : i < l.length) : (byL l).take i ++ .int .u8 (bI v) :: (byL l).drop (i + 1) = byL (l.set i v) := by
  unfold byL
  rw [List.map_set, List.set_eq_take_append_cons_drop]
  simp [h]
def wBytes (a : Wide) : List (BitVec 8) := (List.range 16).map fun j => if j < 8 then hb a.hi (56 - 8 * j) else hb a.lo (56 - 8 * (j - 8))
def wAt (a : Wide) (i : Nat) : List (BitVec 8) := (List.range 16).map fun j => if j < 8 then (if j < i then hb a.hi (56 - 8 * j) else 0#8) else (if j - 8 < i then hb a.lo (56 - 8 * (j - 8)) else 0#8)
theorem wAt_len (a : Wide) (i : Nat) : (wAt a i).length = 16 := by simp [wAt]
theorem wAt_zero (a : Wide) : byL (wAt a 0) = List.replicate 16 (.int .u8 0) := rfl
theorem wAt_eight (a : Wide) : wAt a 8 = wBytes a := rfl
theorem wAt_succ (a : Wide) (i : Nat) (h : i < 8) : ((wAt a i).set i (hb a.hi (56 - 8 * i))).set (8 + i) (hb a.lo (56 - 8 * i)) = wAt a (i + 1) := by
  match i, h with
  | 0, _ => rfl
  | 1, _ => rfl
  | 2, _ => rfl
  | 3, _ => rfl
  | 4, _ => rfl
  | 5, _ => rfl
  | 6, _ => rfl
  | 7, _ => rfl
def wPut (b : List (BitVec 8)) (a : Wide) (s : Nat) : List (BitVec 8) := b ++ (wBytes a).drop (16 - s)
theorem wBytes_len (a : Wide) : (wBytes a).length = 16 := by simp [wBytes]
theorem wPut_len (b : List (BitVec 8)) (a : Wide) (s : Nat) (h : s ≤ 16) : (wPut b a s).length = b.length + s := by simp [wPut, wBytes_len]; omega
set_option maxHeartbeats 4000000 in
theorem wput_c (b : List (BitVec 8)) (a : Wide) (s : Nat) (hs : s ≤ 16) (hb' : b.length ≤ 1000000) : FnO Tryz.prog 32 [byS b, .agg a.enc, .int .i64 s] (wPut b a s).length 1 (byL (wPut b a s)) := by
  have hf := by_full b b.length rfl
  have hbd : b.length ≤ 140737488355328 := by omega
  have hz := wAt_zero a
  rw [wPut_len b a s hs]
  unfold byS
  refine FnO.intro Tryz.func32 rfl rfl fun G w => ?_
  repeat (refine WK.seq ?_)
  refine WK.reg 100 Tryz.ntmps32 (by kernel_rfl) ?_
  intro A hA Q hQ
  simp
  refine hQ _ _ ?_
  clear hQ hA
  repeat (refine WK.seq ?_)
  refine WK.ghost (Ghost.frzVar 4 rfl rfl) ?_
  refine WK.reg 200 Tryz.ntmps32 (by kernel_rfl) ?_
  intro A hA Q hQ
  simp
  refine hQ _ _ ?_
  clear hQ hA
  repeat (refine WK.seq ?_)
  refine WK.reg 300 Tryz.ntmps32 (by kernel_rfl) ?_
  intro A hA Q hQ
  simp
  refine hQ _ _ ?_
  clear hQ hA
  repeat (refine WK.block ?_)
  refine WK.loopI (fun _ => 100) (fun i : Nat => (⟨(upd (upd (upd (upd (upd J 0 (.sl false b.length (byL b))) 2 (.int .i64 s)) 4 (.iptr a.enc)) 7 (.ptr 1 0)) 10 (.int .i64 i)), (upd B0 1 (.var (byL (wAt a i)))), 0⟩ : St)) (fun i => i ≤ 8) (fun i => 8 - i) (0) (by repeat (first | exact TmW.nil | refine TmW.upd ?_ (by simp (maxDischargeDepth := 120) [hz]))) (by repeat (first | exact BxW.nil | refine BxW.upd ?_ (by simp (maxDischargeDepth := 120) [hz]))) (by first | exact InjW.id | exact InjW.nil | exact InjW.one | exact InjW.two (by simp) | exact InjW.three (by simp) (by simp) (by simp)) (by omega) (fun i hi IH => ?_)
  repeat (refine WK.seq ?_)
  refine WK.reg 400 Tryz.ntmps32 (by kernel_rfl) ?_
  intro A hA Q hQ
  simp
  refine hQ _ _ ?_
  clear hQ hA
  repeat (refine WK.seq ?_)
  refine WK.cond2 rfl (fun h1 => ?_) (fun h1 => ?_)
  · simp at h1
    have h2 : i < 8 := by omega
    have h2' : (i : Int) < 16 := by omega
    have h6 : IntKind.i64.wrap ((i : Int) + 1) = i + 1 := wrap_i64 (by omega) (by omega)
    have m0 : IntKind.i64.wrap (8 + (i : Int)) = 8 + (i : Int) := wrap_i64 (by omega) (by omega)
    have m1 : IntKind.i64.wrap (8 * (i : Int)) = 8 * (i : Int) := wrap_i64 (by omega) (by omega)
    have m2 : IntKind.i64.wrap (56 - 8 * (i : Int)) = ((56 - 8 * i : Nat) : Int) := by rw [wrap_i64 (by omega) (by omega)]; omega
    have hsu := wAt_succ a i h2
    obtain ⟨q, hq⟩ : ∃ q, q = 56 - 8 * i := ⟨_, rfl⟩
    rw [← hq] at m2 hsu
    have m3 := shr_uI a.hi q (by omega)
    have m4 := shr_uI a.lo q (by omega)
    have m5 : IntKind.wrap .u8 (uI (a.hi >>> q)) = bI (hb a.hi q) := wrap_u8u _
    have m6 : IntKind.wrap .u8 (uI (a.lo >>> q)) = bI (hb a.lo q) := wrap_u8u _
    have hl := wAt_len a i
    have s1 := by_set (wAt a i) i (hb a.hi q) (by omega)
    have s2 := by_set ((wAt a i).set i (hb a.hi q)) (8 + i) (hb a.lo q) (by rw [List.length_set]; omega)
    rw [hsu] at s2
    have c1 : (8 : Int) + i < 16 := by omega
    have c2 : ((8 : Int) + i).toNat = 8 + i := by omega
    have c3 : (0 : Int) ≤ 8 + (i : Int) := by omega
    have m7 : ¬ (q : Int) < 0 := by omega
    have c4 : i + 1 ≤ 16 := by omega
    have c5 : 8 + i + 1 ≤ 16 := by omega
    repeat (first | refine WK.seq ?_ | refine WK.block ?_ | refine WK.skip ?_)
    refine WK.reg 500 Tryz.ntmps32 (by kernel_rfl) ?_
    intro A hA Q hQ
    simp
    refine hQ _ _ ?_
    clear hQ hA
    refine WK.regD 600 (clsM [(16, 77), (23, 77), (30, 1), (31, 1)]) (by kernel_rfl) Tryz.ntmps32 (by kernel_rfl) (by kernel_rfl) ?_
    intro A hA Q hQ
    simp [Wide.enc, m0, m1, m2, m3, m4, m5, m6, m7, h2, h2', hl, s1, s2, c1, c2, c3, c4, c5]
    refine hQ _ _ ?_
    clear hQ hA
    repeat (refine WK.inBlock ?_)
    refine WK.reg 700 Tryz.ntmps32 (by kernel_rfl) ?_
    intro A hA Q hQ
    simp [h6]
    refine hQ _ _ ?_
    clear hQ hA
    refine WK.next (fun n => n) (IH (i + 1) (by omega) (by first | omega | (dsimp only; omega))) (by repeat (first | exact TmW.nil | refine TmW.upd ?_ (by simp (maxDischargeDepth := 120) [h6, Wide.enc]))) (by repeat (first | exact BxW.nil | refine BxW.upd ?_ (by simp (maxDischargeDepth := 120) [h6, Wide.enc]))) (by first | exact InjW.id | exact InjW.nil | exact InjW.one | exact InjW.two (by simp) | exact InjW.three (by simp) (by simp) (by simp))
  · simp at h1
    have hi8 : i = 8 := by omega
    subst hi8
    rw [wAt_eight]
    repeat (first | refine WK.seq ?_ | refine WK.exit rfl ?_)
    refine WK.ghost (Ghost.frzVar 7 rfl rfl) ?_
    refine WK.reg 800 Tryz.ntmps32 (by kernel_rfl) ?_
    intro A hA Q hQ
    simp
    refine RunQ.append0 900 901 appByte rfl rfl rfl rfl rfl rfl rfl (by simp [hbd]) (by simp [hbd]) (by simp [hbd]) (by simp [hbd]) (by simp [hbd]) (by simp [hbd]) (by simp) ?_
    refine RunQ.eval ?_
    simp [hbd]
    refine hQ _ _ ?_
    clear hQ hA
    obtain ⟨q, hq⟩ : ∃ q, q = 16 - s := ⟨_, rfl⟩
    have mx : ¬ (s : Int) < 0 := by omega
    have mn : ¬ (16 : Int) < s := by omega
    have m1 : IntKind.i64.wrap (16 - (s : Int)) = (q : Int) := by rw [wrap_i64 (by omega) (by omega)]; omega
    have m2 : (q : Int) ≤ 16 := by omega
    have m3 : 16 - q = s := by omega
    have hwl := wBytes_len a
    have hdl : ((wBytes a).drop q).length = s := by rw [List.length_drop, hwl]; omega
    have m5 : (byL (wBytes a)).drop q = byL ((wBytes a).drop q) := byL_drop _ _
    have m6 : (byL ((wBytes a).drop q)).take s = byL ((wBytes a).drop q) := by_full _ _ hdl.symm
    have e : wPut b a s = b ++ (wBytes a).drop q := by unfold wPut; rw [hq]
    have hbd2 : b.length + s ≤ 140737488355328 := by omega
    rw [e, hf]
    repeat (refine WK.seq ?_)
    refine WK.reg 900 Tryz.ntmps32 (by kernel_rfl) ?_
    intro A hA Q hQ
    simp [mx, mn, m1, m2, m3, m5, m6]
    refine RunQ.append 902 appByte rfl rfl rfl rfl rfl rfl rfl (by simp [hbd2, hdl, m6]) rfl (by simp [hbd2, hdl, m6]) (by simp [hbd2, hdl, m6]) (by simp [hbd2, hdl, m6]) (by simp [hbd2, hdl, m6]) ?_
    refine RunQ.eval ?_
    simp [hbd2, hdl, m6]
    refine hQ _ _ ?_
    clear hQ hA
    refine WK.retO Tryz.func32 (by rfl) (by rfl) (by simp (maxDischargeDepth := 120) [byL_app, m6]) (by simp [byL_app, m6])
end Go.Proofs.YtiifjagnhnchoaaGreat
end

section
set_option linter.unusedVariables false
set_option linter.unusedSimpArgs false
namespace Go.Proofs.YtiifjagnhnchoaaGreat
open Go Go.AI Go.Proofs

theorem wrap_u64n {n : Int} (h : 0 ≤ n) (h' : n < 9223372036854775808) : IntKind.wrap .u64 n = n := by
  unfold IntKind.wrap
  show (if (false && decide (n % 18446744073709551616 ≥ 9223372036854775808)) = true then n % 18446744073709551616 - 18446744073709551616 else n % 18446744073709551616) = n
  rw [Bool.false_and, if_neg Bool.false_ne_true]
  exact Int.emod_eq_of_lt h (by omega)
def partW (a : Wide) (i : Nat) : BitVec 8 := if i < 8 then hb a.lo (8 * i) else hb a.hi (8 * (i - 8))
theorem part_c (a : Wide) (i : Nat) (hi : i < 16) : FnP Tryz.prog 75 [.agg a.enc, .int .i64 i] (.int .u8 (bI (partW a i))) := by
  by_cases h8 : i < 8
  · have e : partW a i = hb a.lo (8 * i) := by unfold partW; rw [if_pos h8]
    obtain ⟨q, hq⟩ : ∃ q, q = 8 * i := ⟨_, rfl⟩
    rw [← hq] at e
    have m1 : IntKind.i64.wrap (8 * (i : Int)) = (q : Int) := by rw [wrap_i64 (by omega) (by omega)]; omega
    have m2 : IntKind.u64.wrap (q : Int) = q := wrap_u64n (by omega) (by omega)
    have m3 := shr_uI a.lo q (by omega)
    have m4 : IntKind.wrap .u8 (uI (a.lo >>> q)) = bI (hb a.lo q) := wrap_u8u _
    have m7 : ¬ (q : Int) < 0 := by omega
    refine FnP.intro Tryz.func75 rfl rfl fun G w => ?_
    repeat (refine WK.seq ?_)
    refine WK.reg 100 Tryz.ntmps75 (by kernel_rfl) ?_
    intro A hA Q hQ
    simp
    refine hQ _ _ ?_
    clear hQ hA
    repeat (refine WK.seq ?_)
    refine WK.ghost (Ghost.frzVar 2 rfl rfl) ?_
    refine WK.reg 200 Tryz.ntmps75 (by kernel_rfl) ?_
    intro A hA Q hQ
    simp
    refine hQ _ _ ?_
    clear hQ hA
    refine WK.cond2 rfl (fun h => ?_) (fun h => ?_)
    · repeat (refine WK.seq ?_)
      refine WK.reg 300 Tryz.ntmps75 (by kernel_rfl) ?_
      intro A hA Q hQ
      simp [Wide.enc, m1, m2, m3, m4, m7]
      refine hQ _ _ ?_
      clear hQ hA
      refine WK.ret Tryz.func75 (by simp (maxDischargeDepth := 120) [Tryz.results75, e]) (by simp [e])
    · simp at h; omega
  · have e : partW a i = hb a.hi (8 * (i - 8)) := by unfold partW; rw [if_neg h8]
    obtain ⟨q, hq⟩ : ∃ q, q = 8 * (i - 8) := ⟨_, rfl⟩
    rw [← hq] at e
    have m0 : IntKind.i64.wrap ((i : Int) - 8) = ((i - 8 : Nat) : Int) := by rw [wrap_i64 (by omega) (by omega)]; omega
    obtain ⟨i8, hi8⟩ : ∃ i8, i8 = i - 8 := ⟨_, rfl⟩
    rw [← hi8] at m0
    have m1 : IntKind.i64.wrap (8 * (i8 : Int)) = (q : Int) := by rw [wrap_i64 (by omega) (by omega)]; omega
    have m2 : IntKind.u64.wrap (q : Int) = q := wrap_u64n (by omega) (by omega)
    have m3 := shr_uI a.hi q (by omega)
    have m4 : IntKind.wrap .u8 (uI (a.hi >>> q)) = bI (hb a.hi q) := wrap_u8u _
    have m7 : ¬ (q : Int) < 0 := by omega
    refine FnP.intro Tryz.func75 rfl rfl fun G w => ?_
    repeat (refine WK.seq ?_)
    refine WK.reg 100 Tryz.ntmps75 (by kernel_rfl) ?_
    intro A hA Q hQ
    simp
    refine hQ _ _ ?_
    clear hQ hA
    repeat (refine WK.seq ?_)
    refine WK.ghost (Ghost.frzVar 2 rfl rfl) ?_
    refine WK.reg 200 Tryz.ntmps75 (by kernel_rfl) ?_
    intro A hA Q hQ
    simp
    refine hQ _ _ ?_
    clear hQ hA
    refine WK.cond2 rfl (fun h => ?_) (fun h => ?_)
    · simp at h; omega
    · repeat (first | refine WK.seq ?_ | refine WK.skip ?_)
      refine WK.reg 300 Tryz.ntmps75 (by kernel_rfl) ?_
      intro A hA Q hQ
      simp [Wide.enc, m0, m1, m2, m3, m4, m7]
      refine hQ _ _ ?_
      clear hQ hA
      refine WK.ret Tryz.func75 (by simp (maxDischargeDepth := 120) [Tryz.results75, e]) (by simp [e])
theorem wB_get (a : Wide) (s t : Nat) (hs : s ≤ 16) (ht : t < s) : ((wBytes a).drop (16 - s)).take (t + 1) = ((wBytes a).drop (16 - s)).take t ++ [partW a (s - 1 - t)] := by
  have h' : t < ((wBytes a).drop (16 - s)).length := by rw [List.length_drop, wBytes_len]; omega
  rw [List.take_succ_eq_append_getElem h']
  congr 2
  simp only [List.getElem_drop, wBytes, List.getElem_map, List.getElem_range, partW]
  by_cases h8 : 16 - s + t < 8
  · rw [if_pos h8, if_neg (by omega)]; congr 1; omega
  · rw [if_neg h8, if_pos (by omega)]; congr 1; omega
set_option maxHeartbeats 2000000 in
theorem rwput_c (b : List (BitVec 8)) (a : Wide) (s : Nat) (hs : s ≤ 16) (hb' : b.length ≤ 1000000) : FnO Tryz.prog 37 [byS b, .agg a.enc, .int .i64 s] (wPut b a s).length 1 (byL (wPut b a s)) := by
  have hf := by_full b b.length rfl
  have hbd : b.length ≤ 140737488355328 := by omega
  obtain ⟨X, hX⟩ : ∃ X, X = (wBytes a).drop (16 - s) := ⟨_, rfl⟩
  have hXl : X.length = s := by rw [hX, List.length_drop, wBytes_len]; omega
  have e : wPut b a s = b ++ X := by unfold wPut; rw [hX]
  have hz : X.take 0 = [] := rfl
  have mx : ¬ (s : Int) < 0 := by omega
  have mn : ¬ (16 : Int) < s := by omega
  have w1 : IntKind.i64.wrap ((s : Int) - 1) = (s : Int) - 1 := wrap_i64 (by omega) (by omega)
  rw [wPut_len b a s hs, e]
  unfold byS
  refine FnO.intro Tryz.func37 rfl rfl fun G w => ?_
  repeat (refine WK.seq ?_)
  refine WK.reg 100 Tryz.ntmps37 (by kernel_rfl) ?_
  intro A hA Q hQ
  simp
  refine hQ _ _ ?_
  clear hQ hA
  repeat (refine WK.seq ?_)
  refine WK.ghost (Ghost.frzVar 4 rfl rfl) ?_
  refine WK.reg 200 Tryz.ntmps37 (by kernel_rfl) ?_
  intro A hA Q hQ
  simp
  refine RunQ.append0 900 901 appByte rfl rfl rfl rfl rfl rfl rfl (by simp [hbd]) (by simp [hbd]) (by simp [hbd]) (by simp [hbd]) (by simp [hbd]) (by simp [hbd]) (by simp) ?_
  refine RunQ.eval ?_
  simp [hbd]
  refine hQ _ _ ?_
  clear hQ hA
  repeat (refine WK.seq ?_)
  refine WK.reg 300 Tryz.ntmps37 (by kernel_rfl) ?_
  intro A hA Q hQ
  simp [mx, mn, w1]
  refine hQ _ _ ?_
  clear hQ hA
  repeat (refine WK.block ?_)
  refine WK.loopI (fun _ => 901) (fun t : Nat => (⟨(upd (upd (upd J 4 (.iptr a.enc)) 7 (.msl 1 0 (b.length + t))) 8 (.int .i64 ((s : Int) - 1 - t))), (upd B0 1 (.buf 1 (byL (b ++ X.take t)))), 0⟩ : St)) (fun t => t ≤ s) (fun t => s - t) (0) (by repeat (first | exact TmW.nil | refine TmW.upd ?_ (by simp (maxDischargeDepth := 120) [hz, hf]))) (by repeat (first | exact BxW.nil | refine BxW.upd ?_ (by simp (maxDischargeDepth := 120) [hz, hf]))) (by first | exact InjW.id | exact InjW.nil | exact InjW.one | exact InjW.two (by simp) | exact InjW.three (by simp) (by simp) (by simp)) (Nat.zero_le _) (fun t ht IHt => ?_)
  repeat (refine WK.seq ?_)
  refine WK.reg 400 Tryz.ntmps37 (by kernel_rfl) ?_
  intro A hA Q hQ
  simp
  refine hQ _ _ ?_
  clear hQ hA
  refine WK.cond2 rfl (fun h1 => ?_) (fun h1 => ?_)
  · simp at h1
    have h2 : t < s := by omega
    have hg := wB_get a s t hs h2
    rw [← hX] at hg
    obtain ⟨j, hj⟩ : ∃ j, j = s - 1 - t := ⟨_, rfl⟩
    rw [← hj] at hg
    have ej : (s : Int) - 1 - t = (j : Int) := by omega
    have w9 : IntKind.i64.wrap ((j : Int) - 1) = (s : Int) - 1 - ((t : Int) + 1) := by rw [wrap_i64 (by omega) (by omega)]; omega
    have hs' : byL (b ++ X.take t) ++ [.int .u8 (bI (partW a j))] = byL (b ++ X.take (t + 1)) := by
      rw [hg, ← byL_one, ← byL_app, List.append_assoc]
    have hL : (X.take t).length = t := by rw [List.length_take, hXl]; omega
    have hbd2 : b.length + t + 1 ≤ 140737488355328 := by omega
    rw [ej]
    repeat (first | refine WK.seq ?_ | refine WK.block ?_ | refine WK.skip ?_)
    refine WK.reg 500 Tryz.ntmps37 (by kernel_rfl) ?_
    intro A hA Q hQ
    simp [Wide.enc]
    refine RunQ.call rfl rfl rfl rfl (by rfl) (by simp (maxDischargeDepth := 120) [Wide.enc]) (part_c a j (by omega)) (by simp [Wide.enc]) ?_
    refine RunQ.eval ?_
    simp [Wide.enc]
    refine RunQ.append 902 appByte rfl rfl rfl rfl rfl rfl rfl (by simp [hbd2, hL]) rfl (by simp [hbd2, hL]) (by simp [hbd2, hL]) (by simp [hbd2, hL]) (by simp [hbd2, hL]) ?_
    refine RunQ.eval ?_
    simp [hbd2, hL]
    refine hQ _ _ ?_
    clear hQ hA
    repeat (refine WK.inBlock ?_)
    refine WK.reg 600 Tryz.ntmps37 (by kernel_rfl) ?_
    intro A hA Q hQ
    simp [w9]
    refine hQ _ _ ?_
    clear hQ hA
    refine WK.next (fun n => if n = 1 then 902 else n) (IHt (t + 1) (by omega) (by first | omega | (dsimp only; omega))) (by repeat (first | exact TmW.nil | refine TmW.upd ?_ (by simp (maxDischargeDepth := 120) [w9, hs', Nat.add_assoc, Wide.enc]))) (by repeat (first | exact BxW.nil | refine BxW.upd ?_ (by simp (maxDischargeDepth := 120) [w9, hs', Nat.add_assoc, Wide.enc]))) (by first | exact InjW.id | exact InjW.nil | exact InjW.one | exact InjW.two (by simp) | exact InjW.three (by simp) (by simp) (by simp))
  · simp at h1
    have h2 : t = s := by omega
    have hT : X.take t = X := by rw [h2]; exact List.take_of_length_le (by omega)
    rw [h2]
    rw [h2] at hT
    rw [hT]
    repeat (first | refine WK.seq ?_ | refine WK.exit rfl ?_)
    refine WK.reg 700 Tryz.ntmps37 (by kernel_rfl) ?_
    intro A hA Q hQ
    simp
    refine hQ _ _ ?_
    clear hQ hA
    refine WK.retO Tryz.func37 (by rfl) (by rfl) (by simp (maxDischargeDepth := 120)) (by simp)
def wStep (a : Wide) (x : BitVec 8) : Wide := ⟨(a.hi <<< 8) ||| (a.lo >>> 56), (a.lo <<< 8) ||| x.setWidth 64⟩
def wVal (l : List (BitVec 8)) : Wide := l.foldl wStep wideZ
theorem wVal_snoc (l : List (BitVec 8)) (x : BitVec 8) : wVal (l ++ [x]) = wStep (wVal l) x := by simp [wVal]
def wGet (b : List (BitVec 8)) (s : Nat) : Wide × Bool := if s ≤ b.length then (wVal (b.take s), true) else (wideZ, false)
theorem shl_uI (x : BitVec 64) : bShl .u64 (uI x) 8 = uI (x <<< 8) := by
  unfold bShl
  show IntKind.wrap .u64 (uI x * 2 ^ 8) = _
  unfold IntKind.wrap uI
  show (if (false && decide (((x.toNat : Int) * 2 ^ 8) % 18446744073709551616 ≥ 9223372036854775808)) = true then _ else ((x.toNat : Int) * 2 ^ 8) % 18446744073709551616) = _
  rw [Bool.false_and, if_neg Bool.false_ne_true, BitVec.toNat_shiftLeft, Nat.shiftLeft_eq]
  omega
theorem cvt_u64 (x : BitVec 8) : IntKind.wrap .u64 (bI x) = uI (x.setWidth 64) := by
  have hx := x.isLt
  rw [wrap_u64n (by unfold bI; omega) (by unfold bI; omega)]
  unfold bI uI
  rw [BitVec.toNat_setWidth]; omega
set_option maxHeartbeats 2000000 in
theorem wget_c (b : List (BitVec 8)) (s : Nat) (hs : s ≤ 16) (hb' : b.length ≤ 9223372036854775807) : FnP Tryz.prog 19 [byS b, .int .i64 s] (.tup [.agg (wGet b s).1.enc, .bool (wGet b s).2]) := by
  have mx : ¬ (s : Int) < 0 := by omega
  have h56 : ∀ x, bShr .u64 (uI x) 56 = uI (x >>> 56) := fun x => shr_uI x 56 (by omega)
  have h8 := shl_uI
  have hcv := cvt_u64
  unfold byS
  by_cases hle : s ≤ b.length
  case neg =>
    have e : wGet b s = (wideZ, false) := by unfold wGet; rw [if_neg hle]
    have m1 : ¬ (16 : Int) < b.length := by omega
    have m2 : (b.length : Int) < s := by omega
    have m3 : b.length < s := by omega
    refine FnP.intro Tryz.func19 rfl rfl fun G w => ?_
    repeat (refine WK.seq ?_)
    refine WK.reg 100 Tryz.ntmps19 (by kernel_rfl) ?_
    intro A hA Q hQ
    simp
    refine hQ _ _ ?_
    clear hQ hA
    repeat (refine WK.seq ?_)
    refine WK.reg 200 Tryz.ntmps19 (by kernel_rfl) ?_
    intro A hA Q hQ
    have hg2 : (A[2]?).bind (·.dst) = some 11 := by rw [hA]; rfl
    simp [mx, m1, m2, m3, hg2]
    refine hQ _ _ ?_
    clear hQ hA
    refine WK.cond2 rfl (fun h => ?_) (fun h => ?_)
    · repeat (refine WK.seq ?_)
      refine WK.reg 300 Tryz.ntmps19 (by kernel_rfl) ?_
      intro A hA Q hQ
      simp
      refine hQ _ _ ?_
      clear hQ hA
      refine WK.ret Tryz.func19 (by simp (maxDischargeDepth := 120) [Tryz.results19, e, wideZ, Wide.enc, uI_zero]) (by simp [e, wideZ, Wide.enc, uI_zero])
    · simp at h
  have e : wGet b s = (wVal (b.take s), true) := by unfold wGet; rw [if_pos hle]
  obtain ⟨l, hl⟩ : ∃ l, l = b.take s := ⟨_, rfl⟩
  have hll : l.length = s := by rw [hl, List.length_take]; omega
  have hsl : (byL b).take s = byL l := by rw [byL_take, hl]
  have hv0 : wVal [] = wideZ := rfl
  have c1 : (s : Int) ≤ b.length := by omega
  rw [← hl] at e
  refine FnP.intro Tryz.func19 rfl rfl fun G w => ?_
  repeat (refine WK.seq ?_)
  refine WK.reg 100 Tryz.ntmps19 (by kernel_rfl) ?_
  intro A hA Q hQ
  simp
  refine hQ _ _ ?_
  clear hQ hA
  repeat (refine WK.seq ?_)
  apply WK.cut (⟨(upd (upd (upd (upd J 0 (.sl false b.length (byL b))) 1 (.int .i64 s)) 4 (.ptr 50 0)) 17 (.bool false)), (upd B0 50 (.var wideZ.enc)), 0⟩ : St)
  · intro hcut
    by_cases m1 : (16 : Int) < b.length
    · have m2 : ¬ (16 : Int) < s := by omega
      have m4 : 16 < b.length := by omega
      refine WK.reg 200 Tryz.ntmps19 (by kernel_rfl) ?_
      intro A hA Q hQ
      have hg2 : (A[2]?).bind (·.dst) = some 11 := by rw [hA]; rfl
      simp [mx, m1, m2, m4, hg2]
      refine hQ _ _ ?_
      clear hQ hA
      refine WK.next (fun n => if n = 50 then 0 else n) hcut (by repeat (first | exact TmW.nil | refine TmW.upd ?_ (by simp (maxDischargeDepth := 120) [wideZ, Wide.enc, uI_zero]))) (by repeat (first | exact BxW.nil | refine BxW.upd ?_ (by simp (maxDischargeDepth := 120) [wideZ, Wide.enc, uI_zero]))) (by first | exact InjW.id | exact InjW.nil | exact InjW.one | exact InjW.two (by simp) | exact InjW.three (by simp) (by simp) (by simp))
    · have m2 : ¬ (b.length : Int) < s := by omega
      have m3 : ¬ b.length < s := by omega
      have m4 : ¬ 16 < b.length := by omega
      refine WK.reg 300 Tryz.ntmps19 (by kernel_rfl) ?_
      intro A hA Q hQ
      have hg2 : (A[2]?).bind (·.dst) = some 11 := by rw [hA]; rfl
      simp [mx, m1, m2, m3, m4, hg2]
      refine hQ _ _ ?_
      clear hQ hA
      refine WK.next (fun n => if n = 50 then 0 else n) hcut (by repeat (first | exact TmW.nil | refine TmW.upd ?_ (by simp (maxDischargeDepth := 120) [wideZ, Wide.enc, uI_zero]))) (by repeat (first | exact BxW.nil | refine BxW.upd ?_ (by simp (maxDischargeDepth := 120) [wideZ, Wide.enc, uI_zero]))) (by first | exact InjW.id | exact InjW.nil | exact InjW.one | exact InjW.two (by simp) | exact InjW.three (by simp) (by simp) (by simp))
  refine WK.cond2 rfl (fun h => ?_) (fun h => ?_)
  · cases h
  repeat (first | refine WK.seq ?_ | refine WK.skip ?_)
  refine WK.reg 400 Tryz.ntmps19 (by kernel_rfl) ?_
  intro A hA Q hQ
  simp
  refine hQ _ _ ?_
  clear hQ hA
  repeat (refine WK.seq ?_)
  refine WK.reg 500 Tryz.ntmps19 (by kernel_rfl) ?_
  intro A hA Q hQ
  simp [c1, hsl, hle]
  refine hQ _ _ ?_
  clear hQ hA
  repeat (refine WK.block ?_)
  refine WK.loopI (fun n => if n = 51 then 0 else n) (fun i : Nat => (⟨(upd (upd (upd (upd (upd J 4 (.ptr 50 0)) 6 (.ptr 51 0)) 21 (.sl false s (byL l))) 22 (.int .i64 s)) 23 (.int .i64 i)), (upd (upd B0 50 (.var wideZ.enc)) 51 (.var (wVal (l.take i)).enc)), 0⟩ : St)) (fun i => i ≤ s) (fun i => s - i) (0) (by repeat (first | exact TmW.nil | refine TmW.upd ?_ (by simp (maxDischargeDepth := 120) [hv0, wideZ, Wide.enc, uI_zero]))) (by repeat (first | exact BxW.nil | refine BxW.upd ?_ (by simp (maxDischargeDepth := 120) [hv0, wideZ, Wide.enc, uI_zero]))) (by first | exact InjW.id | exact InjW.nil | exact InjW.one | exact InjW.two (by simp) | exact InjW.three (by simp) (by simp) (by simp)) (Nat.zero_le _) (fun i hi IH => ?_)
  repeat (refine WK.seq ?_)
  refine WK.reg 600 Tryz.ntmps19 (by kernel_rfl) ?_
  intro A hA Q hQ
  simp
  refine hQ _ _ ?_
  clear hQ hA
  repeat (refine WK.seq ?_)
  refine WK.cond2 rfl (fun h1 => ?_) (fun h1 => ?_)
  · simp at h1
    have h2 : i < s := by omega
    have h2' : i < l.length := by omega
    have h6 : IntKind.i64.wrap ((i : Int) + 1) = i + 1 := wrap_i64 (by omega) (by omega)
    have hg := by_get l i h2'
    have o3 : wVal (l.take (i + 1)) = wStep (wVal (l.take i)) (nth l i) := by rw [take_nth h2', wVal_snoc]
    obtain ⟨a, ha⟩ : ∃ a, a = wVal (l.take i) := ⟨_, rfl⟩
    rw [← ha] at o3 ⊢
    repeat (first | refine WK.seq ?_ | refine WK.block ?_ | refine WK.skip ?_)
    refine WK.reg 700 Tryz.ntmps19 (by kernel_rfl) ?_
    intro A hA Q hQ
    simp [h2, h2', hll, hg]
    refine hQ _ _ ?_
    clear hQ hA
    repeat (refine WK.seq ?_)
    refine WK.reg 800 Tryz.ntmps19 (by kernel_rfl) ?_
    intro A hA Q hQ
    simp [Wide.enc, h56, h8]
    refine hQ _ _ ?_
    clear hQ hA
    refine WK.reg 900 Tryz.ntmps19 (by kernel_rfl) ?_
    intro A hA Q hQ
    simp [h8, hcv]
    refine hQ _ _ ?_
    clear hQ hA
    repeat (refine WK.inBlock ?_)
    refine WK.reg 1000 Tryz.ntmps19 (by kernel_rfl) ?_
    intro A hA Q hQ
    simp [h6]
    refine hQ _ _ ?_
    clear hQ hA
    refine WK.next (fun n => n) (IH (i + 1) (by omega) (by first | omega | (dsimp only; omega))) (by repeat (first | exact TmW.nil | refine TmW.upd ?_ (by simp (maxDischargeDepth := 120) [h6, o3, wStep, Wide.enc]))) (by repeat (first | exact BxW.nil | refine BxW.upd ?_ (by simp (maxDischargeDepth := 120) [h6, o3, wStep, Wide.enc]))) (by first | exact InjW.id | exact InjW.nil | exact InjW.one | exact InjW.two (by simp) | exact InjW.three (by simp) (by simp) (by simp))
  · simp at h1
    have h2 : i = s := by omega
    have hT : l.take i = l := by rw [h2]; exact List.take_of_length_le (by omega)
    rw [hT]
    repeat (first | refine WK.seq ?_ | refine WK.exit rfl ?_)
    refine WK.reg 1100 Tryz.ntmps19 (by kernel_rfl) ?_
    intro A hA Q hQ
    simp
    refine hQ _ _ ?_
    clear hQ hA
    refine WK.ret Tryz.func19 (by simp (maxDischargeDepth := 120) [Tryz.results19, e]) (by simp [e])
end Go.Proofs.YtiifjagnhnchoaaGreat
end

section
set_option linter.unusedVariables false
set_option linter.unusedSimpArgs false
namespace Go.Proofs.YtiifjagnhnchoaaGreat
open Go Go.AI Go.Proofs

def Oxm.beyond (o : Oxm) (w : Wide) : Bool := !(w.less (lowW (fBits o.field))).zero
def Oxm.form (o : Oxm) : Int := if Oxm.beyond o o.value then 7 else if !o.masked then 0 else if Oxm.beyond o o.mask || o.mask.zero then 8 else if !(o.value.less o.mask).zero then 5 else 0
def Oxm.right (o : Oxm) : Bool := !(!fRight o.field || ((o.masked && !fMasks o.field) || (!o.masked && !o.mask.zero))) && (Oxm.form o) == 0
theorem obeyond_c (o : Oxm) (w0 : Wide) : FnP Tryz.prog 123 [.agg w0.enc, .iptr o.enc] (.bool (Oxm.beyond o w0)) := by
  refine FnP.intro Tryz.func123 rfl rfl fun G w => ?_
  repeat (refine WK.seq ?_)
  refine WK.reg 100 Tryz.ntmps123 (by kernel_rfl) ?_
  intro A hA Q hQ
  simp
  refine hQ _ _ ?_
  clear hQ hA
  repeat (refine WK.seq ?_)
  refine WK.ghost (Ghost.frzVar 2 rfl rfl) ?_
  refine WK.regD 200 clsOf (by kernel_rfl) Tryz.ntmps123 (by kernel_rfl) (by kernel_rfl) ?_
  intro A hA Q hQ
  simp [Oxm.enc]
  refine RunQ.call rfl rfl rfl rfl (by rfl) (by simp (maxDischargeDepth := 120)) (fbits_c o.field) (by simp) ?_
  refine RunQ.eval ?_
  simp
  refine RunQ.call rfl rfl rfl rfl (by rfl) (by simp (maxDischargeDepth := 120)) (low_c (fBits o.field)) (by simp) ?_
  refine RunQ.eval ?_
  simp
  refine RunQ.call rfl rfl rfl rfl (by rfl) (by simp (maxDischargeDepth := 120)) (less_c w0 (lowW (fBits o.field))) (by simp) ?_
  refine RunQ.eval ?_
  simp
  refine RunQ.call rfl rfl rfl rfl (by rfl) (by simp (maxDischargeDepth := 120)) (zero_c (w0.less (lowW (fBits o.field)))) (by simp) ?_
  refine RunQ.eval ?_
  simp
  refine hQ _ _ ?_
  clear hQ hA
  refine WK.ret Tryz.func123 (by simp (maxDischargeDepth := 120) [Tryz.results123, Oxm.beyond]) (by simp [Oxm.beyond])
set_option maxHeartbeats 2000000 in
theorem oform_c (o : Oxm) : FnP Tryz.prog 89 [.agg o.enc] (.int .i64 (Oxm.form o)) := by
  have hb1 := obeyond_c o o.value
  have hb2 := obeyond_c o o.mask
  have hz := zero_c o.mask
  have hl := less_c o.value o.mask
  have hz2 := zero_c (o.value.less o.mask)
  simp only [Oxm.enc, Wide.enc] at hb1 hb2 hz hl hz2
  cases k1 : Oxm.beyond o o.value
  case true =>
    rw [k1] at hb1
    have e : (Oxm.form o) = 7 := by unfold Oxm.form; rw [k1]; rfl
    refine FnP.intro Tryz.func89 rfl rfl fun G w => ?_
    repeat (refine WK.seq ?_)
    refine WK.reg 100 Tryz.ntmps89 (by kernel_rfl) ?_
    intro A hA Q hQ
    simp [Oxm.enc]
    refine hQ _ _ ?_
    clear hQ hA
    repeat (refine WK.seq ?_)
    refine WK.ghost (Ghost.frzVar 1 rfl rfl) ?_
    refine WK.reg 200 Tryz.ntmps89 (by kernel_rfl) ?_
    intro A hA Q hQ
    simp
    refine hQ _ _ ?_
    clear hQ hA
    repeat (first | refine WK.seq ?_ | refine WK.block ?_)
    refine WK.reg 300 Tryz.ntmps89 (by kernel_rfl) ?_
    intro A hA Q hQ
    simp
    refine RunQ.call rfl rfl rfl rfl (by rfl) (by simp (maxDischargeDepth := 120)) (hb1) (by simp) ?_
    refine RunQ.eval ?_
    simp
    refine hQ _ _ ?_
    clear hQ hA
    refine WK.cond2 rfl (fun h => ?_) (fun h => ?_)
    · repeat (refine WK.seq ?_)
      refine WK.reg 400 Tryz.ntmps89 (by kernel_rfl) ?_
      intro A hA Q hQ
      simp
      refine hQ _ _ ?_
      clear hQ hA
      refine WK.ret Tryz.func89 (by simp (maxDischargeDepth := 120) [Tryz.results89, e]) (by simp [e])
    · cases h
  rw [k1] at hb1
  cases k2 : o.masked
  case false =>
    have e : (Oxm.form o) = 0 := by unfold Oxm.form; rw [k1, k2]; rfl
    rw [k2] at hb1
    refine FnP.intro Tryz.func89 rfl rfl fun G w => ?_
    repeat (refine WK.seq ?_)
    refine WK.reg 100 Tryz.ntmps89 (by kernel_rfl) ?_
    intro A hA Q hQ
    simp [Oxm.enc, k2]
    refine hQ _ _ ?_
    clear hQ hA
    repeat (refine WK.seq ?_)
    refine WK.ghost (Ghost.frzVar 1 rfl rfl) ?_
    refine WK.reg 200 Tryz.ntmps89 (by kernel_rfl) ?_
    intro A hA Q hQ
    simp
    refine hQ _ _ ?_
    clear hQ hA
    repeat (first | refine WK.seq ?_ | refine WK.block ?_)
    refine WK.reg 300 Tryz.ntmps89 (by kernel_rfl) ?_
    intro A hA Q hQ
    simp
    refine RunQ.call rfl rfl rfl rfl (by rfl) (by simp (maxDischargeDepth := 120)) (hb1) (by simp) ?_
    refine RunQ.eval ?_
    simp
    refine hQ _ _ ?_
    clear hQ hA
    refine WK.cond2 rfl (fun h => ?_) (fun h => ?_)
    · cases h
    repeat (refine WK.seq ?_)
    refine WK.reg 400 Tryz.ntmps89 (by kernel_rfl) ?_
    intro A hA Q hQ
    simp
    refine hQ _ _ ?_
    clear hQ hA
    refine WK.cond2 rfl (fun h => ?_) (fun h => ?_)
    · repeat (refine WK.seq ?_)
      refine WK.reg 500 Tryz.ntmps89 (by kernel_rfl) ?_
      intro A hA Q hQ
      simp
      refine hQ _ _ ?_
      clear hQ hA
      refine WK.ret Tryz.func89 (by simp (maxDischargeDepth := 120) [Tryz.results89, e]) (by simp [e])
    · cases h
  rw [k2] at hb1 hb2
  cases k3 : Oxm.beyond o o.mask || o.mask.zero
  case true =>
    have e : (Oxm.form o) = 8 := by unfold Oxm.form; rw [k1, k2, k3]; rfl
    refine FnP.intro Tryz.func89 rfl rfl fun G w => ?_
    repeat (refine WK.seq ?_)
    refine WK.reg 100 Tryz.ntmps89 (by kernel_rfl) ?_
    intro A hA Q hQ
    simp [Oxm.enc, k2]
    refine hQ _ _ ?_
    clear hQ hA
    repeat (refine WK.seq ?_)
    refine WK.ghost (Ghost.frzVar 1 rfl rfl) ?_
    refine WK.reg 200 Tryz.ntmps89 (by kernel_rfl) ?_
    intro A hA Q hQ
    simp
    refine hQ _ _ ?_
    clear hQ hA
    repeat (first | refine WK.seq ?_ | refine WK.block ?_)
    refine WK.reg 300 Tryz.ntmps89 (by kernel_rfl) ?_
    intro A hA Q hQ
    simp
    refine RunQ.call rfl rfl rfl rfl (by rfl) (by simp (maxDischargeDepth := 120)) (hb1) (by simp) ?_
    refine RunQ.eval ?_
    simp
    refine hQ _ _ ?_
    clear hQ hA
    refine WK.cond2 rfl (fun h => ?_) (fun h => ?_)
    · cases h
    repeat (refine WK.seq ?_)
    refine WK.reg 400 Tryz.ntmps89 (by kernel_rfl) ?_
    intro A hA Q hQ
    simp
    refine hQ _ _ ?_
    clear hQ hA
    refine WK.cond2 rfl (fun h => ?_) (fun h => ?_)
    · cases h
    cases k4 : Oxm.beyond o o.mask
    · rw [k4] at hb2 k3
      rw [Bool.false_or] at k3
      rw [k3] at hz
      repeat (refine WK.seq ?_)
      refine WK.reg 500 Tryz.ntmps89 (by kernel_rfl) ?_
      intro A hA Q hQ
      have hg4 : (A[4]?).bind (·.dst) = some 19 := by rw [hA]; rfl
      simp [hg4]
      refine RunQ.call rfl rfl rfl rfl (by rfl) (by simp (maxDischargeDepth := 120) [hg4]) (hb2) (by simp [hg4]) ?_
      refine RunQ.eval ?_
      simp [hg4]
      refine RunQ.callG rfl rfl (by simp [hg4]) rfl (by rfl) (by simp (maxDischargeDepth := 120) [hg4]) (hz) (by simp [hg4]) ?_
      refine RunQ.eval ?_
      simp [hg4]
      refine hQ _ _ ?_
      clear hQ hA
      refine WK.cond2 rfl (fun h => ?_) (fun h => ?_)
      · repeat (refine WK.seq ?_)
        refine WK.reg 600 Tryz.ntmps89 (by kernel_rfl) ?_
        intro A hA Q hQ
        simp
        refine hQ _ _ ?_
        clear hQ hA
        refine WK.ret Tryz.func89 (by simp (maxDischargeDepth := 120) [Tryz.results89, e]) (by simp [e])
      · cases h
    · rw [k4] at hb2
      repeat (refine WK.seq ?_)
      refine WK.reg 700 Tryz.ntmps89 (by kernel_rfl) ?_
      intro A hA Q hQ
      have hg4 : (A[4]?).bind (·.dst) = some 19 := by rw [hA]; rfl
      simp [hg4]
      refine RunQ.call rfl rfl rfl rfl (by rfl) (by simp (maxDischargeDepth := 120) [hg4]) (hb2) (by simp [hg4]) ?_
      refine RunQ.eval ?_
      simp [hg4]
      refine hQ _ _ ?_
      clear hQ hA
      refine WK.cond2 rfl (fun h => ?_) (fun h => ?_)
      · repeat (refine WK.seq ?_)
        refine WK.reg 800 Tryz.ntmps89 (by kernel_rfl) ?_
        intro A hA Q hQ
        simp
        refine hQ _ _ ?_
        clear hQ hA
        refine WK.ret Tryz.func89 (by simp (maxDischargeDepth := 120) [Tryz.results89, e]) (by simp [e])
      · cases h
  rw [Bool.or_eq_false_iff] at k3
  rw [k3.1] at hb2
  rw [k3.2] at hz
  cases k5 : (o.value.less o.mask).zero
  · have e : (Oxm.form o) = 5 := by unfold Oxm.form; rw [k1, k2, k3.1, k3.2, k5]; rfl
    rw [k5] at hz2
    refine FnP.intro Tryz.func89 rfl rfl fun G w => ?_
    repeat (refine WK.seq ?_)
    refine WK.reg 100 Tryz.ntmps89 (by kernel_rfl) ?_
    intro A hA Q hQ
    simp [Oxm.enc, k2]
    refine hQ _ _ ?_
    clear hQ hA
    repeat (refine WK.seq ?_)
    refine WK.ghost (Ghost.frzVar 1 rfl rfl) ?_
    refine WK.reg 200 Tryz.ntmps89 (by kernel_rfl) ?_
    intro A hA Q hQ
    simp
    refine hQ _ _ ?_
    clear hQ hA
    repeat (first | refine WK.seq ?_ | refine WK.block ?_)
    refine WK.reg 300 Tryz.ntmps89 (by kernel_rfl) ?_
    intro A hA Q hQ
    simp
    refine RunQ.call rfl rfl rfl rfl (by rfl) (by simp (maxDischargeDepth := 120)) (hb1) (by simp) ?_
    refine RunQ.eval ?_
    simp
    refine hQ _ _ ?_
    clear hQ hA
    refine WK.cond2 rfl (fun h => ?_) (fun h => ?_)
    · cases h
    repeat (refine WK.seq ?_)
    refine WK.reg 400 Tryz.ntmps89 (by kernel_rfl) ?_
    intro A hA Q hQ
    simp
    refine hQ _ _ ?_
    clear hQ hA
    refine WK.cond2 rfl (fun h => ?_) (fun h => ?_)
    · cases h
    repeat (refine WK.seq ?_)
    refine WK.reg 500 Tryz.ntmps89 (by kernel_rfl) ?_
    intro A hA Q hQ
    have hg4 : (A[4]?).bind (·.dst) = some 19 := by rw [hA]; rfl
    simp [hg4]
    refine RunQ.call rfl rfl rfl rfl (by rfl) (by simp (maxDischargeDepth := 120) [hg4]) (hb2) (by simp [hg4]) ?_
    refine RunQ.eval ?_
    simp [hg4]
    refine RunQ.callG rfl rfl (by simp [hg4]) rfl (by rfl) (by simp (maxDischargeDepth := 120) [hg4]) (hz) (by simp [hg4]) ?_
    refine RunQ.eval ?_
    simp [hg4]
    refine hQ _ _ ?_
    clear hQ hA
    refine WK.cond2 rfl (fun h => ?_) (fun h => ?_)
    · cases h
    repeat (refine WK.seq ?_)
    refine WK.reg 600 Tryz.ntmps89 (by kernel_rfl) ?_
    intro A hA Q hQ
    simp
    refine RunQ.call rfl rfl rfl rfl (by rfl) (by simp (maxDischargeDepth := 120)) (hl) (by simp) ?_
    refine RunQ.eval ?_
    simp
    refine RunQ.call rfl rfl rfl rfl (by rfl) (by simp (maxDischargeDepth := 120)) (hz2) (by simp) ?_
    refine RunQ.eval ?_
    simp
    refine hQ _ _ ?_
    clear hQ hA
    refine WK.cond2 rfl (fun h => ?_) (fun h => ?_)
    · repeat (refine WK.seq ?_)
      refine WK.reg 700 Tryz.ntmps89 (by kernel_rfl) ?_
      intro A hA Q hQ
      simp
      refine hQ _ _ ?_
      clear hQ hA
      refine WK.ret Tryz.func89 (by simp (maxDischargeDepth := 120) [Tryz.results89, e]) (by simp [e])
    · cases h
  · have e : (Oxm.form o) = 0 := by unfold Oxm.form; rw [k1, k2, k3.1, k3.2, k5]; rfl
    rw [k5] at hz2
    refine FnP.intro Tryz.func89 rfl rfl fun G w => ?_
    repeat (refine WK.seq ?_)
    refine WK.reg 100 Tryz.ntmps89 (by kernel_rfl) ?_
    intro A hA Q hQ
    simp [Oxm.enc, k2]
    refine hQ _ _ ?_
    clear hQ hA
    repeat (refine WK.seq ?_)
    refine WK.ghost (Ghost.frzVar 1 rfl rfl) ?_
    refine WK.reg 200 Tryz.ntmps89 (by kernel_rfl) ?_
    intro A hA Q hQ
    simp
    refine hQ _ _ ?_
    clear hQ hA
    repeat (first | refine WK.seq ?_ | refine WK.block ?_)
    refine WK.reg 300 Tryz.ntmps89 (by kernel_rfl) ?_
    intro A hA Q hQ
    simp
    refine RunQ.call rfl rfl rfl rfl (by rfl) (by simp (maxDischargeDepth := 120)) (hb1) (by simp) ?_
    refine RunQ.eval ?_
    simp
    refine hQ _ _ ?_
    clear hQ hA
    refine WK.cond2 rfl (fun h => ?_) (fun h => ?_)
    · cases h
    repeat (refine WK.seq ?_)
    refine WK.reg 400 Tryz.ntmps89 (by kernel_rfl) ?_
    intro A hA Q hQ
    simp
    refine hQ _ _ ?_
    clear hQ hA
    refine WK.cond2 rfl (fun h => ?_) (fun h => ?_)
    · cases h
    repeat (refine WK.seq ?_)
    refine WK.reg 500 Tryz.ntmps89 (by kernel_rfl) ?_
    intro A hA Q hQ
    have hg4 : (A[4]?).bind (·.dst) = some 19 := by rw [hA]; rfl
    simp [hg4]
    refine RunQ.call rfl rfl rfl rfl (by rfl) (by simp (maxDischargeDepth := 120) [hg4]) (hb2) (by simp [hg4]) ?_
    refine RunQ.eval ?_
    simp [hg4]
    refine RunQ.callG rfl rfl (by simp [hg4]) rfl (by rfl) (by simp (maxDischargeDepth := 120) [hg4]) (hz) (by simp [hg4]) ?_
    refine RunQ.eval ?_
    simp [hg4]
    refine hQ _ _ ?_
    clear hQ hA
    refine WK.cond2 rfl (fun h => ?_) (fun h => ?_)
    · cases h
    repeat (refine WK.seq ?_)
    refine WK.reg 600 Tryz.ntmps89 (by kernel_rfl) ?_
    intro A hA Q hQ
    simp
    refine RunQ.call rfl rfl rfl rfl (by rfl) (by simp (maxDischargeDepth := 120)) (hl) (by simp) ?_
    refine RunQ.eval ?_
    simp
    refine RunQ.call rfl rfl rfl rfl (by rfl) (by simp (maxDischargeDepth := 120)) (hz2) (by simp) ?_
    refine RunQ.eval ?_
    simp
    refine hQ _ _ ?_
    clear hQ hA
    refine WK.cond2 rfl (fun h => ?_) (fun h => ?_)
    · cases h
    · repeat (first | refine WK.seq ?_ | refine WK.inBlock ?_ | refine WK.skip ?_)
      refine WK.reg 700 Tryz.ntmps89 (by kernel_rfl) ?_
      intro A hA Q hQ
      simp
      refine hQ _ _ ?_
      clear hQ hA
      refine WK.ret Tryz.func89 (by simp (maxDischargeDepth := 120) [Tryz.results89, e]) (by simp [e])
end Go.Proofs.YtiifjagnhnchoaaGreat
end
