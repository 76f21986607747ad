/- Where flows go to, by the program and by the reference; and what flow is made of a change. -/
import Derived.Test.YtcccfbjkcahgfaaGreatWk1
import Derived.Test.YtcccfbjkcahgfaaGreatAf
import Derived.Test.YtcccfbjkcahgfaaGreatDa
set_option linter.all false
set_option linter.unnecessarySimpa false
namespace Go.Proofs.YtcccfbjkcahgfaaGreat
open Go Go.AI Go.Proofs
def FlowMod.flow (m : FlowMod) : Flow := ⟨m.cookie, m.prio, m.idle, m.hard, m.flags, m.mat, m.insts⟩

structure FPl (f : Flow) : Prop where
 ok : FOk f
 acts : (allI id f.insts).length ≤ 1000000

def bI (b : BitVec 8) : Int := b.toNat
def byE (b : BitVec 8) : List AV := [.int .u8 (bI b)]
def byL (l : List (BitVec 8)) : List AV := l.map fun b => .int .u8 (bI b)
def byS (l : List (BitVec 8)) : AV := .sl false l.length (byL l)
@[simp] theorem byL_len (l : List (BitVec 8)) : (byL l).length = l.length := by simp [byL]
@[simp] theorem byL_cl (l : List (BitVec 8)) : ClL (byL l) = true := by
 induction l with
 | nil => rfl
 | cons x l ih => simp only [byL, List.map_cons, ClL, Cl, Bool.true_and]; exact ih
@[simp] theorem byS_cl (l : List (BitVec 8)) : Cl (byS l) = true := by simp [byS, Cl]
theorem byL_app (a b : List (BitVec 8)) : byL (a ++ b) = byL a ++ byL b := by simp [byL]
theorem b0_ : byL [] = [] := rfl
theorem byL_drop (l : List (BitVec 8)) (n : Nat) : (byL l).drop n = byL (l.drop n) := by simp [byL]
theorem byL_take (l : List (BitVec 8)) (n : Nat) : (byL l).take n = byL (l.take n) := by simp [byL]
theorem by_full (l : List (BitVec 8)) (n : Nat) (h : n = l.length) : (byL l).take n = byL l := List.take_of_length_le (by simp [h])
theorem appByte : AppOk Tryz.prog 32 5 1 1 := ⟨by simp, by simp, by simp, by simp, by simp, by simp, by omega, by omega⟩
theorem bI_lt (b : BitVec 8) : 0 ≤ bI b ∧ bI b < 256 := by unfold bI; have := b.isLt; omega
theorem bI_of (x : Int) : bI (BitVec.ofInt 8 x) = x % 256 := by
 unfold bI
 rw [BitVec.toNat_ofInt]
 have : 0 ≤ x % 256 := Int.emod_nonneg _ (by decide)
 omega
theorem wrap_u8 (x : Int) : IntKind.wrap .u8 x = bI (BitVec.ofInt 8 x) := by
 rw [bI_of]
 unfold IntKind.wrap
 show (if (false && decide (x % 256 ≥ 128)) = true then x % 256 - 256 else x % 256) = x % 256
 rw [Bool.false_and, if_neg Bool.false_ne_true]
def numOk (n : Int) (s : Nat) : Bool := decide (0 ≤ n) && decide (n < 256 ^ s)
def Sz (s : Nat) : Prop := s = 1 ∨ s = 2 ∨ s = 4
theorem sized_c (s : Nat) (hs : Sz s) : FnP Tryz.prog 57 [.int .i64 s] (.bool true) := by
 rcases hs with rfl | rfl | rfl <;>
 · refine FnP.i Tryz.func57 rfl rfl fun G w => ?_
   repeat apply WK.s
   refine WK.g 100 Tryz.ntmps57 (by kernel_rfl) ?_
   intro A hA Q hQ
   simp
   apply hQ
   clear hQ hA
   repeat apply WK.s
   refine WK.g 200 Tryz.ntmps57 (by kernel_rfl) ?_
   intro A hA Q hQ
   have hg2 : (A[2]?).bind (·.dst) = some 5 := by rw [hA]; rfl
   have hg6 : (A[6]?).bind (·.dst) = some 9 := by rw [hA]; rfl
   simp [hg2, hg6]
   apply hQ
   clear hQ hA
   refine WK.t Tryz.func57 (by simp (maxDischargeDepth := 120) [Tryz.results57]) (by simp)
theorem shr_i64 (n : Int) (k : Nat) (hk : k ≤ 64) : bShr .i64 n k = n / 2 ^ k := by
 unfold bShr
 have : min (Int.toNat (k : Int)) (IntKind.bits .i64) = k := by show min (Int.toNat (k : Int)) 64 = k; omega
 rw [this, Int.fdiv_eq_ediv_of_nonneg _ (by exact Int.le_of_lt (Int.pow_pos (by decide)))]
theorem shr_zero (n : Int) (s : Nat) (h0 : 0 ≤ n) : (n / 2 ^ (8 * s) == 0) = decide (n < 256 ^ s) := by
 have hp : (2 : Int) ^ (8 * s) = 256 ^ s := by rw [Int.pow_mul]; rfl
 rw [hp]
 have hpos : (0 : Int) < 256 ^ s := Int.pow_pos (by decide)
 rw [Bool.eq_iff_iff, beq_iff_eq, decide_eq_true_eq]
 constructor
 · intro h
   have := Int.lt_ediv_add_one_mul_self n hpos
   rw [h] at this; omega
 · intro h; exact Int.ediv_eq_zero_of_lt h0 h
theorem nright_c (n : Int) (s : Nat) (hs : Sz s) : FnP Tryz.prog 28 [.int .i64 n, .int .i64 s] (.bool (numOk n s)) := by
 have hsz := sized_c s hs
 have hs4 : s ≤ 4 := by rcases hs with rfl | rfl | rfl <;> omega
 have w8 : IntKind.i64.wrap (8 * (s : Int)) = 8 * (s : Int) := by
   rcases hs with rfl | rfl | rfl <;> rfl
 have hsh : bShr .i64 n (8 * (s : Int)) = n / 2 ^ (8 * s) := by
   have := shr_i64 n (8 * s) (by omega)
   rw [← this]; congr 1
 have hnn : ¬ (8 * (s : Int) < 0) := by omega
 cases k : decide (0 ≤ n)
 · refine FnP.i Tryz.func28 rfl rfl fun G w => ?_
   repeat apply WK.s
   refine WK.g 100 Tryz.ntmps28 (by kernel_rfl) ?_
   intro A hA Q hQ
   simp
   apply hQ
   clear hQ hA
   repeat apply WK.s
   refine WK.g 200 Tryz.ntmps28 (by kernel_rfl) ?_
   intro A hA Q hQ
   have hg2 : (A[2]?).bind (·.dst) = some 7 := by rw [hA]; rfl
   have hg6 : (A[6]?).bind (·.dst) = some 11 := by rw [hA]; rfl
   simp [hg2, hg6]
   refine RunQ.call rfl rfl rfl rfl (by rfl) (by simp (maxDischargeDepth := 120) [hg2, hg6, k]) (hsz) (by simp [hg2, hg6, k]) ?_
   refine RunQ.eval ?_
   simp [hg2, hg6, k]
   apply hQ
   clear hQ hA
   refine WK.t Tryz.func28 (by simp (maxDischargeDepth := 120) [Tryz.results28, numOk, k]) (by simp [numOk, k])
 · have h0 := shr_zero n s (of_decide_eq_true k)
   refine FnP.i Tryz.func28 rfl rfl fun G w => ?_
   repeat apply WK.s
   refine WK.g 100 Tryz.ntmps28 (by kernel_rfl) ?_
   intro A hA Q hQ
   simp
   apply hQ
   clear hQ hA
   repeat apply WK.s
   refine WK.g 200 Tryz.ntmps28 (by kernel_rfl) ?_
   intro A hA Q hQ
   have hg2 : (A[2]?).bind (·.dst) = some 7 := by rw [hA]; rfl
   have hg6 : (A[6]?).bind (·.dst) = some 11 := by rw [hA]; rfl
   simp [hg2, hg6]
   refine RunQ.call rfl rfl rfl rfl (by rfl) (by simp (maxDischargeDepth := 120) [hg2, hg6, k, w8, hsh, h0, hnn]) (hsz) (by simp [hg2, hg6, k, w8, hsh, h0, hnn]) ?_
   refine RunQ.eval ?_
   simp [hg2, hg6, k, w8, hsh, h0, hnn]
   apply hQ
   clear hQ hA
   refine WK.t Tryz.func28 (by simp (maxDischargeDepth := 120) [Tryz.results28, numOk, k]) (by simp [numOk, k])
def beN (n : Int) (s : Nat) : List (BitVec 8) := (List.range s).map fun i => BitVec.ofInt 8 (n / 2 ^ (8 * (s - 1 - i)))
theorem beN_len (n : Int) (s : Nat) : (beN n s).length = s := by simp [beN]
def putN (b : List (BitVec 8)) (n : Int) (s : Nat) : List (BitVec 8) := if numOk n s then b ++ beN n s else b
def fourAt (n : Int) (i : Nat) : List (BitVec 8) := (List.range 4).map fun j => if j < i then BitVec.ofInt 8 (n / 2 ^ (24 - 8 * j)) else 0#8
theorem fourAt_zero (n : Int) : byL (fourAt n 0) = [.int .u8 0, .int .u8 0, .int .u8 0, .int .u8 0] := rfl
theorem fourAt_set (n : Int) (i : Nat) (h : i < 4) : (byL (fourAt n i)).take i ++ .int .u8 (bI (BitVec.ofInt 8 (n / 2 ^ (24 - 8 * i)))) :: (byL (fourAt n i)).drop (i + 1) = byL (fourAt n (i + 1)) := by
 match i, h with
 | 0, _ => rfl
 | 1, _ => rfl
 | 2, _ => rfl
 | 3, _ => rfl
theorem fourAt_len (n : Int) (i : Nat) : (fourAt n i).length = 4 := by simp [fourAt]
theorem four_drop (n : Int) (s : Nat) (hs : Sz s) : (fourAt n 4).drop (4 - s) = beN n s := by
 rcases hs with rfl | rfl | rfl <;> rfl
set_option maxHeartbeats 2000000 in
theorem nput_c (b : List (BitVec 8)) (n : Int) (s : Nat) (hs : Sz s) (hb : b.length ≤ 1000000) : FnO Tryz.prog 52 [byS b, .int .i64 n, .int .i64 s] (putN b n s).length 1 (byL (putN b n s)) := by
 have hr := nright_c n s hs
 have hs4 : s ≤ 4 := by rcases hs with rfl | rfl | rfl <;> omega
 have hs1 : 1 ≤ s := by rcases hs with rfl | rfl | rfl <;> omega
 have hf := by_full b b.length rfl
 unfold byS
 cases k : numOk n s
 · have e : putN b n s = b := by unfold putN; rw [k]; rfl
   have hbd : b.length ≤ 140737488355328 := by omega
   rw [e]
   refine FnO.intro Tryz.func52 rfl rfl fun G w => ?_
   repeat apply WK.s
   refine WK.g 100 Tryz.ntmps52 (by kernel_rfl) ?_
   intro A hA Q hQ
   simp
   apply hQ
   clear hQ hA
   repeat apply WK.s
   refine WK.g 200 Tryz.ntmps52 (by kernel_rfl) ?_
   intro A hA Q hQ
   simp
   refine RunQ.call rfl rfl rfl rfl (by rfl) (by simp (maxDischargeDepth := 120) [k]) (hr) (by simp [k]) ?_
   refine RunQ.eval ?_
   simp [k]
   apply hQ
   clear hQ hA
   refine WK.c2 rfl (fun h => ?_) (fun h => ?_)
   · repeat apply WK.s
     refine WK.g 300 Tryz.ntmps52 (by kernel_rfl) ?_
     intro A hA Q hQ
     simp
     refine RunQ.append0 900 901 appByte rfl rfl rfl rfl rfl rfl rfl (by simp [hbd]) (by simp [hbd]) (by simp [hbd]) (by simp [hbd]) (by simp [hbd]) (by simp [hbd]) (by simp) ?_
     refine RunQ.eval ?_
     simp [hbd]
     apply hQ
     clear hQ hA
     refine WK.retO Tryz.func52 (by rfl) (by rfl) (by simp (maxDischargeDepth := 120) [hf]) (by simp [hf])
   · cases h
 · have e : putN b n s = b ++ beN n s := by unfold putN; rw [k]; rfl
   rw [e]
   refine FnO.intro Tryz.func52 rfl rfl fun G w => ?_
   repeat apply WK.s
   refine WK.g 100 Tryz.ntmps52 (by kernel_rfl) ?_
   intro A hA Q hQ
   simp
   apply hQ
   clear hQ hA
   repeat apply WK.s
   refine WK.g 200 Tryz.ntmps52 (by kernel_rfl) ?_
   intro A hA Q hQ
   simp
   refine RunQ.call rfl rfl rfl rfl (by rfl) (by simp (maxDischargeDepth := 120) [k]) (hr) (by simp [k]) ?_
   refine RunQ.eval ?_
   simp [k]
   apply hQ
   clear hQ hA
   refine WK.c2 rfl (fun h => ?_) (fun h => ?_)
   · cases h
   repeat (first | apply WK.s | apply WK.k)
   refine WK.g 300 Tryz.ntmps52 (by kernel_rfl) ?_
   intro A hA Q hQ
   simp
   apply hQ
   clear hQ hA
   repeat apply WK.s
   refine WK.g 400 Tryz.ntmps52 (by kernel_rfl) ?_
   intro A hA Q hQ
   simp
   apply hQ
   clear hQ hA
   repeat (apply WK.b)
   refine WK.lI (fun _ => 200) (fun i : Nat => (⟨(upd (upd (upd (upd (upd J 0 (.sl false b.length (byL b))) 1 (.int .i64 n)) 2 (.int .i64 s)) 7 (.ptr 1 0)) 15 (.int .i64 i)), (upd B0 1 (.var (byL (fourAt n i)))), 0⟩ : St)) (fun i => i ≤ 4) (fun i => 4 - i) (0) (by repeat (first | exact TmW.nil | refine TmW.upd ?_ (by simp (maxDischargeDepth := 120) [fourAt_zero]))) (by repeat (first | exact BxW.nil | refine BxW.upd ?_ (by simp (maxDischargeDepth := 120) [fourAt_zero]))) (by first | exact InjW.id | exact InjW.nil | exact InjW.one | exact InjW.two (by simp) | exact InjW.three (by simp) (by simp) (by simp)) (by omega) (fun i hi IH => ?_)
   repeat apply WK.s
   refine WK.g 500 Tryz.ntmps52 (by kernel_rfl) ?_
   intro A hA Q hQ
   simp
   apply hQ
   clear hQ hA
   repeat apply WK.s
   refine WK.c2 rfl (fun h1 => ?_) (fun h1 => ?_)
   · simp at h1
     have h2 : i < 4 := by omega
     have h6 : IntKind.i64.wrap ((i : Int) + 1) = i + 1 := wrap_i64 (by omega) (by omega)
     have m1 : IntKind.i64.wrap (8 * (i : Int)) = 8 * (i : Int) := wrap_i64 (by omega) (by omega)
     have m2 : IntKind.i64.wrap (24 - 8 * (i : Int)) = ((24 - 8 * i : Nat) : Int) := by rw [wrap_i64 (by omega) (by omega)]; omega
     have m3 := shr_i64 n (24 - 8 * i) (by omega)
     have m4 : ¬ ((24 - 8 * i : Nat) : Int) < 0 := by omega
     have m5 := wrap_u8 (n / 2 ^ (24 - 8 * i))
     have hset := fourAt_set n i h2
     have hfl := fourAt_len n i
     have b1 : (i : Int) < 4 := by omega
     have b2 : i + 1 ≤ 4 := by omega
     repeat (first | apply WK.s | apply WK.b | apply WK.k)
     refine WK.g 600 Tryz.ntmps52 (by kernel_rfl) ?_
     intro A hA Q hQ
     simp
     apply hQ
     clear hQ hA
     obtain ⟨q, hq⟩ : ∃ q, q = 24 - 8 * i := ⟨_, rfl⟩
     rw [← hq] at m2 m3 m4 m5 hset
     refine WK.g 700 Tryz.ntmps52 (by kernel_rfl) ?_
     intro A hA Q hQ
     simp [m1, m2, m3, m4, m5, h2, hset, hfl, b1, b2]
     apply hQ
     clear hQ hA
     repeat (apply WK.n)
     refine WK.g 800 Tryz.ntmps52 (by kernel_rfl) ?_
     intro A hA Q hQ
     simp [h6]
     apply hQ
     clear hQ hA
     refine WK.next (fun n => n) (IH (i + 1) (by omega) (by first | omega | (dsimp only; omega))) (by repeat (first | exact TmW.nil | refine TmW.upd ?_ (by simp (maxDischargeDepth := 120) [h6]))) (by repeat (first | exact BxW.nil | refine BxW.upd ?_ (by simp (maxDischargeDepth := 120) [h6]))) InjW.id
   · simp at h1
     have hi4 : i = 4 := by omega
     subst hi4
     repeat (first | apply WK.s | refine WK.exit rfl ?_)
     refine WK.ghost (Ghost.frzVar 7 rfl rfl) ?_
     have m1 : IntKind.i64.wrap (4 - (s : Int)) = ((4 - s : Nat) : Int) := by rw [wrap_i64 (by omega) (by omega)]; omega
     have m2 : (4 - s : Nat) ≤ 4 := by omega
     have m3 : 4 - (4 - s) = s := by omega
     have m4 := four_drop n s hs
     have m5 : (byL (fourAt n 4)).drop (4 - s) = byL (beN n s) := by rw [byL_drop, m4]
     have m6 : (byL (beN n s)).take s = byL (beN n s) := by_full _ _ (beN_len n s).symm
     obtain ⟨q, hq⟩ : ∃ q, q = 4 - s := ⟨_, rfl⟩
     rw [← hq] at m1 m2 m3 m5
     have hl1 : (beN n s).length = s := beN_len n s
     have hs63 : s ≤ 140737488355328 := by omega
     have c1 : (q : Int) ≤ 4 := by omega
     have hbd : (b.length + s) * 1 ≤ 140737488355328 := by omega
     by_cases hb0 : b = []
     · subst hb0
       rw [List.nil_append, hl1]
       refine WK.regD 900 clsOf (by kernel_rfl) Tryz.ntmps52 (by kernel_rfl) (by kernel_rfl) ?_
       intro A hA Q hQ
       simp [m1, m2, m3, m5, m6, c1, b0_]
       refine RunQ.append0 900 901 appByte rfl rfl rfl rfl rfl rfl rfl (by simp [hs63, hl1, m6]) (by simp [hs63, hl1, m6]) (by simp [hs63, hl1, m6]) (by simp [hs63, hl1, m6]) (by simp [hs63, hl1, m6]) (by simp [hs63, hl1, m6]) (by simp) ?_
       refine RunQ.eval ?_
       simp [hs63, hl1, m6]
       apply hQ
       clear hQ hA
       refine WK.retO Tryz.func52 (by rfl) (by rfl) (by simp (maxDischargeDepth := 120) [m6]) (by simp [m6])
     · have hbp : 0 < b.length := List.length_pos_iff.2 hb0
       rw [List.length_append, hl1]
       refine WK.regD 1000 clsOf (by kernel_rfl) Tryz.ntmps52 (by kernel_rfl) (by kernel_rfl) ?_
       intro A hA Q hQ
       simp [m1, m2, m3, m5, m6, c1, hf]
       refine RunQ.appendF 901 appByte rfl rfl rfl rfl rfl rfl (by simp [hbd, hl1, m6, hf]) rfl (by first | omega | simp [hbd, hl1, m6, hf]) (by first | omega | simp [hbd, hl1, m6, hf]) (by simp [hbd, hl1, m6, hf]) (by simp [hbd, hl1, m6, hf]) (by first | omega | simp [hbd, hl1, m6, hf]) (by simp) ?_
       refine RunQ.eval ?_
       simp [hbd, hl1, m6, hf]
       apply hQ
       clear hQ hA
       refine WK.retO Tryz.func52 (by rfl) (by rfl) (by simp (maxDischargeDepth := 120) [byL_app, hf, m6, hl1]) (by simp [byL_app, hf, m6, hl1])
end Go.Proofs.YtcccfbjkcahgfaaGreat

namespace Go.Proofs.YtcccfbjkcahgfaaGreat
open Go Go.AI Go.Proofs Go.Proofs.YtcccfbjkcahgfaaGreat
theorem byL_flat (l : List (BitVec 8)) : l.flatMap byE = byL l := by
 induction l with
 | nil => rfl
 | cons x l ih => rw [List.flatMap_cons, ih]; rfl
theorem rdByte {w : World} {H : Type} {enc : TypeId × Value → H} {sp : Nat → Bool} {held : Bool} : Rd enc Tryz.prog w sp held 5 byE := fun fuel cs x h => by
 obtain ⟨b, rfl⟩ := rd_u8 Tryz.underlying5 h
 exact ⟨b, RelL.cons (by simp [Rel, bI]) RelL.nil, fun v hv => by simp at hv; subst hv; rfl⟩
theorem rdvBytes : RdV Tryz.prog 32 (fun a => ∃ l : List (BitVec 8), a = .sl false l.length (l.flatMap byE)) := rdV_slice (s := 1) Tryz.underlying32 (by kernel_rfl) (by omega) (fun _ => rfl) (fun _ _ _ => rdByte)
theorem allP1 {p : AV → Prop} {xs : List AV} (h : AllP [p] xs) : ∃ x, xs = [x] ∧ p x := by
 match xs, h with
 | [x], ⟨h0, _⟩ => exact ⟨x, rfl, h0⟩
end Go.Proofs.YtcccfbjkcahgfaaGreat

namespace Go.Proofs.YtcccfbjkcahgfaaGreat
open Go Go.AI Go.Proofs
def valN (l : List (BitVec 8)) : Nat := l.foldl (fun n x => n * 256 + x.toNat) 0
theorem valN_snoc (l : List (BitVec 8)) (x : BitVec 8) : valN (l ++ [x]) = valN l * 256 + x.toNat := by simp [valN]
theorem valN_lt : ∀ (k : Nat) (l : List (BitVec 8)), l.length = k → valN l < 256 ^ k
 | 0, l, h => by rw [List.eq_nil_of_length_eq_zero h]; decide
 | k + 1, l, h => by
   have hne : l ≠ [] := by intro e; subst e; simp at h
   rw [← List.dropLast_concat_getLast hne, valN_snoc]
   have := valN_lt k l.dropLast (by rw [List.length_dropLast]; omega)
   have := (l.getLast hne).isLt
   rw [Nat.pow_succ]
   omega
def getN (b : List (BitVec 8)) (p s : Nat) : Int × Int := if p + s ≤ b.length then (valN ((b.drop p).take s), 0) else (0, 3)
theorem valN_le {b : List (BitVec 8)} {p s i : Nat} (hs : s ≤ 4) (hi : i ≤ s) (h : p + s ≤ b.length) : (valN (((b.drop p).take s).take i) : Int) < 4294967296 := by
 have hl : (((b.drop p).take s).take i).length = i := by simp only [List.length_take, List.length_drop]; omega
 have h1 := valN_lt i _ hl
 have h2 : 256 ^ i ≤ 256 ^ 4 := Nat.pow_le_pow_right (by decide) (by omega)
 have h3 : (256 : Nat) ^ 4 = 4294967296 := rfl
 omega
theorem by_get (b : List (BitVec 8)) (i : Nat) (h : i < b.length) (h' : i < (byL b).length) : (byL b)[i] = .int .u8 (bI (nth b i)) := by
 rw [nth_eq h]; simp [byL]
theorem or_byte (n : Nat) (x : BitVec 8) (h : n < 4294967296) : bOr .i64 ((n : Int) * 256) (bI x) = ((n * 256 + x.toNat : Nat) : Int) := by
 have hx := x.isLt
 unfold bOr bI
 show IntKind.wrap .i64 (((BitVec.ofInt 64 ((n : Int) * 256) ||| BitVec.ofInt 64 (x.toNat : Int)).toNat : Nat) : Int) = _
 have e1 : BitVec.ofInt 64 ((n : Int) * 256) = BitVec.ofNat 64 (n * 256) := by
   rw [← BitVec.ofInt_natCast]; congr 1
 have e2 : BitVec.ofInt 64 (x.toNat : Int) = BitVec.ofNat 64 x.toNat := by rw [← BitVec.ofInt_natCast]
 rw [e1, e2, BitVec.toNat_or, BitVec.toNat_ofNat, BitVec.toNat_ofNat, Nat.mod_eq_of_lt (by omega), Nat.mod_eq_of_lt (by omega)]
 have e3 : n * 256 ||| x.toNat = n * 256 + x.toNat := by
   have := Nat.two_pow_add_eq_or_of_lt (i := 8) (b := x.toNat) hx n
   rw [show (2 : Nat) ^ 8 = 256 from rfl, Nat.mul_comm] at this
   exact this.symm
 rw [e3, wrap_i64 (by omega) (by omega)]
theorem shl_byte (n : Nat) (h : n < 4294967296) : bShl .i64 (n : Int) 8 = (n : Int) * 256 := by
 unfold bShl
 show IntKind.wrap .i64 ((n : Int) * 2 ^ 8) = _
 rw [show (2 : Int) ^ 8 = 256 from rfl, wrap_i64 (by omega) (by omega)]
set_option maxHeartbeats 2000000 in
theorem nget_c (b : List (BitVec 8)) (p s : Nat) (hs : Sz s) (hb : b.length ≤ 9223372036854775807) (hp : p ≤ 1000000) :
   FnP Tryz.prog 38 [byS b, .int .i64 p, .int .i64 s] (.tup [.int .i64 (getN b p s).1, .int .i64 (getN b p s).2]) := by
 have hz := sized_c s hs
 have hs4 : s ≤ 4 := by rcases hs with rfl | rfl | rfl <;> omega
 have w1 : IntKind.i64.wrap ((b.length : Int) - p) = (b.length : Int) - p := wrap_i64 (by omega) (by omega)
 have w2 : IntKind.i64.wrap ((p : Int) + s) = ((p + s : Nat) : Int) := by rw [wrap_i64 (by omega) (by omega)]; omega
 unfold byS
 by_cases hle : p + s ≤ b.length
 case neg =>
   have e : getN b p s = (0, 3) := by unfold getN; rw [if_neg hle]
   have d : decide ((b.length : Int) - p < s) = true := decide_eq_true (by omega)
   refine FnP.i Tryz.func38 rfl rfl fun G w => ?_
   repeat apply WK.s
   refine WK.g 100 Tryz.ntmps38 (by kernel_rfl) ?_
   intro A hA Q hQ
   simp
   apply hQ
   clear hQ hA
   repeat apply WK.s
   refine WK.g 200 Tryz.ntmps38 (by kernel_rfl) ?_
   intro A hA Q hQ
   have hg3 : (A[3]?).bind (·.dst) = some 14 := by rw [hA]; rfl
   simp [hg3]
   refine RunQ.call rfl rfl rfl rfl (by rfl) (by simp (maxDischargeDepth := 120) [hg3]) (hz) (by simp [hg3]) ?_
   refine RunQ.eval ?_
   simp [hg3]
   apply hQ
   clear hQ hA
   refine WK.c2 rfl (fun h => ?_) (fun h => ?_)
   · cases h
   repeat (first | apply WK.s | apply WK.k)
   refine WK.g 300 Tryz.ntmps38 (by kernel_rfl) ?_
   intro A hA Q hQ
   simp [w1, d]
   apply hQ
   clear hQ hA
   refine WK.c2 rfl (fun h => ?_) (fun h => ?_)
   · repeat apply WK.s
     refine WK.g 400 Tryz.ntmps38 (by kernel_rfl) ?_
     intro A hA Q hQ
     simp
     apply hQ
     clear hQ hA
     refine WK.t Tryz.func38 (by simp (maxDischargeDepth := 120) [Tryz.results38, e]) (by simp [e])
   · simp at h
 have e : getN b p s = ((valN ((b.drop p).take s) : Int), 0) := by unfold getN; rw [if_pos hle]
 have d : decide ((b.length : Int) - p < s) = false := decide_eq_false (by omega)
 have c1 : (p : Int) ≤ (p : Int) + s := by omega
 have c2 : (p : Int) + s ≤ b.length := by omega
 have c3 : ((p : Int) + s).toNat = p + s := by omega
 have c4 : p + s - p = s := by omega
 have c5 : (0 : Int) ≤ (p : Int) + s := by omega
 obtain ⟨l, hl⟩ : ∃ l, l = (b.drop p).take s := ⟨_, rfl⟩
 have hll : l.length = s := by rw [hl]; simp only [List.length_take, List.length_drop]; omega
 have hsl : ((byL b).drop p).take s = byL l := by rw [byL_drop, byL_take, hl]
 have hv0 : valN [] = 0 := rfl
 rw [← hl] at e
 refine FnP.i Tryz.func38 rfl rfl fun G w => ?_
 repeat apply WK.s
 refine WK.g 100 Tryz.ntmps38 (by kernel_rfl) ?_
 intro A hA Q hQ
 simp
 apply hQ
 clear hQ hA
 repeat apply WK.s
 refine WK.g 200 Tryz.ntmps38 (by kernel_rfl) ?_
 intro A hA Q hQ
 have hg3 : (A[3]?).bind (·.dst) = some 14 := by rw [hA]; rfl
 simp [hg3]
 refine RunQ.call rfl rfl rfl rfl (by rfl) (by simp (maxDischargeDepth := 120) [hg3]) (hz) (by simp [hg3]) ?_
 refine RunQ.eval ?_
 simp [hg3]
 apply hQ
 clear hQ hA
 refine WK.c2 rfl (fun h => ?_) (fun h => ?_)
 · cases h
 repeat (first | apply WK.s | apply WK.k)
 refine WK.g 300 Tryz.ntmps38 (by kernel_rfl) ?_
 intro A hA Q hQ
 simp [w1, d]
 apply hQ
 clear hQ hA
 refine WK.c2 rfl (fun h => ?_) (fun h => ?_)
 · simp at h
 repeat (first | apply WK.s | apply WK.k)
 refine WK.g 400 Tryz.ntmps38 (by kernel_rfl) ?_
 intro A hA Q hQ
 simp
 apply hQ
 clear hQ hA
 repeat apply WK.s
 refine WK.g 500 Tryz.ntmps38 (by kernel_rfl) ?_
 intro A hA Q hQ
 simp [w2, c1, c2, c3, c4, c5, hsl]
 apply hQ
 clear hQ hA
 repeat (apply WK.b)
 refine WK.lI (fun n => n) (fun i : Nat => (⟨(upd (upd (upd (upd J 8 (.int .i64 (valN (l.take i)))) 29 (.sl false s (byL l))) 30 (.int .i64 s)) 31 (.int .i64 i)), B0, 0⟩ : St)) (fun i => i ≤ s) (fun i => s - i) (0) (by repeat (first | exact TmW.nil | refine TmW.upd ?_ (by simp (maxDischargeDepth := 120) [hv0]))) (by repeat (first | exact BxW.nil | refine BxW.upd ?_ (by simp (maxDischargeDepth := 120) [hv0]))) InjW.id (Nat.zero_le _) (fun i hi IH => ?_)
 repeat apply WK.s
 refine WK.g 600 Tryz.ntmps38 (by kernel_rfl) ?_
 intro A hA Q hQ
 simp
 apply hQ
 clear hQ hA
 repeat apply WK.s
 refine WK.c2 rfl (fun h1 => ?_) (fun h1 => ?_)
 · simp at h1
   have h2 : i < s := by omega
   have h2' : i < l.length := by omega
   have h6 : IntKind.i64.wrap ((i : Int) + 1) = i + 1 := wrap_i64 (by omega) (by omega)
   have hg := by_get l i h2'
   have hlt := valN_le (b := b) (p := p) hs4 (Nat.le_of_lt h2) hle
   rw [← hl] at hlt
   have hlt' : valN (l.take i) < 4294967296 := by omega
   have o1 := shl_byte _ hlt'
   have o2 := or_byte _ (nth l i) hlt'
   have o3 : valN (l.take (i + 1)) = valN (l.take i) * 256 + (nth l i).toNat := by rw [take_nth h2', valN_snoc]
   rw [← o3] at o2
   have o4 : IntKind.i64.wrap (bI (nth l i)) = bI (nth l i) := by have := bI_lt (nth l i); exact wrap_i64 (by omega) (by omega)
   repeat (first | apply WK.s | apply WK.b | apply WK.k)
   refine WK.g 700 Tryz.ntmps38 (by kernel_rfl) ?_
   intro A hA Q hQ
   simp [h2, h2', hll, hg]
   apply hQ
   clear hQ hA
   refine WK.g 800 Tryz.ntmps38 (by kernel_rfl) ?_
   intro A hA Q hQ
   simp [o1, o2, o4]
   apply hQ
   clear hQ hA
   repeat (apply WK.n)
   refine WK.g 900 Tryz.ntmps38 (by kernel_rfl) ?_
   intro A hA Q hQ
   simp [h6]
   apply hQ
   clear hQ hA
   refine WK.next (fun n => n) (IH (i + 1) (by omega) (by first | omega | (dsimp only; omega))) (by repeat (first | exact TmW.nil | refine TmW.upd ?_ (by simp (maxDischargeDepth := 120) [h6]))) (by repeat (first | exact BxW.nil | refine BxW.upd ?_ (by simp (maxDischargeDepth := 120) [h6]))) InjW.id
 · simp at h1
   have h2 : i = s := by omega
   have hT : l.take i = l := by rw [h2]; exact List.take_of_length_le (by omega)
   rw [hT]
   repeat (first | apply WK.s | refine WK.exit rfl ?_)
   refine WK.g 1000 Tryz.ntmps38 (by kernel_rfl) ?_
   intro A hA Q hQ
   simp
   apply hQ
   clear hQ hA
   refine WK.t Tryz.func38 (by simp (maxDischargeDepth := 120) [Tryz.results38, e]) (by simp [e])
set_option maxHeartbeats 4000000 in
theorem rget_c (b : List (BitVec 8)) (p s : Nat) (hs : Sz s) (hb : b.length ≤ 9223372036854775807) (hp : p ≤ 1000000) :
   FnP Tryz.prog 41 [byS b, .int .i64 p, .int .i64 s] (.tup [.int .i64 (getN b p s).1, .int .i64 (getN b p s).2]) := by
 have hs4 : s ≤ 4 := by rcases hs with rfl | rfl | rfl <;> omega
 have w1 : IntKind.i64.wrap ((b.length : Int) - p) = (b.length : Int) - p := wrap_i64 (by omega) (by omega)
 have n1 : s = 1 ∨ ¬ s = 1 ∧ s = 2 ∨ ¬ s = 1 ∧ ¬ s = 2 ∧ s = 4 := by unfold Sz at hs; omega
 have n0 : ¬ (p : Int) < 0 := by omega
 have hv0 : valN [] = 0 := rfl
 unfold byS
 refine FnP.i Tryz.func41 rfl rfl fun G w => ?_
 repeat apply WK.s
 refine WK.g 100 Tryz.ntmps41 (by kernel_rfl) ?_
 intro A hA Q hQ
 simp
 apply hQ
 clear hQ hA
 repeat apply WK.s
 apply WK.cut (⟨(upd (upd (upd (upd (upd (upd J 0 (.sl false b.length (byL b))) 1 (.int .i64 p)) 2 (.int .i64 s)) 6 (.int .i64 0)) 7 (.int .i64 0)) 23 (.bool false)), B0, 0⟩ : St)
 · intro hcut
   rcases n1 with e | ⟨e1, e⟩ | ⟨e1, e2, e⟩
   · subst e
     refine WK.g 200 Tryz.ntmps41 (by kernel_rfl) ?_
     intro A hA Q hQ
     have hg2 : (A[2]?).bind (·.dst) = some 12 := by rw [hA]; rfl
     have hg6 : (A[6]?).bind (·.dst) = some 16 := by rw [hA]; rfl
     have hg10 : (A[10]?).bind (·.dst) = some 20 := by rw [hA]; rfl
     simp [n0, hg2, hg6, hg10]
     apply hQ
     clear hQ hA
     refine WK.next (fun n => n) hcut (by repeat (first | exact TmW.nil | refine TmW.upd ?_ (by simp (maxDischargeDepth := 120)))) (by repeat (first | exact BxW.nil | refine BxW.upd ?_ (by simp (maxDischargeDepth := 120)))) InjW.id
   · subst e
     refine WK.g 300 Tryz.ntmps41 (by kernel_rfl) ?_
     intro A hA Q hQ
     have hg2 : (A[2]?).bind (·.dst) = some 12 := by rw [hA]; rfl
     have hg6 : (A[6]?).bind (·.dst) = some 16 := by rw [hA]; rfl
     have hg10 : (A[10]?).bind (·.dst) = some 20 := by rw [hA]; rfl
     simp [n0, hg2, hg6, hg10]
     apply hQ
     clear hQ hA
     refine WK.next (fun n => n) hcut (by repeat (first | exact TmW.nil | refine TmW.upd ?_ (by simp (maxDischargeDepth := 120)))) (by repeat (first | exact BxW.nil | refine BxW.upd ?_ (by simp (maxDischargeDepth := 120)))) InjW.id
   · subst e
     refine WK.g 400 Tryz.ntmps41 (by kernel_rfl) ?_
     intro A hA Q hQ
     have hg2 : (A[2]?).bind (·.dst) = some 12 := by rw [hA]; rfl
     have hg6 : (A[6]?).bind (·.dst) = some 16 := by rw [hA]; rfl
     have hg10 : (A[10]?).bind (·.dst) = some 20 := by rw [hA]; rfl
     simp [n0, hg2, hg6, hg10]
     apply hQ
     clear hQ hA
     refine WK.next (fun n => n) hcut (by repeat (first | exact TmW.nil | refine TmW.upd ?_ (by simp (maxDischargeDepth := 120)))) (by repeat (first | exact BxW.nil | refine BxW.upd ?_ (by simp (maxDischargeDepth := 120)))) InjW.id
 refine WK.c2 rfl (fun h => ?_) (fun h => ?_)
 · cases h
 by_cases hle : p + s ≤ b.length
 case neg =>
   have e : getN b p s = (0, 3) := by unfold getN; rw [if_neg hle]
   have d : decide ((b.length : Int) - p < s) = true := decide_eq_true (by omega)
   cases d0 : decide (b.length < p)
   · repeat (first | apply WK.s | apply WK.k)
     refine WK.g 500 Tryz.ntmps41 (by kernel_rfl) ?_
     intro A hA Q hQ
     have hg4 : (A[4]?).bind (·.dst) = some 28 := by rw [hA]; rfl
     simp [w1, d, d0, hg4]
     apply hQ
     clear hQ hA
     refine WK.c2 rfl (fun h => ?_) (fun h => ?_)
     · repeat apply WK.s
       refine WK.g 600 Tryz.ntmps41 (by kernel_rfl) ?_
       intro A hA Q hQ
       simp
       apply hQ
       clear hQ hA
       refine WK.t Tryz.func41 (by simp (maxDischargeDepth := 120) [Tryz.results41, e]) (by simp [e])
     · cases h
   · repeat (first | apply WK.s | apply WK.k)
     refine WK.g 700 Tryz.ntmps41 (by kernel_rfl) ?_
     intro A hA Q hQ
     have hg4 : (A[4]?).bind (·.dst) = some 28 := by rw [hA]; rfl
     simp [w1, d, d0, hg4]
     apply hQ
     clear hQ hA
     refine WK.c2 rfl (fun h => ?_) (fun h => ?_)
     · repeat apply WK.s
       refine WK.g 800 Tryz.ntmps41 (by kernel_rfl) ?_
       intro A hA Q hQ
       simp
       apply hQ
       clear hQ hA
       refine WK.t Tryz.func41 (by simp (maxDischargeDepth := 120) [Tryz.results41, e]) (by simp [e])
     · cases h
 have e : getN b p s = ((valN ((b.drop p).take s) : Int), 0) := by unfold getN; rw [if_pos hle]
 have d : decide ((b.length : Int) - p < s) = false := decide_eq_false (by omega)
 have d0 : decide (b.length < p) = false := decide_eq_false (by omega)
 obtain ⟨l, hl⟩ : ∃ l, l = (b.drop p).take s := ⟨_, rfl⟩
 have hll : l.length = s := by rw [hl]; simp only [List.length_take, List.length_drop]; omega
 have hbg : ∀ i, i < s → nth b (p + i) = nth l i := fun i hi => by
   rw [hl]; unfold nth
   rw [List.getD_eq_getElem?_getD, List.getD_eq_getElem?_getD, List.getElem?_take, if_pos hi, List.getElem?_drop]
 rw [← hl] at e
 repeat (first | apply WK.s | apply WK.k)
 refine WK.g 900 Tryz.ntmps41 (by kernel_rfl) ?_
 intro A hA Q hQ
 have hg4 : (A[4]?).bind (·.dst) = some 28 := by rw [hA]; rfl
 simp [w1, d, d0, hg4]
 apply hQ
 clear hQ hA
 refine WK.c2 rfl (fun h => ?_) (fun h => ?_)
 · cases h
 repeat (first | apply WK.s | apply WK.k)
 refine WK.g 1000 Tryz.ntmps41 (by kernel_rfl) ?_
 intro A hA Q hQ
 simp
 apply hQ
 clear hQ hA
 repeat apply WK.s
 refine WK.g 1100 Tryz.ntmps41 (by kernel_rfl) ?_
 intro A hA Q hQ
 simp
 apply hQ
 clear hQ hA
 repeat (apply WK.b)
 refine WK.lI (fun n => n) (fun i : Nat => (⟨(upd (upd (upd (upd (upd (upd J 0 (.sl false b.length (byL b))) 1 (.int .i64 p)) 2 (.int .i64 s)) 7 (.int .i64 0)) 8 (.int .i64 (valN (l.take i)))) 9 (.int .i64 i)), B0, 0⟩ : St)) (fun i => i ≤ s) (fun i => s - i) (0) (by repeat (first | exact TmW.nil | refine TmW.upd ?_ (by simp (maxDischargeDepth := 120) [hv0]))) (by repeat (first | exact BxW.nil | refine BxW.upd ?_ (by simp (maxDischargeDepth := 120) [hv0]))) InjW.id (Nat.zero_le _) (fun i hi IH => ?_)
 repeat apply WK.s
 refine WK.g 1200 Tryz.ntmps41 (by kernel_rfl) ?_
 intro A hA Q hQ
 simp
 apply hQ
 clear hQ hA
 refine WK.c2 rfl (fun h1 => ?_) (fun h1 => ?_)
 · simp at h1
   have h2 : i < s := by omega
   have h2' : i < l.length := by omega
   have h6 : IntKind.i64.wrap ((i : Int) + 1) = i + 1 := wrap_i64 (by omega) (by omega)
   have hg := by_get b (p + i) (by omega)
   rw [hbg i h2] at hg
   have hlt := valN_le (b := b) (p := p) hs4 (Nat.le_of_lt h2) hle
   rw [← hl] at hlt
   have hx := bI_lt (nth l i)
   have o1 : IntKind.i64.wrap ((valN (l.take i) : Int) * 256) = (valN (l.take i) : Int) * 256 := wrap_i64 (by omega) (by omega)
   have o2 : IntKind.i64.wrap ((valN (l.take i) : Int) * 256 + bI (nth l i)) = valN (l.take (i + 1)) := by
     rw [wrap_i64 (by omega) (by omega), take_nth h2', valN_snoc]; unfold bI; omega
   have o4 : IntKind.i64.wrap (bI (nth l i)) = bI (nth l i) := wrap_i64 (by omega) (by omega)
   have w2 : IntKind.i64.wrap ((p : Int) + i) = (p : Int) + i := wrap_i64 (by omega) (by omega)
   have c2 : (p : Int) + i < b.length := by omega
   have c3 : ((p : Int) + i).toNat = p + i := by omega
   have c5 : (0 : Int) ≤ (p : Int) + i := by omega
   have c6 : p + i < b.length := by omega
   repeat (first | apply WK.s | apply WK.b | apply WK.k)
   refine WK.g 1300 Tryz.ntmps41 (by kernel_rfl) ?_
   intro A hA Q hQ
   simp [o1, o4, w2, c2, c3, c5, c6, hg, o2]
   apply hQ
   clear hQ hA
   repeat (apply WK.n)
   refine WK.g 1400 Tryz.ntmps41 (by kernel_rfl) ?_
   intro A hA Q hQ
   simp [h6]
   apply hQ
   clear hQ hA
   refine WK.next (fun n => n) (IH (i + 1) (by omega) (by first | omega | (dsimp only; omega))) (by repeat (first | exact TmW.nil | refine TmW.upd ?_ (by simp (maxDischargeDepth := 120) [h6]))) (by repeat (first | exact BxW.nil | refine BxW.upd ?_ (by simp (maxDischargeDepth := 120) [h6]))) InjW.id
 · simp at h1
   have h2 : i = s := by omega
   have hT : l.take i = l := by rw [h2]; exact List.take_of_length_le (by omega)
   rw [hT]
   repeat (first | apply WK.s | refine WK.exit rfl ?_)
   refine WK.g 1500 Tryz.ntmps41 (by kernel_rfl) ?_
   intro A hA Q hQ
   simp
   apply hQ
   clear hQ hA
   refine WK.t Tryz.func41 (by simp (maxDischargeDepth := 120) [Tryz.results41, e]) (by simp [e])

def fID (f : Int) : Int := (fRow f).1
def fMasks (f : Int) : Bool := (fRow f).2.2
def fSize (f : Int) : Nat := ((fBits f).toNat + 7) / 8
theorem fRow_ok (f : Int) : (-1 ≤ (fRow f).1 ∧ (fRow f).1 ≤ 34) ∧ 0 ≤ (fRow f).2.1 ∧ (fRow f).2.1 ≤ 128 := by
 unfold fRow
 split
 · have h : f.toNat < fRows.length := by show f.toNat < 24; omega
   have : ∀ r, r ∈ fRows → (-1 ≤ r.1 ∧ r.1 ≤ 34) ∧ 0 ≤ r.2.1 ∧ r.2.1 ≤ 128 := by decide
   exact this _ (nth_mem h)
 · decide
theorem fSize_le (f : Int) : fSize f ≤ 16 := by
 have := fRow_ok f
 unfold fSize fBits; omega
theorem fid_c (f : Int) : FnP Tryz.prog 241 [.int .i64 f] (.int .i64 (fID f)) := by
 refine FnP.i Tryz.func241 rfl rfl fun G w => ?_
 repeat apply WK.s
 refine WK.g 100 Tryz.ntmps241 (by kernel_rfl) ?_
 intro A hA Q hQ
 simp
 apply hQ
 clear hQ hA
 repeat apply WK.s
 refine WK.g 200 Tryz.ntmps241 (by kernel_rfl) ?_
 intro A hA Q hQ
 simp
 refine RunQ.call rfl rfl rfl rfl (by rfl) (by simp (maxDischargeDepth := 120) [rowEnc]) (fat_c f) (by simp [rowEnc]) ?_
 refine RunQ.eval ?_
 simp [rowEnc]
 apply hQ
 clear hQ hA
 refine WK.t Tryz.func241 (by simp (maxDischargeDepth := 120) [Tryz.results241, fID]) (by simp [fID])
theorem fmasks_c (f : Int) : FnP Tryz.prog 182 [.int .i64 f] (.bool (fMasks f)) := by
 refine FnP.i Tryz.func182 rfl rfl fun G w => ?_
 repeat apply WK.s
 refine WK.g 100 Tryz.ntmps182 (by kernel_rfl) ?_
 intro A hA Q hQ
 simp
 apply hQ
 clear hQ hA
 repeat apply WK.s
 refine WK.g 200 Tryz.ntmps182 (by kernel_rfl) ?_
 intro A hA Q hQ
 simp
 refine RunQ.call rfl rfl rfl rfl (by rfl) (by simp (maxDischargeDepth := 120) [rowEnc]) (fat_c f) (by simp [rowEnc]) ?_
 refine RunQ.eval ?_
 simp [rowEnc]
 apply hQ
 clear hQ hA
 refine WK.t Tryz.func182 (by simp (maxDischargeDepth := 120) [Tryz.results182, fMasks]) (by simp [fMasks])
theorem fsize_c (f : Int) : FnP Tryz.prog 160 [.int .i64 f] (.int .i64 (fSize f)) := by
 have h := (fRow_ok f).2
 have h1 : IntKind.i64.wrap ((fRow f).2.1 + 7) = (fRow f).2.1 + 7 := wrap_i64 (by omega) (by omega)
 have h2 : bShr .i64 ((fRow f).2.1 + 7) 3 = fSize f := by
   have := shr_i64 ((fRow f).2.1 + 7) 3 (by omega)
   rw [show ((3 : Nat) : Int) = 3 from rfl] at this
   rw [this, show (2 : Int) ^ 3 = 8 from rfl]
   unfold fSize fBits; omega
 refine FnP.i Tryz.func160 rfl rfl fun G w => ?_
 repeat apply WK.s
 refine WK.g 100 Tryz.ntmps160 (by kernel_rfl) ?_
 intro A hA Q hQ
 simp
 apply hQ
 clear hQ hA
 repeat apply WK.s
 refine WK.g 200 Tryz.ntmps160 (by kernel_rfl) ?_
 intro A hA Q hQ
 simp
 refine RunQ.call rfl rfl rfl rfl (by rfl) (by simp (maxDischargeDepth := 120) [rowEnc, h1, h2]) (fat_c f) (by simp [rowEnc, h1, h2]) ?_
 refine RunQ.eval ?_
 simp [rowEnc, h1, h2]
 apply hQ
 clear hQ hA
 refine WK.t Tryz.func160 (by simp (maxDischargeDepth := 120) [Tryz.results160]) (by simp)
theorem rfid_c (f : Int) : FnP Tryz.prog 121 [.int .i64 f] (.int .i64 (fID f)) := by
 refine FnP.i Tryz.func121 rfl rfl fun G w => ?_
 repeat apply WK.s
 refine WK.g 100 Tryz.ntmps121 (by kernel_rfl) ?_
 intro A hA Q hQ
 simp
 apply hQ
 clear hQ hA
 repeat apply WK.s
 refine WK.g 200 Tryz.ntmps121 (by kernel_rfl) ?_
 intro A hA Q hQ
 simp
 refine RunQ.call rfl rfl rfl rfl (by rfl) (by simp (maxDischargeDepth := 120)) (rlow_c f) (by simp) ?_
 refine RunQ.eval ?_
 simp
 apply hQ
 clear hQ hA
 repeat apply WK.s
 refine WK.g 300 Tryz.ntmps121 (by kernel_rfl) ?_
 intro A hA Q hQ
 simp
 apply hQ
 clear hQ hA
 refine WK.t Tryz.func121 (by simp (maxDischargeDepth := 120) [Tryz.results121, fID]) (by simp [fID])
theorem rfmasks_c (f : Int) : FnP Tryz.prog 144 [.int .i64 f] (.bool (fMasks f)) := by
 refine FnP.i Tryz.func144 rfl rfl fun G w => ?_
 repeat apply WK.s
 refine WK.g 100 Tryz.ntmps144 (by kernel_rfl) ?_
 intro A hA Q hQ
 simp
 apply hQ
 clear hQ hA
 repeat apply WK.s
 refine WK.g 200 Tryz.ntmps144 (by kernel_rfl) ?_
 intro A hA Q hQ
 simp
 refine RunQ.call rfl rfl rfl rfl (by rfl) (by simp (maxDischargeDepth := 120)) (rlow_c f) (by simp) ?_
 refine RunQ.eval ?_
 simp
 apply hQ
 clear hQ hA
 repeat apply WK.s
 refine WK.g 300 Tryz.ntmps144 (by kernel_rfl) ?_
 intro A hA Q hQ
 simp
 apply hQ
 clear hQ hA
 refine WK.t Tryz.func144 (by simp (maxDischargeDepth := 120) [Tryz.results144, fMasks]) (by simp [fMasks])
theorem rfsize_c (f : Int) : FnP Tryz.prog 120 [.int .i64 f] (.int .i64 (fSize f)) := by
 have h := (fRow_ok f).2
 have h1 : IntKind.i64.wrap (fBits f + 7) = fBits f + 7 := by unfold fBits; exact wrap_i64 (by omega) (by omega)
 have h2 : IntKind.i64.wrap ((fBits f + 7).tdiv 8) = fSize f := by
   rw [Int.tdiv_eq_ediv_of_nonneg (by unfold fBits; omega), wrap_i64 (by unfold fBits; omega) (by unfold fBits; omega)]
   unfold fSize fBits; omega
 refine FnP.i Tryz.func120 rfl rfl fun G w => ?_
 repeat apply WK.s
 refine WK.g 100 Tryz.ntmps120 (by kernel_rfl) ?_
 intro A hA Q hQ
 simp
 apply hQ
 clear hQ hA
 repeat apply WK.s
 refine WK.g 200 Tryz.ntmps120 (by kernel_rfl) ?_
 intro A hA Q hQ
 simp
 refine RunQ.call rfl rfl rfl rfl (by rfl) (by simp (maxDischargeDepth := 120) [h1, h2]) (rfbits_c f) (by simp [h1, h2]) ?_
 refine RunQ.eval ?_
 simp [h1, h2]
 apply hQ
 clear hQ hA
 refine WK.t Tryz.func120 (by simp (maxDischargeDepth := 120) [Tryz.results120]) (by simp)
def fIndexN (id : Int) (n : Nat) : Option Nat := (List.range n).find? fun f => (nth fRows f).1 == id
def fIndex (id : Int) : Int × Bool := match fIndexN id 24 with | some f => (f, true) | none => (0, false)
theorem fIndex_some {id : Int} {n : Nat} (hn : n < 24) (h : ∀ j, j < n → ((nth fRows j).1 == id) = false) (he : ((nth fRows n).1 == id) = true) : fIndex id = ((n : Int), true) := by
 unfold fIndex fIndexN
 have : (List.range 24).find? (fun f => (nth fRows f).1 == id) = some n := by
   rw [List.find?_range_eq_some]
   exact ⟨he, List.mem_range.2 hn, fun j hj => by rw [h j hj]; rfl⟩
 rw [this]
theorem fIndex_none {id : Int} (h : ∀ j, j < 24 → ((nth fRows j).1 == id) = false) : fIndex id = (0, false) := by
 unfold fIndex fIndexN
 have : (List.range 24).find? (fun f => (nth fRows f).1 == id) = none := by
   rw [List.find?_eq_none]; intro j hj; rw [h j (List.mem_range.1 hj)]; simp
 rw [this]
theorem fRow_nat (i : Nat) (h : i < 24) : fRow i = nth fRows i := by unfold fRow; rw [if_pos (by omega)]; rfl
theorem rowsC_cl : ClL rowsC = true := ClL_flatMap _ rowEnc_cl _
theorem findex_c (id : Int) : FnP Tryz.prog 181 [.int .i64 id] (.tup [.int .i64 (fIndex id).1, .bool (fIndex id).2]) := by
 refine FnP.i Tryz.func181 rfl rfl fun G w => ?_
 repeat apply WK.s
 refine WK.g 100 Tryz.ntmps181 (by kernel_rfl) ?_
 intro A hA Q hQ
 simp
 apply hQ
 clear hQ hA
 repeat apply WK.s
 refine WK.g 200 Tryz.ntmps181 (by kernel_rfl) ?_
 intro A hA Q hQ
 simp
 refine RunQ.call rfl rfl rfl rfl (by rfl) (by simp (maxDischargeDepth := 120)) (rows_c) (by simp) ?_
 refine RunQ.eval ?_
 simp
 apply hQ
 clear hQ hA
 repeat (apply WK.b)
 refine WK.lI (fun n => n) (fun i : Nat => (⟨(upd (upd (upd J 0 (.int .i64 id)) 6 (.agg rowsC)) 7 (.int .i64 i)), B0, 0⟩ : St)) (fun i => i ≤ 24 ∧ ∀ j, j < i → ((nth fRows j).1 == id) = false) (fun i => 24 - i) (0) (by repeat (first | exact TmW.nil | refine TmW.upd ?_ (by simp (maxDischargeDepth := 120) [rowsC_cl]))) (by repeat (first | exact BxW.nil | refine BxW.upd ?_ (by simp (maxDischargeDepth := 120) [rowsC_cl]))) InjW.id (⟨by omega, by simp⟩) (fun i hi IH => ?_)
 repeat apply WK.s
 refine WK.g 300 Tryz.ntmps181 (by kernel_rfl) ?_
 intro A hA Q hQ
 simp
 apply hQ
 clear hQ hA
 repeat apply WK.s
 refine WK.c2 rfl (fun h1 => ?_) (fun h1 => ?_)
 · simp at h1
   have h2 : i < 24 := by omega
   have h2' : (i : Int) < 24 := by omega
   have h3 : i * 4 + 4 ≤ 96 := by omega
   have h4 := row_sub i ⟨by omega, by omega⟩
   rw [Int.toNat_natCast, fRow_nat i h2] at h4
   have h6 : IntKind.i64.wrap ((i : Int) + 1) = i + 1 := wrap_i64 (by omega) (by omega)
   repeat (first | apply WK.s | apply WK.b | apply WK.k)
   refine WK.g 400 Tryz.ntmps181 (by kernel_rfl) ?_
   intro A hA Q hQ
   simp [h2, h2', h3, h4, rowEnc]
   apply hQ
   clear hQ hA
   repeat apply WK.s
   refine WK.g 500 Tryz.ntmps181 (by kernel_rfl) ?_
   intro A hA Q hQ
   simp
   apply hQ
   clear hQ hA
   refine WK.c2 rfl (fun h5 => ?_) (fun h5 => ?_)
   · have e := fIndex_some h2 hi.2 h5
     repeat apply WK.s
     refine WK.g 600 Tryz.ntmps181 (by kernel_rfl) ?_
     intro A hA Q hQ
     simp
     apply hQ
     clear hQ hA
     refine WK.t Tryz.func181 (by simp (maxDischargeDepth := 120) [Tryz.results181, e]) (by simp [e])
   · repeat (first | apply WK.n | apply WK.k)
     refine WK.g 700 Tryz.ntmps181 (by kernel_rfl) ?_
     intro A hA Q hQ
     simp [h6]
     apply hQ
     clear hQ hA
     refine WK.next (fun n => n) (IH (i + 1) (⟨by omega, fun j hj => by by_cases h7 : j = i; (subst h7; exact h5); exact hi.2 j (by omega)⟩) (by first | omega | (dsimp only; omega))) (by repeat (first | exact TmW.nil | refine TmW.upd ?_ (by simp (maxDischargeDepth := 120) [h6, rowsC_cl]))) (by repeat (first | exact BxW.nil | refine BxW.upd ?_ (by simp (maxDischargeDepth := 120) [h6, rowsC_cl]))) InjW.id
 · simp at h1
   have e := fIndex_none (id := id) (fun j hj => hi.2 j (by omega))
   repeat (first | apply WK.s | refine WK.exit rfl ?_)
   refine WK.g 800 Tryz.ntmps181 (by kernel_rfl) ?_
   intro A hA Q hQ
   simp
   apply hQ
   clear hQ hA
   refine WK.t Tryz.func181 (by simp (maxDischargeDepth := 120) [Tryz.results181, e]) (by simp [e])
theorem rfindex_c (id : Int) : FnP Tryz.prog 143 [.int .i64 id] (.tup [.int .i64 (fIndex id).1, .bool (fIndex id).2]) := by
 refine FnP.i Tryz.func143 rfl rfl fun G w => ?_
 repeat apply WK.s
 refine WK.g 100 Tryz.ntmps143 (by kernel_rfl) ?_
 intro A hA Q hQ
 simp
 apply hQ
 clear hQ hA
 repeat apply WK.s
 refine WK.g 200 Tryz.ntmps143 (by kernel_rfl) ?_
 intro A hA Q hQ
 simp
 apply hQ
 clear hQ hA
 repeat (apply WK.b)
 refine WK.lI (fun n => n) (fun i : Nat => (⟨(upd (upd J 0 (.int .i64 id)) 4 (.int .i64 i)), B0, 0⟩ : St)) (fun i => i ≤ 24 ∧ ∀ j, j < i → ((nth fRows j).1 == id) = false) (fun i => 24 - i) (0) (by repeat (first | exact TmW.nil | refine TmW.upd ?_ (by simp (maxDischargeDepth := 120)))) (by repeat (first | exact BxW.nil | refine BxW.upd ?_ (by simp (maxDischargeDepth := 120)))) InjW.id (⟨by omega, by simp⟩) (fun i hi IH => ?_)
 repeat apply WK.s
 refine WK.g 300 Tryz.ntmps143 (by kernel_rfl) ?_
 intro A hA Q hQ
 simp
 apply hQ
 clear hQ hA
 refine WK.c2 rfl (fun h1 => ?_) (fun h1 => ?_)
 · simp at h1
   have h2 : i < 24 := by omega
   have h6 : IntKind.i64.wrap ((i : Int) + 1) = i + 1 := wrap_i64 (by omega) (by omega)
   have h7 : fID i = (nth fRows i).1 := by unfold fID; rw [fRow_nat i h2]
   repeat (first | apply WK.s | apply WK.b | apply WK.k)
   refine WK.g 400 Tryz.ntmps143 (by kernel_rfl) ?_
   intro A hA Q hQ
   simp
   refine RunQ.call rfl rfl rfl rfl (by rfl) (by simp (maxDischargeDepth := 120) [h7]) (rfid_c i) (by simp [h7]) ?_
   refine RunQ.eval ?_
   simp [h7]
   apply hQ
   clear hQ hA
   refine WK.c2 rfl (fun h5 => ?_) (fun h5 => ?_)
   · have e := fIndex_some h2 hi.2 h5
     repeat apply WK.s
     refine WK.g 500 Tryz.ntmps143 (by kernel_rfl) ?_
     intro A hA Q hQ
     simp
     apply hQ
     clear hQ hA
     refine WK.t Tryz.func143 (by simp (maxDischargeDepth := 120) [Tryz.results143, e]) (by simp [e])
   · repeat (first | apply WK.n | apply WK.k)
     refine WK.g 600 Tryz.ntmps143 (by kernel_rfl) ?_
     intro A hA Q hQ
     simp [h6]
     apply hQ
     clear hQ hA
     refine WK.next (fun n => n) (IH (i + 1) (⟨by omega, fun j hj => by by_cases h7 : j = i; (subst h7; exact h5); exact hi.2 j (by omega)⟩) (by first | omega | (dsimp only; omega))) (by repeat (first | exact TmW.nil | refine TmW.upd ?_ (by simp (maxDischargeDepth := 120) [h6]))) (by repeat (first | exact BxW.nil | refine BxW.upd ?_ (by simp (maxDischargeDepth := 120) [h6]))) InjW.id
 · simp at h1
   have e := fIndex_none (id := id) (fun j hj => hi.2 j (by omega))
   repeat (first | apply WK.s | refine WK.exit rfl ?_)
   refine WK.g 700 Tryz.ntmps143 (by kernel_rfl) ?_
   intro A hA Q hQ
   simp
   apply hQ
   clear hQ hA
   refine WK.t Tryz.func143 (by simp (maxDischargeDepth := 120) [Tryz.results143, e]) (by simp [e])

def hb (x : BitVec 64) (k : Nat) : BitVec 8 := (x >>> k).setWidth 8
theorem wrap_u8u (x : BitVec 64) : IntKind.wrap .u8 (uI x) = bI (x.setWidth 8) := by
 rw [wrap_u8, bI_of]; unfold bI uI; rw [BitVec.toNat_setWidth]; omega
theorem shr_uI (x : BitVec 64) (k : Nat) (hk : k ≤ 64) : bShr .u64 (uI x) k = uI (x >>> k) := by
 unfold bShr
 have : min (Int.toNat (k : Int)) (IntKind.bits .u64) = k := by show min (Int.toNat (k : Int)) 64 = k; omega
 rw [this, Int.fdiv_eq_ediv_of_nonneg _ (by exact Int.le_of_lt (Int.pow_pos (by decide)))]
 unfold uI
 rw [BitVec.toNat_ushiftRight, Nat.shiftRight_eq_div_pow]
 simp
theorem by_set (l : List (BitVec 8)) (i : Nat) (v : BitVec 8) (h : i < l.length) : (byL l).take i ++ .int .u8 (bI v) :: (byL l).drop (i + 1) = byL (l.set i v) := by
 unfold byL
 rw [List.map_set, List.set_eq_take_append_cons_drop]
 simp [h]
def wBytes (a : Wide) : List (BitVec 8) := (List.range 16).map fun j => if j < 8 then hb a.hi (56 - 8 * j) else hb a.lo (56 - 8 * (j - 8))
def wAt (a : Wide) (i : Nat) : List (BitVec 8) := (List.range 16).map fun j => if j < 8 then (if j < i then hb a.hi (56 - 8 * j) else 0#8) else (if j - 8 < i then hb a.lo (56 - 8 * (j - 8)) else 0#8)
theorem wAt_len (a : Wide) (i : Nat) : (wAt a i).length = 16 := by simp [wAt]
theorem wAt_zero (a : Wide) : byL (wAt a 0) = List.replicate 16 (.int .u8 0) := rfl
theorem wAt_eight (a : Wide) : wAt a 8 = wBytes a := rfl
theorem wAt_succ (a : Wide) (i : Nat) (h : i < 8) : ((wAt a i).set i (hb a.hi (56 - 8 * i))).set (8 + i) (hb a.lo (56 - 8 * i)) = wAt a (i + 1) := by
 match i, h with
 | 0, _ => rfl
 | 1, _ => rfl
 | 2, _ => rfl
 | 3, _ => rfl
 | 4, _ => rfl
 | 5, _ => rfl
 | 6, _ => rfl
 | 7, _ => rfl
def wPut (b : List (BitVec 8)) (a : Wide) (s : Nat) : List (BitVec 8) := b ++ (wBytes a).drop (16 - s)
theorem wBytes_len (a : Wide) : (wBytes a).length = 16 := by simp [wBytes]
theorem wPut_len (b : List (BitVec 8)) (a : Wide) (s : Nat) (h : s ≤ 16) : (wPut b a s).length = b.length + s := by simp [wPut, wBytes_len]; omega
set_option maxHeartbeats 4000000 in
theorem wput_c (b : List (BitVec 8)) (a : Wide) (s : Nat) (hs : s ≤ 16) (hb' : b.length ≤ 1000000) : FnO Tryz.prog 235 [byS b, .agg a.enc, .int .i64 s] (wPut b a s).length 1 (byL (wPut b a s)) := by
 have hf := by_full b b.length rfl
 have hbd : b.length ≤ 140737488355328 := by omega
 have hz := wAt_zero a
 rw [wPut_len b a s hs]
 unfold byS
 refine FnO.intro Tryz.func235 rfl rfl fun G w => ?_
 repeat apply WK.s
 refine WK.g 100 Tryz.ntmps235 (by kernel_rfl) ?_
 intro A hA Q hQ
 simp
 apply hQ
 clear hQ hA
 repeat apply WK.s
 refine WK.ghost (Ghost.frzVar 4 rfl rfl) ?_
 refine WK.g 200 Tryz.ntmps235 (by kernel_rfl) ?_
 intro A hA Q hQ
 simp
 apply hQ
 clear hQ hA
 repeat apply WK.s
 refine WK.g 300 Tryz.ntmps235 (by kernel_rfl) ?_
 intro A hA Q hQ
 simp
 apply hQ
 clear hQ hA
 repeat (apply WK.b)
 refine WK.lI (fun _ => 100) (fun i : Nat => (⟨(upd (upd (upd (upd (upd J 0 (.sl false b.length (byL b))) 2 (.int .i64 s)) 4 (.iptr a.enc)) 7 (.ptr 1 0)) 10 (.int .i64 i)), (upd B0 1 (.var (byL (wAt a i)))), 0⟩ : St)) (fun i => i ≤ 8) (fun i => 8 - i) (0) (by repeat (first | exact TmW.nil | refine TmW.upd ?_ (by simp (maxDischargeDepth := 120) [hz]))) (by repeat (first | exact BxW.nil | refine BxW.upd ?_ (by simp (maxDischargeDepth := 120) [hz]))) (by first | exact InjW.id | exact InjW.nil | exact InjW.one | exact InjW.two (by simp) | exact InjW.three (by simp) (by simp) (by simp)) (by omega) (fun i hi IH => ?_)
 repeat apply WK.s
 refine WK.g 400 Tryz.ntmps235 (by kernel_rfl) ?_
 intro A hA Q hQ
 simp
 apply hQ
 clear hQ hA
 repeat apply WK.s
 refine WK.c2 rfl (fun h1 => ?_) (fun h1 => ?_)
 · simp at h1
   have h2 : i < 8 := by omega
   have h2' : (i : Int) < 16 := by omega
   have h6 : IntKind.i64.wrap ((i : Int) + 1) = i + 1 := wrap_i64 (by omega) (by omega)
   have m0 : IntKind.i64.wrap (8 + (i : Int)) = 8 + (i : Int) := wrap_i64 (by omega) (by omega)
   have m1 : IntKind.i64.wrap (8 * (i : Int)) = 8 * (i : Int) := wrap_i64 (by omega) (by omega)
   have m2 : IntKind.i64.wrap (56 - 8 * (i : Int)) = ((56 - 8 * i : Nat) : Int) := by rw [wrap_i64 (by omega) (by omega)]; omega
   have hsu := wAt_succ a i h2
   obtain ⟨q, hq⟩ : ∃ q, q = 56 - 8 * i := ⟨_, rfl⟩
   rw [← hq] at m2 hsu
   have m3 := shr_uI a.hi q (by omega)
   have m4 := shr_uI a.lo q (by omega)
   have m5 : IntKind.wrap .u8 (uI (a.hi >>> q)) = bI (hb a.hi q) := wrap_u8u _
   have m6 : IntKind.wrap .u8 (uI (a.lo >>> q)) = bI (hb a.lo q) := wrap_u8u _
   have hl := wAt_len a i
   have s1 := by_set (wAt a i) i (hb a.hi q) (by omega)
   have s2 := by_set ((wAt a i).set i (hb a.hi q)) (8 + i) (hb a.lo q) (by rw [List.length_set]; omega)
   rw [hsu] at s2
   have c1 : (8 : Int) + i < 16 := by omega
   have c2 : ((8 : Int) + i).toNat = 8 + i := by omega
   have c3 : (0 : Int) ≤ 8 + (i : Int) := by omega
   have m7 : ¬ (q : Int) < 0 := by omega
   have c4 : i + 1 ≤ 16 := by omega
   have c5 : 8 + i + 1 ≤ 16 := by omega
   repeat (first | apply WK.s | apply WK.b | apply WK.k)
   refine WK.g 500 Tryz.ntmps235 (by kernel_rfl) ?_
   intro A hA Q hQ
   simp
   apply hQ
   clear hQ hA
   refine WK.regD 600 (clsM [(16, 77), (23, 77), (30, 1), (31, 1)]) (by kernel_rfl) Tryz.ntmps235 (by kernel_rfl) (by kernel_rfl) ?_
   intro A hA Q hQ
   simp [Wide.enc, m0, m1, m2, m3, m4, m5, m6, m7, h2, h2', hl, s1, s2, c1, c2, c3, c4, c5]
   apply hQ
   clear hQ hA
   repeat (apply WK.n)
   refine WK.g 700 Tryz.ntmps235 (by kernel_rfl) ?_
   intro A hA Q hQ
   simp [h6]
   apply hQ
   clear hQ hA
   refine WK.next (fun n => n) (IH (i + 1) (by omega) (by first | omega | (dsimp only; omega))) (by repeat (first | exact TmW.nil | refine TmW.upd ?_ (by simp (maxDischargeDepth := 120) [h6, Wide.enc]))) (by repeat (first | exact BxW.nil | refine BxW.upd ?_ (by simp (maxDischargeDepth := 120) [h6, Wide.enc]))) InjW.id
 · simp at h1
   have hi8 : i = 8 := by omega
   subst hi8
   rw [wAt_eight]
   repeat (first | apply WK.s | refine WK.exit rfl ?_)
   refine WK.ghost (Ghost.frzVar 7 rfl rfl) ?_
   refine WK.g 800 Tryz.ntmps235 (by kernel_rfl) ?_
   intro A hA Q hQ
   simp
   refine RunQ.append0 900 901 appByte rfl rfl rfl rfl rfl rfl rfl (by simp [hbd]) (by simp [hbd]) (by simp [hbd]) (by simp [hbd]) (by simp [hbd]) (by simp [hbd]) (by simp) ?_
   refine RunQ.eval ?_
   simp [hbd]
   apply hQ
   clear hQ hA
   obtain ⟨q, hq⟩ : ∃ q, q = 16 - s := ⟨_, rfl⟩
   have mx : ¬ (s : Int) < 0 := by omega
   have mn : ¬ (16 : Int) < s := by omega
   have m1 : IntKind.i64.wrap (16 - (s : Int)) = (q : Int) := by rw [wrap_i64 (by omega) (by omega)]; omega
   have m2 : (q : Int) ≤ 16 := by omega
   have m3 : 16 - q = s := by omega
   have hwl := wBytes_len a
   have hdl : ((wBytes a).drop q).length = s := by rw [List.length_drop, hwl]; omega
   have m5 : (byL (wBytes a)).drop q = byL ((wBytes a).drop q) := byL_drop _ _
   have m6 : (byL ((wBytes a).drop q)).take s = byL ((wBytes a).drop q) := by_full _ _ hdl.symm
   have e : wPut b a s = b ++ (wBytes a).drop q := by unfold wPut; rw [hq]
   have hbd2 : b.length + s ≤ 140737488355328 := by omega
   rw [e, hf]
   repeat apply WK.s
   refine WK.g 900 Tryz.ntmps235 (by kernel_rfl) ?_
   intro A hA Q hQ
   simp [mx, mn, m1, m2, m3, m5, m6]
   refine RunQ.append 902 appByte rfl rfl rfl rfl rfl rfl rfl (by simp [hbd2, hdl, m6]) rfl (by simp [hbd2, hdl, m6]) (by simp [hbd2, hdl, m6]) (by simp [hbd2, hdl, m6]) (by simp [hbd2, hdl, m6]) ?_
   refine RunQ.eval ?_
   simp [hbd2, hdl, m6]
   apply hQ
   clear hQ hA
   refine WK.retO Tryz.func235 (by rfl) (by rfl) (by simp (maxDischargeDepth := 120) [byL_app, m6]) (by simp [byL_app, m6])

theorem wrap_u64n {n : Int} (h : 0 ≤ n) (h' : n < 9223372036854775808) : IntKind.wrap .u64 n = n := by
 unfold IntKind.wrap
 show (if (false && decide (n % 18446744073709551616 ≥ 9223372036854775808)) = true then n % 18446744073709551616 - 18446744073709551616 else n % 18446744073709551616) = n
 rw [Bool.false_and, if_neg Bool.false_ne_true]
 exact Int.emod_eq_of_lt h (by omega)
def wStep (a : Wide) (x : BitVec 8) : Wide := ⟨(a.hi <<< 8) ||| (a.lo >>> 56), (a.lo <<< 8) ||| x.setWidth 64⟩
def wVal (l : List (BitVec 8)) : Wide := l.foldl wStep wideZ
theorem wVal_snoc (l : List (BitVec 8)) (x : BitVec 8) : wVal (l ++ [x]) = wStep (wVal l) x := by simp [wVal]
def wGet (b : List (BitVec 8)) (s : Nat) : Wide × Bool := if s ≤ b.length then (wVal (b.take s), true) else (wideZ, false)
theorem shl_uI (x : BitVec 64) : bShl .u64 (uI x) 8 = uI (x <<< 8) := by
 unfold bShl
 show IntKind.wrap .u64 (uI x * 2 ^ 8) = _
 unfold IntKind.wrap uI
 show (if (false && decide (((x.toNat : Int) * 2 ^ 8) % 18446744073709551616 ≥ 9223372036854775808)) = true then _ else ((x.toNat : Int) * 2 ^ 8) % 18446744073709551616) = _
 rw [Bool.false_and, if_neg Bool.false_ne_true, BitVec.toNat_shiftLeft, Nat.shiftLeft_eq]
 omega
theorem cvt_u64 (x : BitVec 8) : IntKind.wrap .u64 (bI x) = uI (x.setWidth 64) := by
 have hx := x.isLt
 rw [wrap_u64n (by unfold bI; omega) (by unfold bI; omega)]
 unfold bI uI
 rw [BitVec.toNat_setWidth]; omega
set_option maxHeartbeats 2000000 in
theorem wget_c (b : List (BitVec 8)) (s : Nat) (hs : s ≤ 16) (hb' : b.length ≤ 9223372036854775807) : FnP Tryz.prog 102 [byS b, .int .i64 s] (.tup [.agg (wGet b s).1.enc, .bool (wGet b s).2]) := by
 have mx : ¬ (s : Int) < 0 := by omega
 have h56 : ∀ x, bShr .u64 (uI x) 56 = uI (x >>> 56) := fun x => shr_uI x 56 (by omega)
 have h8 := shl_uI
 have hcv := cvt_u64
 unfold byS
 by_cases hle : s ≤ b.length
 case neg =>
   have e : wGet b s = (wideZ, false) := by unfold wGet; rw [if_neg hle]
   have m1 : ¬ (16 : Int) < b.length := by omega
   have m2 : (b.length : Int) < s := by omega
   have m3 : b.length < s := by omega
   refine FnP.i Tryz.func102 rfl rfl fun G w => ?_
   repeat apply WK.s
   refine WK.g 100 Tryz.ntmps102 (by kernel_rfl) ?_
   intro A hA Q hQ
   simp
   apply hQ
   clear hQ hA
   repeat apply WK.s
   refine WK.g 200 Tryz.ntmps102 (by kernel_rfl) ?_
   intro A hA Q hQ
   have hg2 : (A[2]?).bind (·.dst) = some 11 := by rw [hA]; rfl
   simp [mx, m1, m2, m3, hg2]
   apply hQ
   clear hQ hA
   refine WK.c2 rfl (fun h => ?_) (fun h => ?_)
   · repeat apply WK.s
     refine WK.g 300 Tryz.ntmps102 (by kernel_rfl) ?_
     intro A hA Q hQ
     simp
     apply hQ
     clear hQ hA
     refine WK.t Tryz.func102 (by simp (maxDischargeDepth := 120) [Tryz.results102, e, wideZ, Wide.enc, uZ_]) (by simp [e, wideZ, Wide.enc, uZ_])
   · simp at h
 have e : wGet b s = (wVal (b.take s), true) := by unfold wGet; rw [if_pos hle]
 obtain ⟨l, hl⟩ : ∃ l, l = b.take s := ⟨_, rfl⟩
 have hll : l.length = s := by rw [hl, List.length_take]; omega
 have hsl : (byL b).take s = byL l := by rw [byL_take, hl]
 have hv0 : wVal [] = wideZ := rfl
 have c1 : (s : Int) ≤ b.length := by omega
 rw [← hl] at e
 refine FnP.i Tryz.func102 rfl rfl fun G w => ?_
 repeat apply WK.s
 refine WK.g 100 Tryz.ntmps102 (by kernel_rfl) ?_
 intro A hA Q hQ
 simp
 apply hQ
 clear hQ hA
 repeat apply WK.s
 apply WK.cut (⟨(upd (upd (upd (upd J 0 (.sl false b.length (byL b))) 1 (.int .i64 s)) 4 (.ptr 50 0)) 17 (.bool false)), (upd B0 50 (.var wideZ.enc)), 0⟩ : St)
 · intro hcut
   by_cases m1 : (16 : Int) < b.length
   · have m2 : ¬ (16 : Int) < s := by omega
     have m4 : 16 < b.length := by omega
     refine WK.g 200 Tryz.ntmps102 (by kernel_rfl) ?_
     intro A hA Q hQ
     have hg2 : (A[2]?).bind (·.dst) = some 11 := by rw [hA]; rfl
     simp [mx, m1, m2, m4, hg2]
     apply hQ
     clear hQ hA
     refine WK.next (fun n => if n = 50 then 0 else n) hcut (by repeat (first | exact TmW.nil | refine TmW.upd ?_ (by simp (maxDischargeDepth := 120) [wideZ, Wide.enc, uZ_]))) (by repeat (first | exact BxW.nil | refine BxW.upd ?_ (by simp (maxDischargeDepth := 120) [wideZ, Wide.enc, uZ_]))) (by first | exact InjW.id | exact InjW.nil | exact InjW.one | exact InjW.two (by simp) | exact InjW.three (by simp) (by simp) (by simp))
   · have m2 : ¬ (b.length : Int) < s := by omega
     have m3 : ¬ b.length < s := by omega
     have m4 : ¬ 16 < b.length := by omega
     refine WK.g 300 Tryz.ntmps102 (by kernel_rfl) ?_
     intro A hA Q hQ
     have hg2 : (A[2]?).bind (·.dst) = some 11 := by rw [hA]; rfl
     simp [mx, m1, m2, m3, m4, hg2]
     apply hQ
     clear hQ hA
     refine WK.next (fun n => if n = 50 then 0 else n) hcut (by repeat (first | exact TmW.nil | refine TmW.upd ?_ (by simp (maxDischargeDepth := 120) [wideZ, Wide.enc, uZ_]))) (by repeat (first | exact BxW.nil | refine BxW.upd ?_ (by simp (maxDischargeDepth := 120) [wideZ, Wide.enc, uZ_]))) (by first | exact InjW.id | exact InjW.nil | exact InjW.one | exact InjW.two (by simp) | exact InjW.three (by simp) (by simp) (by simp))
 refine WK.c2 rfl (fun h => ?_) (fun h => ?_)
 · cases h
 repeat (first | apply WK.s | apply WK.k)
 refine WK.g 400 Tryz.ntmps102 (by kernel_rfl) ?_
 intro A hA Q hQ
 simp
 apply hQ
 clear hQ hA
 repeat apply WK.s
 refine WK.g 500 Tryz.ntmps102 (by kernel_rfl) ?_
 intro A hA Q hQ
 simp [c1, hsl, hle]
 apply hQ
 clear hQ hA
 repeat (apply WK.b)
 refine WK.lI (fun n => if n = 51 then 0 else n) (fun i : Nat => (⟨(upd (upd (upd (upd (upd J 4 (.ptr 50 0)) 6 (.ptr 51 0)) 21 (.sl false s (byL l))) 22 (.int .i64 s)) 23 (.int .i64 i)), (upd (upd B0 50 (.var wideZ.enc)) 51 (.var (wVal (l.take i)).enc)), 0⟩ : St)) (fun i => i ≤ s) (fun i => s - i) (0) (by repeat (first | exact TmW.nil | refine TmW.upd ?_ (by simp (maxDischargeDepth := 120) [hv0, wideZ, Wide.enc, uZ_]))) (by repeat (first | exact BxW.nil | refine BxW.upd ?_ (by simp (maxDischargeDepth := 120) [hv0, wideZ, Wide.enc, uZ_]))) (by first | exact InjW.id | exact InjW.nil | exact InjW.one | exact InjW.two (by simp) | exact InjW.three (by simp) (by simp) (by simp)) (Nat.zero_le _) (fun i hi IH => ?_)
 repeat apply WK.s
 refine WK.g 600 Tryz.ntmps102 (by kernel_rfl) ?_
 intro A hA Q hQ
 simp
 apply hQ
 clear hQ hA
 repeat apply WK.s
 refine WK.c2 rfl (fun h1 => ?_) (fun h1 => ?_)
 · simp at h1
   have h2 : i < s := by omega
   have h2' : i < l.length := by omega
   have h6 : IntKind.i64.wrap ((i : Int) + 1) = i + 1 := wrap_i64 (by omega) (by omega)
   have hg := by_get l i h2'
   have o3 : wVal (l.take (i + 1)) = wStep (wVal (l.take i)) (nth l i) := by rw [take_nth h2', wVal_snoc]
   obtain ⟨a, ha⟩ : ∃ a, a = wVal (l.take i) := ⟨_, rfl⟩
   rw [← ha] at o3 ⊢
   repeat (first | apply WK.s | apply WK.b | apply WK.k)
   refine WK.g 700 Tryz.ntmps102 (by kernel_rfl) ?_
   intro A hA Q hQ
   simp [h2, h2', hll, hg]
   apply hQ
   clear hQ hA
   repeat apply WK.s
   refine WK.g 800 Tryz.ntmps102 (by kernel_rfl) ?_
   intro A hA Q hQ
   simp [Wide.enc, h56, h8]
   apply hQ
   clear hQ hA
   refine WK.g 900 Tryz.ntmps102 (by kernel_rfl) ?_
   intro A hA Q hQ
   simp [h8, hcv]
   apply hQ
   clear hQ hA
   repeat (apply WK.n)
   refine WK.g 1000 Tryz.ntmps102 (by kernel_rfl) ?_
   intro A hA Q hQ
   simp [h6]
   apply hQ
   clear hQ hA
   refine WK.next (fun n => n) (IH (i + 1) (by omega) (by first | omega | (dsimp only; omega))) (by repeat (first | exact TmW.nil | refine TmW.upd ?_ (by simp (maxDischargeDepth := 120) [h6, o3, wStep, Wide.enc]))) (by repeat (first | exact BxW.nil | refine BxW.upd ?_ (by simp (maxDischargeDepth := 120) [h6, o3, wStep, Wide.enc]))) InjW.id
 · simp at h1
   have h2 : i = s := by omega
   have hT : l.take i = l := by rw [h2]; exact List.take_of_length_le (by omega)
   rw [hT]
   repeat (first | apply WK.s | refine WK.exit rfl ?_)
   refine WK.g 1100 Tryz.ntmps102 (by kernel_rfl) ?_
   intro A hA Q hQ
   simp
   apply hQ
   clear hQ hA
   refine WK.t Tryz.func102 (by simp (maxDischargeDepth := 120) [Tryz.results102, e]) (by simp [e])
set_option maxHeartbeats 2000000 in
theorem rwget_c (b : List (BitVec 8)) (s : Nat) (hs : s ≤ 16) (hb' : b.length ≤ 9223372036854775807) : FnP Tryz.prog 72 [byS b, .int .i64 s] (.tup [.agg (wGet b s).1.enc, .bool (wGet b s).2]) := by
 have mx : ¬ (s : Int) < 0 := by omega
 have mn : ¬ (16 : Int) < s := by omega
 have h56 : ∀ x, bShr .u64 (uI x) 56 = uI (x >>> 56) := fun x => shr_uI x 56 (by omega)
 have h8 := shl_uI
 have hcv := cvt_u64
 unfold byS
 by_cases hle : s ≤ b.length
 case neg =>
   have e : wGet b s = (wideZ, false) := by unfold wGet; rw [if_neg hle]
   have m2 : (b.length : Int) < s := by omega
   have m3 : b.length < s := by omega
   refine FnP.i Tryz.func72 rfl rfl fun G w => ?_
   repeat apply WK.s
   refine WK.g 100 Tryz.ntmps72 (by kernel_rfl) ?_
   intro A hA Q hQ
   simp
   apply hQ
   clear hQ hA
   repeat apply WK.s
   refine WK.g 200 Tryz.ntmps72 (by kernel_rfl) ?_
   intro A hA Q hQ
   have hg2 : (A[2]?).bind (·.dst) = some 10 := by rw [hA]; rfl
   have hg6 : (A[6]?).bind (·.dst) = some 14 := by rw [hA]; rfl
   simp [mx, mn, m2, m3, hg2, hg6]
   apply hQ
   clear hQ hA
   refine WK.c2 rfl (fun h => ?_) (fun h => ?_)
   · repeat apply WK.s
     refine WK.g 300 Tryz.ntmps72 (by kernel_rfl) ?_
     intro A hA Q hQ
     simp
     apply hQ
     clear hQ hA
     refine WK.t Tryz.func72 (by simp (maxDischargeDepth := 120) [Tryz.results72, e, wideZ, Wide.enc, uZ_]) (by simp [e, wideZ, Wide.enc, uZ_])
   · simp at h
 have e : wGet b s = (wVal (b.take s), true) := by unfold wGet; rw [if_pos hle]
 obtain ⟨l, hl⟩ : ∃ l, l = b.take s := ⟨_, rfl⟩
 have hll : l.length = s := by rw [hl, List.length_take]; omega
 have hbg : ∀ i, i < s → nth b i = nth l i := fun i hi => by
   rw [hl]; unfold nth
   rw [List.getD_eq_getElem?_getD, List.getD_eq_getElem?_getD, List.getElem?_take, if_pos hi]
 have hv0 : wVal [] = wideZ := rfl
 have m2 : ¬ (b.length : Int) < s := by omega
 have m3 : ¬ b.length < s := by omega
 rw [← hl] at e
 refine FnP.i Tryz.func72 rfl rfl fun G w => ?_
 repeat apply WK.s
 refine WK.g 100 Tryz.ntmps72 (by kernel_rfl) ?_
 intro A hA Q hQ
 simp
 apply hQ
 clear hQ hA
 repeat apply WK.s
 refine WK.g 200 Tryz.ntmps72 (by kernel_rfl) ?_
 intro A hA Q hQ
 have hg2 : (A[2]?).bind (·.dst) = some 10 := by rw [hA]; rfl
 have hg6 : (A[6]?).bind (·.dst) = some 14 := by rw [hA]; rfl
 simp [mx, mn, m2, m3, hg2, hg6]
 apply hQ
 clear hQ hA
 refine WK.c2 rfl (fun h => ?_) (fun h => ?_)
 · cases h
 repeat (first | apply WK.s | apply WK.k)
 refine WK.g 300 Tryz.ntmps72 (by kernel_rfl) ?_
 intro A hA Q hQ
 simp
 apply hQ
 clear hQ hA
 repeat apply WK.s
 refine WK.g 400 Tryz.ntmps72 (by kernel_rfl) ?_
 intro A hA Q hQ
 simp
 apply hQ
 clear hQ hA
 repeat (apply WK.b)
 refine WK.lI (fun n => if n = 50 then 0 else if n = 51 then 201 else n) (fun i : Nat => (⟨(upd (upd (upd (upd (upd J 0 (.sl false b.length (byL b))) 1 (.int .i64 s)) 4 (.ptr 50 0)) 6 (.ptr 51 0)) 7 (.int .i64 i)), (upd (upd B0 50 (.var wideZ.enc)) 51 (.var (wVal (l.take i)).enc)), 0⟩ : St)) (fun i => i ≤ s) (fun i => s - i) (0) (by repeat (first | exact TmW.nil | refine TmW.upd ?_ (by simp (maxDischargeDepth := 120) [hv0, wideZ, Wide.enc, uZ_]))) (by repeat (first | exact BxW.nil | refine BxW.upd ?_ (by simp (maxDischargeDepth := 120) [hv0, wideZ, Wide.enc, uZ_]))) (by first | exact InjW.id | exact InjW.nil | exact InjW.one | exact InjW.two (by simp) | exact InjW.three (by simp) (by simp) (by simp)) (Nat.zero_le _) (fun i hi IH => ?_)
 repeat apply WK.s
 refine WK.g 500 Tryz.ntmps72 (by kernel_rfl) ?_
 intro A hA Q hQ
 simp
 apply hQ
 clear hQ hA
 refine WK.c2 rfl (fun h1 => ?_) (fun h1 => ?_)
 · simp at h1
   have h2 : i < s := by omega
   have h2' : i < l.length := by omega
   have h2b : i < b.length := by omega
   have h6 : IntKind.i64.wrap ((i : Int) + 1) = i + 1 := wrap_i64 (by omega) (by omega)
   have hg := by_get b i h2b
   rw [hbg i h2] at hg
   have o3 : wVal (l.take (i + 1)) = wStep (wVal (l.take i)) (nth l i) := by rw [take_nth h2', wVal_snoc]
   obtain ⟨a, ha⟩ : ∃ a, a = wVal (l.take i) := ⟨_, rfl⟩
   rw [← ha] at o3 ⊢
   repeat (first | apply WK.s | apply WK.b | apply WK.k)
   refine WK.regD 600 (clsM [(27, 51), (30, 51), (34, 51), (39, 77), (6, 51)]) (by kernel_rfl) Tryz.ntmps72 (by kernel_rfl) (by kernel_rfl) ?_
   intro A hA Q hQ
   simp [Wide.enc, h56, h8, hcv, h2b, hg]
   apply hQ
   clear hQ hA
   repeat (apply WK.n)
   refine WK.g 700 Tryz.ntmps72 (by kernel_rfl) ?_
   intro A hA Q hQ
   simp [h6]
   apply hQ
   clear hQ hA
   refine WK.next (fun n => n) (IH (i + 1) (by omega) (by first | omega | (dsimp only; omega))) (by repeat (first | exact TmW.nil | refine TmW.upd ?_ (by simp (maxDischargeDepth := 120) [h6, o3, wStep, Wide.enc]))) (by repeat (first | exact BxW.nil | refine BxW.upd ?_ (by simp (maxDischargeDepth := 120) [h6, o3, wStep, Wide.enc]))) InjW.id
 · simp at h1
   have h2 : i = s := by omega
   have hT : l.take i = l := by rw [h2]; exact List.take_of_length_le (by omega)
   rw [hT]
   repeat (first | apply WK.s | refine WK.exit rfl ?_)
   refine WK.g 800 Tryz.ntmps72 (by kernel_rfl) ?_
   intro A hA Q hQ
   simp
   apply hQ
   clear hQ hA
   refine WK.t Tryz.func72 (by simp (maxDischargeDepth := 120) [Tryz.results72, e]) (by simp [e])

def Oxm.beyond (o : Oxm) (w : Wide) : Bool := !(w.less (lowW (fBits o.field))).zero
def Oxm.form (o : Oxm) : Int := if Oxm.beyond o o.value then 7 else if !o.masked then 0 else if Oxm.beyond o o.mask || o.mask.zero then 8 else if !(o.value.less o.mask).zero then 5 else 0
def Oxm.right (o : Oxm) : Bool := !(!fRight o.field || ((o.masked && !fMasks o.field) || (!o.masked && !o.mask.zero))) && (Oxm.form o) == 0
theorem obeyond_c (o : Oxm) (w0 : Wide) : FnP Tryz.prog 184 [.agg w0.enc, .iptr o.enc] (.bool (Oxm.beyond o w0)) := by
 refine FnP.i Tryz.func184 rfl rfl fun G w => ?_
 repeat apply WK.s
 refine WK.g 100 Tryz.ntmps184 (by kernel_rfl) ?_
 intro A hA Q hQ
 simp
 apply hQ
 clear hQ hA
 repeat apply WK.s
 refine WK.ghost (Ghost.frzVar 2 rfl rfl) ?_
 refine WK.regD 200 clsOf (by kernel_rfl) Tryz.ntmps184 (by kernel_rfl) (by kernel_rfl) ?_
 intro A hA Q hQ
 simp [Oxm.enc]
 refine RunQ.call rfl rfl rfl rfl (by rfl) (by simp (maxDischargeDepth := 120)) (fbits_c o.field) (by simp) ?_
 refine RunQ.eval ?_
 simp
 refine RunQ.call rfl rfl rfl rfl (by rfl) (by simp (maxDischargeDepth := 120)) (low_c (fBits o.field)) (by simp) ?_
 refine RunQ.eval ?_
 simp
 refine RunQ.call rfl rfl rfl rfl (by rfl) (by simp (maxDischargeDepth := 120)) (less_c w0 (lowW (fBits o.field))) (by simp) ?_
 refine RunQ.eval ?_
 simp
 refine RunQ.call rfl rfl rfl rfl (by rfl) (by simp (maxDischargeDepth := 120)) (zero_c (w0.less (lowW (fBits o.field)))) (by simp) ?_
 refine RunQ.eval ?_
 simp
 apply hQ
 clear hQ hA
 refine WK.t Tryz.func184 (by simp (maxDischargeDepth := 120) [Tryz.results184, Oxm.beyond]) (by simp [Oxm.beyond])
set_option maxHeartbeats 2000000 in
theorem oform_c (o : Oxm) : FnP Tryz.prog 161 [.agg o.enc] (.int .i64 (Oxm.form o)) := by
 have hb1 := obeyond_c o o.value
 have hb2 := obeyond_c o o.mask
 have hz := zero_c o.mask
 have hl := less_c o.value o.mask
 have hz2 := zero_c (o.value.less o.mask)
 simp only [Oxm.enc, Wide.enc] at hb1 hb2 hz hl hz2
 cases k1 : Oxm.beyond o o.value
 case true =>
   rw [k1] at hb1
   have e : (Oxm.form o) = 7 := by unfold Oxm.form; rw [k1]; rfl
   refine FnP.i Tryz.func161 rfl rfl fun G w => ?_
   repeat apply WK.s
   refine WK.g 100 Tryz.ntmps161 (by kernel_rfl) ?_
   intro A hA Q hQ
   simp [Oxm.enc]
   apply hQ
   clear hQ hA
   repeat apply WK.s
   refine WK.ghost (Ghost.frzVar 1 rfl rfl) ?_
   refine WK.g 200 Tryz.ntmps161 (by kernel_rfl) ?_
   intro A hA Q hQ
   simp
   apply hQ
   clear hQ hA
   repeat (first | apply WK.s | apply WK.b)
   refine WK.g 300 Tryz.ntmps161 (by kernel_rfl) ?_
   intro A hA Q hQ
   simp
   refine RunQ.call rfl rfl rfl rfl (by rfl) (by simp (maxDischargeDepth := 120)) (hb1) (by simp) ?_
   refine RunQ.eval ?_
   simp
   apply hQ
   clear hQ hA
   refine WK.c2 rfl (fun h => ?_) (fun h => ?_)
   · repeat apply WK.s
     refine WK.g 400 Tryz.ntmps161 (by kernel_rfl) ?_
     intro A hA Q hQ
     simp
     apply hQ
     clear hQ hA
     refine WK.t Tryz.func161 (by simp (maxDischargeDepth := 120) [Tryz.results161, e]) (by simp [e])
   · cases h
 rw [k1] at hb1
 cases k2 : o.masked
 case false =>
   have e : (Oxm.form o) = 0 := by unfold Oxm.form; rw [k1, k2]; rfl
   rw [k2] at hb1
   refine FnP.i Tryz.func161 rfl rfl fun G w => ?_
   repeat apply WK.s
   refine WK.g 100 Tryz.ntmps161 (by kernel_rfl) ?_
   intro A hA Q hQ
   simp [Oxm.enc, k2]
   apply hQ
   clear hQ hA
   repeat apply WK.s
   refine WK.ghost (Ghost.frzVar 1 rfl rfl) ?_
   refine WK.g 200 Tryz.ntmps161 (by kernel_rfl) ?_
   intro A hA Q hQ
   simp
   apply hQ
   clear hQ hA
   repeat (first | apply WK.s | apply WK.b)
   refine WK.g 300 Tryz.ntmps161 (by kernel_rfl) ?_
   intro A hA Q hQ
   simp
   refine RunQ.call rfl rfl rfl rfl (by rfl) (by simp (maxDischargeDepth := 120)) (hb1) (by simp) ?_
   refine RunQ.eval ?_
   simp
   apply hQ
   clear hQ hA
   refine WK.c2 rfl (fun h => ?_) (fun h => ?_)
   · cases h
   repeat apply WK.s
   refine WK.g 400 Tryz.ntmps161 (by kernel_rfl) ?_
   intro A hA Q hQ
   simp
   apply hQ
   clear hQ hA
   refine WK.c2 rfl (fun h => ?_) (fun h => ?_)
   · repeat apply WK.s
     refine WK.g 500 Tryz.ntmps161 (by kernel_rfl) ?_
     intro A hA Q hQ
     simp
     apply hQ
     clear hQ hA
     refine WK.t Tryz.func161 (by simp (maxDischargeDepth := 120) [Tryz.results161, e]) (by simp [e])
   · cases h
 rw [k2] at hb1 hb2
 cases k3 : Oxm.beyond o o.mask || o.mask.zero
 case true =>
   have e : (Oxm.form o) = 8 := by unfold Oxm.form; rw [k1, k2, k3]; rfl
   refine FnP.i Tryz.func161 rfl rfl fun G w => ?_
   repeat apply WK.s
   refine WK.g 100 Tryz.ntmps161 (by kernel_rfl) ?_
   intro A hA Q hQ
   simp [Oxm.enc, k2]
   apply hQ
   clear hQ hA
   repeat apply WK.s
   refine WK.ghost (Ghost.frzVar 1 rfl rfl) ?_
   refine WK.g 200 Tryz.ntmps161 (by kernel_rfl) ?_
   intro A hA Q hQ
   simp
   apply hQ
   clear hQ hA
   repeat (first | apply WK.s | apply WK.b)
   refine WK.g 300 Tryz.ntmps161 (by kernel_rfl) ?_
   intro A hA Q hQ
   simp
   refine RunQ.call rfl rfl rfl rfl (by rfl) (by simp (maxDischargeDepth := 120)) (hb1) (by simp) ?_
   refine RunQ.eval ?_
   simp
   apply hQ
   clear hQ hA
   refine WK.c2 rfl (fun h => ?_) (fun h => ?_)
   · cases h
   repeat apply WK.s
   refine WK.g 400 Tryz.ntmps161 (by kernel_rfl) ?_
   intro A hA Q hQ
   simp
   apply hQ
   clear hQ hA
   refine WK.c2 rfl (fun h => ?_) (fun h => ?_)
   · cases h
   cases k4 : Oxm.beyond o o.mask
   · rw [k4] at hb2 k3
     rw [Bool.false_or] at k3
     rw [k3] at hz
     repeat apply WK.s
     refine WK.g 500 Tryz.ntmps161 (by kernel_rfl) ?_
     intro A hA Q hQ
     have hg4 : (A[4]?).bind (·.dst) = some 19 := by rw [hA]; rfl
     simp [hg4]
     refine RunQ.call rfl rfl rfl rfl (by rfl) (by simp (maxDischargeDepth := 120) [hg4]) (hb2) (by simp [hg4]) ?_
     refine RunQ.eval ?_
     simp [hg4]
     refine RunQ.callG rfl rfl (by simp [hg4]) rfl (by rfl) (by simp (maxDischargeDepth := 120) [hg4]) (hz) (by simp [hg4]) ?_
     refine RunQ.eval ?_
     simp [hg4]
     apply hQ
     clear hQ hA
     refine WK.c2 rfl (fun h => ?_) (fun h => ?_)
     · repeat apply WK.s
       refine WK.g 600 Tryz.ntmps161 (by kernel_rfl) ?_
       intro A hA Q hQ
       simp
       apply hQ
       clear hQ hA
       refine WK.t Tryz.func161 (by simp (maxDischargeDepth := 120) [Tryz.results161, e]) (by simp [e])
     · cases h
   · rw [k4] at hb2
     repeat apply WK.s
     refine WK.g 700 Tryz.ntmps161 (by kernel_rfl) ?_
     intro A hA Q hQ
     have hg4 : (A[4]?).bind (·.dst) = some 19 := by rw [hA]; rfl
     simp [hg4]
     refine RunQ.call rfl rfl rfl rfl (by rfl) (by simp (maxDischargeDepth := 120) [hg4]) (hb2) (by simp [hg4]) ?_
     refine RunQ.eval ?_
     simp [hg4]
     apply hQ
     clear hQ hA
     refine WK.c2 rfl (fun h => ?_) (fun h => ?_)
     · repeat apply WK.s
       refine WK.g 800 Tryz.ntmps161 (by kernel_rfl) ?_
       intro A hA Q hQ
       simp
       apply hQ
       clear hQ hA
       refine WK.t Tryz.func161 (by simp (maxDischargeDepth := 120) [Tryz.results161, e]) (by simp [e])
     · cases h
 rw [Bool.or_eq_false_iff] at k3
 rw [k3.1] at hb2
 rw [k3.2] at hz
 cases k5 : (o.value.less o.mask).zero
 · have e : (Oxm.form o) = 5 := by unfold Oxm.form; rw [k1, k2, k3.1, k3.2, k5]; rfl
   rw [k5] at hz2
   refine FnP.i Tryz.func161 rfl rfl fun G w => ?_
   repeat apply WK.s
   refine WK.g 100 Tryz.ntmps161 (by kernel_rfl) ?_
   intro A hA Q hQ
   simp [Oxm.enc, k2]
   apply hQ
   clear hQ hA
   repeat apply WK.s
   refine WK.ghost (Ghost.frzVar 1 rfl rfl) ?_
   refine WK.g 200 Tryz.ntmps161 (by kernel_rfl) ?_
   intro A hA Q hQ
   simp
   apply hQ
   clear hQ hA
   repeat (first | apply WK.s | apply WK.b)
   refine WK.g 300 Tryz.ntmps161 (by kernel_rfl) ?_
   intro A hA Q hQ
   simp
   refine RunQ.call rfl rfl rfl rfl (by rfl) (by simp (maxDischargeDepth := 120)) (hb1) (by simp) ?_
   refine RunQ.eval ?_
   simp
   apply hQ
   clear hQ hA
   refine WK.c2 rfl (fun h => ?_) (fun h => ?_)
   · cases h
   repeat apply WK.s
   refine WK.g 400 Tryz.ntmps161 (by kernel_rfl) ?_
   intro A hA Q hQ
   simp
   apply hQ
   clear hQ hA
   refine WK.c2 rfl (fun h => ?_) (fun h => ?_)
   · cases h
   repeat apply WK.s
   refine WK.g 500 Tryz.ntmps161 (by kernel_rfl) ?_
   intro A hA Q hQ
   have hg4 : (A[4]?).bind (·.dst) = some 19 := by rw [hA]; rfl
   simp [hg4]
   refine RunQ.call rfl rfl rfl rfl (by rfl) (by simp (maxDischargeDepth := 120) [hg4]) (hb2) (by simp [hg4]) ?_
   refine RunQ.eval ?_
   simp [hg4]
   refine RunQ.callG rfl rfl (by simp [hg4]) rfl (by rfl) (by simp (maxDischargeDepth := 120) [hg4]) (hz) (by simp [hg4]) ?_
   refine RunQ.eval ?_
   simp [hg4]
   apply hQ
   clear hQ hA
   refine WK.c2 rfl (fun h => ?_) (fun h => ?_)
   · cases h
   repeat apply WK.s
   refine WK.g 600 Tryz.ntmps161 (by kernel_rfl) ?_
   intro A hA Q hQ
   simp
   refine RunQ.call rfl rfl rfl rfl (by rfl) (by simp (maxDischargeDepth := 120)) (hl) (by simp) ?_
   refine RunQ.eval ?_
   simp
   refine RunQ.call rfl rfl rfl rfl (by rfl) (by simp (maxDischargeDepth := 120)) (hz2) (by simp) ?_
   refine RunQ.eval ?_
   simp
   apply hQ
   clear hQ hA
   refine WK.c2 rfl (fun h => ?_) (fun h => ?_)
   · repeat apply WK.s
     refine WK.g 700 Tryz.ntmps161 (by kernel_rfl) ?_
     intro A hA Q hQ
     simp
     apply hQ
     clear hQ hA
     refine WK.t Tryz.func161 (by simp (maxDischargeDepth := 120) [Tryz.results161, e]) (by simp [e])
   · cases h
 · have e : (Oxm.form o) = 0 := by unfold Oxm.form; rw [k1, k2, k3.1, k3.2, k5]; rfl
   rw [k5] at hz2
   refine FnP.i Tryz.func161 rfl rfl fun G w => ?_
   repeat apply WK.s
   refine WK.g 100 Tryz.ntmps161 (by kernel_rfl) ?_
   intro A hA Q hQ
   simp [Oxm.enc, k2]
   apply hQ
   clear hQ hA
   repeat apply WK.s
   refine WK.ghost (Ghost.frzVar 1 rfl rfl) ?_
   refine WK.g 200 Tryz.ntmps161 (by kernel_rfl) ?_
   intro A hA Q hQ
   simp
   apply hQ
   clear hQ hA
   repeat (first | apply WK.s | apply WK.b)
   refine WK.g 300 Tryz.ntmps161 (by kernel_rfl) ?_
   intro A hA Q hQ
   simp
   refine RunQ.call rfl rfl rfl rfl (by rfl) (by simp (maxDischargeDepth := 120)) (hb1) (by simp) ?_
   refine RunQ.eval ?_
   simp
   apply hQ
   clear hQ hA
   refine WK.c2 rfl (fun h => ?_) (fun h => ?_)
   · cases h
   repeat apply WK.s
   refine WK.g 400 Tryz.ntmps161 (by kernel_rfl) ?_
   intro A hA Q hQ
   simp
   apply hQ
   clear hQ hA
   refine WK.c2 rfl (fun h => ?_) (fun h => ?_)
   · cases h
   repeat apply WK.s
   refine WK.g 500 Tryz.ntmps161 (by kernel_rfl) ?_
   intro A hA Q hQ
   have hg4 : (A[4]?).bind (·.dst) = some 19 := by rw [hA]; rfl
   simp [hg4]
   refine RunQ.call rfl rfl rfl rfl (by rfl) (by simp (maxDischargeDepth := 120) [hg4]) (hb2) (by simp [hg4]) ?_
   refine RunQ.eval ?_
   simp [hg4]
   refine RunQ.callG rfl rfl (by simp [hg4]) rfl (by rfl) (by simp (maxDischargeDepth := 120) [hg4]) (hz) (by simp [hg4]) ?_
   refine RunQ.eval ?_
   simp [hg4]
   apply hQ
   clear hQ hA
   refine WK.c2 rfl (fun h => ?_) (fun h => ?_)
   · cases h
   repeat apply WK.s
   refine WK.g 600 Tryz.ntmps161 (by kernel_rfl) ?_
   intro A hA Q hQ
   simp
   refine RunQ.call rfl rfl rfl rfl (by rfl) (by simp (maxDischargeDepth := 120)) (hl) (by simp) ?_
   refine RunQ.eval ?_
   simp
   refine RunQ.call rfl rfl rfl rfl (by rfl) (by simp (maxDischargeDepth := 120)) (hz2) (by simp) ?_
   refine RunQ.eval ?_
   simp
   apply hQ
   clear hQ hA
   refine WK.c2 rfl (fun h => ?_) (fun h => ?_)
   · cases h
   · repeat (first | apply WK.s | apply WK.n | apply WK.k)
     refine WK.g 700 Tryz.ntmps161 (by kernel_rfl) ?_
     intro A hA Q hQ
     simp
     apply hQ
     clear hQ hA
     refine WK.t Tryz.func161 (by simp (maxDischargeDepth := 120) [Tryz.results161, e]) (by simp [e])
end Go.Proofs.YtcccfbjkcahgfaaGreat
