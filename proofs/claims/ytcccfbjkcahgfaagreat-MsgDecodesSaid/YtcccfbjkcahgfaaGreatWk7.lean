/- Rows of buckets: read by the program and by the reference. -/
import Derived.Test.YtcccfbjkcahgfaaGreatAf
import Derived.Test.YtcccfbjkcahgfaaGreatWk6
set_option linter.all false
set_option linter.unnecessarySimpa false
namespace Go.Proofs.YtcccfbjkcahgfaaGreat
open Go Go.AI Go.Proofs
attribute [local irreducible] FnP FnO FnB FnT FnSeq WK RunQ RunQW RunX RunXW
theorem bkDec_eq {b : List (BitVec 8)} (h : ¬ 60000 < b.length) : bkDec b = if (rwDec bkRead b).2 = none ∧ 100 < (rwDec bkRead b).1.length then ([], some (6, 4)) else rwDec bkRead b := by unfold bkDec; rw [if_neg h]
set_option maxHeartbeats 4000000 in
theorem bkdec_c (b : List (BitVec 8)) (hb : b.length ≤ 1000000) : FnT Tryz.prog 110 [byS b] (bkDec b).1.length 4 (bukL (bkDec b).1) [.agg (gF (bkDec b).2)] := by
 have b12 := bbad_c 12
 have b4 := bbad_c 4
 unfold byS
 by_cases h6 : 60000 < b.length
 · have e : bkDec b = ([], some (6, 12)) := by unfold bkDec; rw [if_pos h6]
   have h6' : (60000 : Int) < b.length := by omega
   rw [e]
   refine FnT.intro Tryz.func110 rfl rfl fun G w => ?_
   repeat' (first | apply WK.s | refine WK.cT rfl ?_ | (refine hQ.h _ _ ?_; clear hQ hA) | (refine WK.rH Tryz.ntmps110 (by kernel_rfl) ?_; intro A hA Q hQ; simp [gF, *]) | (refine RunQ.k rfl rfl rfl rfl rfl ?_ (b12) ?_ ?_ <;> simp (maxDischargeDepth := 120) [gF, *] <;> refine ⟨?_⟩))
   refine WK.ghost (Ghost.own 2 900 4 rfl rfl) ?_
   refine WK.retT2 Tryz.func110 ?_ ?_ ?_ <;> simp (maxDischargeDepth := 120) [Tryz.results110, bukL_nil, gF]
 have h6' : ¬ (60000 : Int) < b.length := by omega
 have hde := bkDec_eq h6
 refine FnT.intro Tryz.func110 rfl rfl fun G w => ?_
 repeat' (first | apply WK.s | apply WK.b | apply WK.k | refine WK.cF rfl ?_ | (refine hQ.h _ _ ?_; clear hQ hA) | (refine WK.rH Tryz.ntmps110 (by kernel_rfl) ?_; intro A hA Q hQ; simp [*]))
 refine WK.ghost (Ghost.own 4 900 4 rfl rfl) ?_
 refine WK.lI (fun n => if n = 60 then 900 else n) (fun x : Nat × Nat × List Bucket => (⟨(upd (upd (upd (upd J 0 (.sl false (b.length - x.2.1) (byL (b.drop x.2.1)))) 2 (.sl true 0 [])) 3 (.ptr 1 0)) 4 (.msl 60 0 x.2.2.length)), (upd (upd B0 1 (.var (gF none))) 60 (.buf 4 (bukL x.2.2))), 0⟩ : St)) (fun x => RwAt bkRead 16 b x) (fun x => b.length - x.2.1) ((b.length, 0, [])) (by repeat (first | exact TmW.nil | refine TmW.upd ?_ (by simp (maxDischargeDepth := 120) [gF]))) (by repeat (first | exact BxW.nil | refine BxW.upd ?_ (by simp (maxDischargeDepth := 120) [gF]))) (by first | exact InjW.id | exact InjW.nil | exact InjW.one | exact InjW.two (by simp) | exact InjW.three (by simp) (by simp) (by simp)) (RwAt.start bkRead 16 b) (fun i hi IH => ?_)
 obtain ⟨f, p, acc⟩ := i
 have hsm := hi.small
 have hle := hi.le
 simp only at hsm hle hi ⊢
 by_cases h1 : p < b.length
 · have hc := bone_c (b.drop p) (by rw [List.length_drop]; omega)
   obtain ⟨⟨y, n, c⟩, hd⟩ : ∃ R, bkRead (b.drop p) = R := ⟨_, rfl⟩
   rw [hd] at hc
   unfold byS at hc
   rw [List.length_drop] at hc
   have hpos : 0 < b.length - p := by omega
   have hpos' : (0 : Int) < ((b.length - p : Nat) : Int) := by omega
   obtain ⟨L, hL⟩ : ∃ L, b.length - p = L := ⟨_, rfl⟩
   cases c with
   | some c =>
     have e0 := RwAt.bad hi h1 hd
     have e : bkDec b = ([], some c) := by rw [hde, e0]; rfl
     rw [hL] at hc hpos hpos' ⊢
     rw [e]
     clear hL hde e0 b12 b4
     repeat' (first | apply WK.s | apply WK.b | apply WK.k | refine WK.cT rfl ?_ | (refine hQ.h _ _ ?_; clear hQ hA) | (refine WK.rH Tryz.ntmps110 (by kernel_rfl) ?_; intro A hA Q hQ; simp [gF, Bucket.enc, *]) | (refine WK.rX (by kernel_rfl) Tryz.ntmps110 (by kernel_rfl) ?_; intro A hA Q hQ; simp [gF, Bucket.enc, *]) | (refine hQ.h _ _ _ (by decide +kernel) ?_; clear hQ hA) | (refine RunQ.k rfl rfl rfl rfl rfl ?_ (hc) ?_ ?_ <;> simp (maxDischargeDepth := 120) [gF, Bucket.enc, *] <;> refine ⟨?_⟩))
     refine WK.ghost (Ghost.own 2 901 4 rfl rfl) ?_
     refine WK.retT2 Tryz.func110 ?_ ?_ ?_ <;> simp (maxDischargeDepth := 120) [Tryz.results110, bukL_nil, gF]
   | none =>
     obtain ⟨k, rfl, hk1, hk2, hn⟩ := RwAt.next (by decide) bkKeeps hi h1 hd
     simp only at hk1 hn
     have hkL : (k : Int) ≤ ((b.length - p : Nat) : Int) := by omega
     have hdd : ((byL (b.drop p)).drop k).take (b.length - p - k) = byL (b.drop (p + k)) := by
       rw [byL_drop, List.drop_drop]; exact by_full _ _ (by rw [List.length_drop]; omega)
     have hll : b.length - (p + k) = b.length - p - k := by omega
     have hbd : (acc.length + 1) * 48 ≤ 140737488355328 := by omega
     have hsn := bukL_snoc acc y
     rw [hL] at hc hpos hpos' hkL hdd hll ⊢
     simp only [Bucket.enc] at hsn hc
     clear hL hd hde b12 b4
     repeat' (first | apply WK.s | apply WK.b | apply WK.n | apply WK.k | refine WK.cT rfl ?_ | refine WK.cF rfl ?_ | (refine hQ.h _ _ ?_; clear hQ hA) | (refine WK.rH Tryz.ntmps110 (by kernel_rfl) ?_; intro A hA Q hQ; simp [gF, *]) | (refine WK.rX (by kernel_rfl) Tryz.ntmps110 (by kernel_rfl) ?_; intro A hA Q hQ; simp [gF, *]) | (refine hQ.h _ _ _ (by decide +kernel) ?_; clear hQ hA) | (refine RunX.append 902 app_buk rfl rfl rfl rfl rfl rfl rfl rfl ?_ ?_ ?_ ?_ ?_; (focus (first | omega | (simp [gF, *]; done); done)); (focus (first | omega | (simp [gF, *]; done); done)); (focus (first | omega | (simp [gF, *]; done); done)); (focus (first | omega | (simp [gF, *]; done); done)); refine RunX.e ?_; simp [gF, *]) | (refine RunQ.k rfl rfl rfl rfl rfl ?_ (hc) ?_ ?_ <;> simp (maxDischargeDepth := 120) [gF, *] <;> refine ⟨?_⟩))
     refine WK.next (fun n => if n = 60 then 902 else n) (IH ((f - 1, p + k, acc ++ [y])) (hn) (by first | omega | (dsimp only; omega))) (by repeat (first | exact TmW.nil | refine TmW.upd ?_ (by simp (maxDischargeDepth := 120) [hsn, hll, gF]))) (by repeat (first | exact BxW.nil | refine BxW.upd ?_ (by simp (maxDischargeDepth := 120) [hsn, hll, gF]))) (by first | exact InjW.id | exact InjW.nil | exact InjW.one | exact InjW.two (by simp) | exact InjW.three (by simp) (by simp) (by simp))
 · have hstop := RwAt.stop hi h1
   simp only at hstop
   have hpos : ¬ 0 < b.length - p := by omega
   have hpos' : ¬ (0 : Int) < ((b.length - p : Nat) : Int) := by omega
   obtain ⟨L, hL⟩ : ∃ L, b.length - p = L := ⟨_, rfl⟩
   rw [hL] at hpos hpos' ⊢
   clear hL
   by_cases h100 : 100 < acc.length
   · have e : bkDec b = ([], some (6, 4)) := by rw [hde, hstop, if_pos ⟨rfl, h100⟩]
     have h100' : (100 : Int) < acc.length := by omega
     rw [e]
     repeat' (first | apply WK.s | refine WK.exit rfl ?_ | refine WK.cT rfl ?_ | refine WK.cF rfl ?_ | (refine hQ.h _ _ ?_; clear hQ hA) | (refine WK.rH Tryz.ntmps110 (by kernel_rfl) ?_; intro A hA Q hQ; simp [gF, *]) | (refine RunQ.k rfl rfl rfl rfl rfl ?_ (b4) ?_ ?_ <;> simp (maxDischargeDepth := 120) [gF, *] <;> refine ⟨?_⟩))
     refine WK.ghost (Ghost.own 2 901 4 rfl rfl) ?_
     refine WK.retT2 Tryz.func110 ?_ ?_ ?_ <;> simp (maxDischargeDepth := 120) [Tryz.results110, bukL_nil, gF]
   · have e : bkDec b = (acc, none) := by rw [hde, hstop, if_neg (fun h => h100 h.2)]
     have h100' : ¬ (100 : Int) < acc.length := by omega
     rw [e]
     repeat' (first | apply WK.s | apply WK.k | refine WK.exit rfl ?_ | refine WK.cF rfl ?_ | (refine hQ.h _ _ ?_; clear hQ hA) | (refine WK.rH Tryz.ntmps110 (by kernel_rfl) ?_; intro A hA Q hQ; simp [gF, *]) | (refine WK.retT2 Tryz.func110 ?_ ?_ ?_ <;> simp (maxDischargeDepth := 120) [Tryz.results110, gF, *]))
theorem rbbad_c (c : Int) : FnP Tryz.prog 116 [.int .i64 c] (.agg (gF (some (6, c)))) := by
 refine FnP.i Tryz.func116 rfl rfl fun G w => ?_
 repeat' (first | apply WK.s | (refine hQ.h _ _ ?_; clear hQ hA) | (refine WK.rH Tryz.ntmps116 (by kernel_rfl) ?_; intro A hA Q hQ; simp [*]) | (refine WK.t Tryz.func116 ?_ ?_ <;> simp (maxDischargeDepth := 120) [Tryz.results116, gF, *]))
theorem getN_drop {b : List (BitVec 8)} {p : Nat} (q s : Nat) (h : p ≤ b.length) : getN (b.drop p) q s = getN b (p + q) s := by
 unfold getN
 rw [List.length_drop, List.drop_drop]
 by_cases hh : q + s ≤ b.length - p
 · rw [if_pos hh, if_pos (by omega)]
 · rw [if_neg hh, if_neg (by omega)]
theorem take4 {α : Type} [Inhabited α] {l : List α} {p : Nat} (h : p + 4 ≤ l.length) : (l.drop p).take 4 = [nth l p, nth l (p + 1), nth l (p + 2), nth l (p + 3)] := by
 rw [nth_eq (by omega), nth_eq (by omega), nth_eq (by omega), nth_eq (by omega)]
 refine List.ext_getElem (by simp; omega) fun i h1 h2 => ?_
 simp only [List.length_cons, List.length_nil] at h2
 rw [List.getElem_take, List.getElem_drop]
 match i, h2 with
 | 0, _ => rfl
 | 1, _ => rfl
 | 2, _ => rfl
 | 3, _ => rfl
theorem bkRead_at {b : List (BitVec 8)} {p n : Nat} (hp : p + 16 ≤ b.length) (hn : getN b p 2 = ((n : Int), 0)) : bkRead (b.drop p) =
   if n < 16 ∨ ¬ n % 8 = 0 ∨ b.length - p < n ∨ (nth b (p + 12) == 0#8 && (nth b (p + 13) == 0#8 && (nth b (p + 14) == 0#8 && nth b (p + 15) == 0#8))) = false then (buk0, 0, some (6, 12))
   else (⟨(getN b (p + 2) 2).1, (getN b (p + 4) 4).1, (getN b (p + 8) 4).1, (acDec ((b.drop (p + 16)).take (n - 16))).1⟩, (n : Int), (acDec ((b.drop (p + 16)).take (n - 16))).2.map fun c => (2, c)) := by
 have hz : allZ (((b.drop p).drop 12).take 4) = (nth b (p + 12) == 0#8 && (nth b (p + 13) == 0#8 && (nth b (p + 14) == 0#8 && nth b (p + 15) == 0#8))) := by
   rw [List.drop_drop, take4 (by omega)]
   unfold allZ
   simp [Nat.add_assoc]
 unfold bkRead
 rw [hz, getN_drop 0 2 (by omega), getN_drop 2 2 (by omega), getN_drop 4 4 (by omega), getN_drop 8 4 (by omega), Nat.add_zero, hn, List.drop_drop, List.length_drop]
 simp only [Int.toNat_natCast]
 by_cases hh : n < 16 ∨ ¬ n % 8 = 0 ∨ b.length - p < n ∨ (nth b (p + 12) == 0#8 && (nth b (p + 13) == 0#8 && (nth b (p + 14) == 0#8 && nth b (p + 15) == 0#8))) = false
 · rw [if_pos hh, if_pos]
   rcases hh with h | h | h | h
   · exact .inr (.inl (by omega))
   · exact .inr (.inr (.inl (by omega)))
   · exact .inr (.inr (.inr (.inl (by omega))))
   · exact .inr (.inr (.inr (.inr h)))
 · rw [if_neg hh, if_neg]
   rintro (h | h | h | h | h)
   · omega
   · exact hh (.inl (by omega))
   · exact hh (.inr (.inl (by omega)))
   · exact hh (.inr (.inr (.inl (by omega))))
   · exact hh (.inr (.inr (.inr h)))
theorem and4_false {a b c d : Bool} (h : (a && (b && (c && d))) = false) : a = false ∨ (a = true ∧ b = false) ∨ (a = true ∧ b = true ∧ c = false) ∨ (a = true ∧ b = true ∧ c = true ∧ d = false) := by
 revert h; cases a <;> cases b <;> cases c <;> cases d <;> simp
theorem and4_true {a b c d : Bool} (h : (a && (b && (c && d))) = true) : a = true ∧ b = true ∧ c = true ∧ d = true := by
 revert h; cases a <;> cases b <;> cases c <;> cases d <;> simp
set_option maxHeartbeats 4000000 in
theorem rbkdec_c (b : List (BitVec 8)) (hb : b.length ≤ 1000000) : FnT Tryz.prog 76 [byS b] (bkDec b).1.length 4 (bukL (bkDec b).1) [.agg (gF (bkDec b).2)] := by
 have b12 := rbbad_c 12
 have b4 := rbbad_c 4
 unfold byS
 by_cases h6 : 60000 < b.length
 · have e : bkDec b = ([], some (6, 12)) := by unfold bkDec; rw [if_pos h6]
   have h6' : (60000 : Int) < b.length := by omega
   rw [e]
   refine FnT.intro Tryz.func76 rfl rfl fun G w => ?_
   repeat' (first | apply WK.s | refine WK.cT rfl ?_ | (refine hQ.h _ _ ?_; clear hQ hA) | (refine WK.rH Tryz.ntmps76 (by kernel_rfl) ?_; intro A hA Q hQ; simp [gF, *]) | (refine RunQ.k rfl rfl rfl rfl rfl ?_ (b12) ?_ ?_ <;> simp (maxDischargeDepth := 120) [gF, *] <;> refine ⟨?_⟩))
   refine WK.ghost (Ghost.own 2 900 4 rfl rfl) ?_
   refine WK.retT2 Tryz.func76 ?_ ?_ ?_ <;> simp (maxDischargeDepth := 120) [Tryz.results76, bukL_nil, gF]
 have h6' : ¬ (60000 : Int) < b.length := by omega
 have hde := bkDec_eq h6
 refine FnT.intro Tryz.func76 rfl rfl fun G w => ?_
 repeat' (first | apply WK.s | apply WK.b | apply WK.k | refine WK.cF rfl ?_ | (refine hQ.h _ _ ?_; clear hQ hA) | (refine WK.rH Tryz.ntmps76 (by kernel_rfl) ?_; intro A hA Q hQ; simp [*]))
 refine WK.ghost (Ghost.own 4 900 4 rfl rfl) ?_
 refine WK.lI (fun n => if n = 60 then 900 else n) (fun x : Nat × Nat × List Bucket => (⟨(upd (upd (upd (upd (upd J 0 (.sl false b.length (byL b))) 2 (.sl true 0 [])) 3 (.ptr 1 0)) 4 (.msl 60 0 x.2.2.length)) 5 (.int .i64 x.2.1)), (upd (upd B0 1 (.var (gF none))) 60 (.buf 4 (bukL x.2.2))), 0⟩ : St)) (fun x => RwAt bkRead 16 b x) (fun x => b.length - x.2.1) ((b.length, 0, [])) (by repeat (first | exact TmW.nil | refine TmW.upd ?_ (by simp (maxDischargeDepth := 120) [gF]))) (by repeat (first | exact BxW.nil | refine BxW.upd ?_ (by simp (maxDischargeDepth := 120) [gF]))) (by first | exact InjW.id | exact InjW.nil | exact InjW.one | exact InjW.two (by simp) | exact InjW.three (by simp) (by simp) (by simp)) (RwAt.start bkRead 16 b) (fun i hi IH => ?_)
 obtain ⟨f, p, acc⟩ := i
 have hsm := hi.small
 have hle := hi.le
 simp only at hsm hle hi ⊢
 by_cases h1 : p < b.length
 · have h1' : (p : Int) < b.length := by omega
   have w1 : IntKind.i64.wrap ((b.length : Int) - (p : Int)) = (b.length : Int) - (p : Int) := wrap_i64 (by omega) (by omega)
   by_cases c0 : b.length - p < 16
   · have hd : bkRead (b.drop p) = (buk0, 0, some (6, 12)) := by unfold bkRead; rw [if_pos (.inl (by rw [List.length_drop]; exact c0))]
     have e0 := RwAt.bad hi h1 hd
     have e : bkDec b = ([], some (6, 12)) := by rw [hde, e0]; rfl
     have c0' : (b.length : Int) - p < 16 := by omega
     rw [e]
     clear hde e0 b4 hd c0
     repeat' (first | apply WK.s | apply WK.b | apply WK.k | refine WK.cT rfl ?_ | (refine hQ.h _ _ ?_; clear hQ hA) | (refine WK.rH Tryz.ntmps76 (by kernel_rfl) ?_; intro A hA Q hQ; simp [gF, *]) | (refine RunQ.k rfl rfl rfl rfl rfl ?_ (b12) ?_ ?_ <;> simp (maxDischargeDepth := 120) [gF, *] <;> refine ⟨?_⟩))
     refine WK.ghost (Ghost.own 2 901 4 rfl rfl) ?_
     refine WK.retT2 Tryz.func76 ?_ ?_ ?_ <;> simp (maxDischargeDepth := 120) [Tryz.results76, bukL_nil, gF]
   have c0' : ¬ (b.length : Int) - p < 16 := by omega
   have g0 := rget_c b p 2 Sz2 (by omega) (by omega)
   have hgn : getN b p 2 = ((valN ((b.drop p).take 2) : Int), 0) := getN_val (by omega)
   have hlt : valN ((b.drop p).take 2) < 65536 := valN_lt 2 _ (by rw [List.length_take, List.length_drop]; omega)
   obtain ⟨n, hn⟩ : ∃ n, valN ((b.drop p).take 2) = n := ⟨_, rfl⟩
   rw [hn] at hgn hlt
   have hd := bkRead_at (by omega) hgn
   rw [hgn] at g0
   have z7 : ((n : Int).tmod 8 == 0) = (n % 8 == 0) := by rw [Int.tmod_eq_emod_of_nonneg (by omega), Bool.eq_iff_iff, beq_iff_eq, beq_iff_eq]; omega
   have pw_p12 : IntKind.i64.wrap ((p : Int) + 12) = (p : Int) + 12 := wrap_i64 (by omega) (by omega)
   have pu_p12 : (p : Int) + 12 < (b.length : Int) := by omega
   have pv_p12 : p + 12 < b.length := by omega
   have pw_p13 : IntKind.i64.wrap ((p : Int) + 13) = (p : Int) + 13 := wrap_i64 (by omega) (by omega)
   have pu_p13 : (p : Int) + 13 < (b.length : Int) := by omega
   have pv_p13 : p + 13 < b.length := by omega
   have pw_p14 : IntKind.i64.wrap ((p : Int) + 14) = (p : Int) + 14 := wrap_i64 (by omega) (by omega)
   have pu_p14 : (p : Int) + 14 < (b.length : Int) := by omega
   have pv_p14 : p + 14 < b.length := by omega
   have pw_p15 : IntKind.i64.wrap ((p : Int) + 15) = (p : Int) + 15 := wrap_i64 (by omega) (by omega)
   have pu_p15 : (p : Int) + 15 < (b.length : Int) := by omega
   have pv_p15 : p + 15 < b.length := by omega
   have x12 := by_get b (p + 12) (by omega)
   have x13 := by_get b (p + 13) (by omega)
   have x14 := by_get b (p + 14) (by omega)
   have x15 := by_get b (p + 15) (by omega)
   have y12 := bI_zero (nth b (p + 12))
   have y13 := bI_zero (nth b (p + 13))
   have y14 := bI_zero (nth b (p + 14))
   have y15 := bI_zero (nth b (p + 15))
   obtain ⟨k12, hk12⟩ : ∃ k, nth b (p + 12) = k := ⟨_, rfl⟩
   obtain ⟨k13, hk13⟩ : ∃ k, nth b (p + 13) = k := ⟨_, rfl⟩
   obtain ⟨k14, hk14⟩ : ∃ k, nth b (p + 14) = k := ⟨_, rfl⟩
   obtain ⟨k15, hk15⟩ : ∃ k, nth b (p + 15) = k := ⟨_, rfl⟩
   rw [hk12] at x12 y12 hd
   rw [hk13] at x13 y13 hd
   rw [hk14] at x14 y14 hd
   rw [hk15] at x15 y15 hd
   obtain ⟨z12, hz12⟩ : ∃ k, (k12 == 0#8) = k := ⟨_, rfl⟩
   obtain ⟨z13, hz13⟩ : ∃ k, (k13 == 0#8) = k := ⟨_, rfl⟩
   obtain ⟨z14, hz14⟩ : ∃ k, (k14 == 0#8) = k := ⟨_, rfl⟩
   obtain ⟨z15, hz15⟩ : ∃ k, (k15 == 0#8) = k := ⟨_, rfl⟩
   rw [hz12] at y12 hd
   rw [hz13] at y13 hd
   rw [hz14] at y14 hd
   rw [hz15] at y15 hd
   unfold byS at g0
   clear hn hk12 hk13 hk14 hk15 hz12 hz13 hz14 hz15
   have bad : (n < 16 ∨ ¬ n % 8 = 0 ∨ b.length - p < n ∨ (z12 && (z13 && (z14 && z15))) = false) → bkDec b = ([], some (6, 12)) := fun h => by
     rw [if_pos h] at hd
     have e0 := RwAt.bad hi h1 hd
     rw [hde, e0]; rfl
   by_cases c1 : n < 16
   · have e := bad (.inl c1)
     have d1 : (n : Int) < 16 := by omega
     rw [e]
     clear bad hd hde b4 x12 x13 x14 x15
     repeat' (first | apply WK.s | apply WK.b | apply WK.k | refine WK.cT rfl ?_ | refine WK.cF rfl ?_ | (refine hQ.h _ _ ?_; clear hQ hA) | (refine WK.rH Tryz.ntmps76 (by kernel_rfl) ?_; intro A hA Q hQ; simp [gF, bne, *]) | (refine RunQ.g rfl (by rw [hA.h]; rfl) ?_; simp [gF, bne, *]) | (refine RunQ.k rfl rfl rfl rfl rfl ?_ (g0) ?_ ?_ <;> simp (maxDischargeDepth := 120) [gF, bne, *] <;> refine ⟨?_⟩) | (refine RunQ.k rfl rfl rfl rfl rfl ?_ (b12) ?_ ?_ <;> simp (maxDischargeDepth := 120) [gF, bne, *] <;> refine ⟨?_⟩))
     refine WK.ghost (Ghost.own 2 901 4 rfl rfl) ?_
     refine WK.retT2 Tryz.func76 ?_ ?_ ?_ <;> simp (maxDischargeDepth := 120) [Tryz.results76, bukL_nil, gF]
   have d1 : ¬ (n : Int) < 16 := by omega
   by_cases c2 : n % 8 = 0
   case neg =>
     have e := bad (.inr (.inl c2))
     have d2 : (n % 8 == 0) = false := by simpa using c2
     rw [d2] at z7
     rw [e]
     clear bad hd hde b4 x12 x13 x14 x15 c2 d2
     repeat' (first | apply WK.s | apply WK.b | apply WK.k | refine WK.cT rfl ?_ | refine WK.cF rfl ?_ | (refine hQ.h _ _ ?_; clear hQ hA) | (refine WK.rH Tryz.ntmps76 (by kernel_rfl) ?_; intro A hA Q hQ; simp [gF, bne, *]) | (refine RunQ.g rfl (by rw [hA.h]; rfl) ?_; simp [gF, bne, *]) | (refine RunQ.k rfl rfl rfl rfl rfl ?_ (g0) ?_ ?_ <;> simp (maxDischargeDepth := 120) [gF, bne, *] <;> refine ⟨?_⟩) | (refine RunQ.k rfl rfl rfl rfl rfl ?_ (b12) ?_ ?_ <;> simp (maxDischargeDepth := 120) [gF, bne, *] <;> refine ⟨?_⟩))
     refine WK.ghost (Ghost.own 2 901 4 rfl rfl) ?_
     refine WK.retT2 Tryz.func76 ?_ ?_ ?_ <;> simp (maxDischargeDepth := 120) [Tryz.results76, bukL_nil, gF]
   have d2 : (n % 8 == 0) = true := by simpa using c2
   rw [d2] at z7
   by_cases c3 : b.length - p < n
   · have e := bad (.inr (.inr (.inl c3)))
     have d3 : (b.length : Int) - p < n := by omega
     rw [e]
     clear bad hd hde b4 x12 x13 x14 x15 c2 d2
     repeat' (first | apply WK.s | apply WK.b | apply WK.k | refine WK.cT rfl ?_ | refine WK.cF rfl ?_ | (refine hQ.h _ _ ?_; clear hQ hA) | (refine WK.rH Tryz.ntmps76 (by kernel_rfl) ?_; intro A hA Q hQ; simp [gF, bne, *]) | (refine RunQ.g rfl (by rw [hA.h]; rfl) ?_; simp [gF, bne, *]) | (refine RunQ.k rfl rfl rfl rfl rfl ?_ (g0) ?_ ?_ <;> simp (maxDischargeDepth := 120) [gF, bne, *] <;> refine ⟨?_⟩) | (refine RunQ.k rfl rfl rfl rfl rfl ?_ (b12) ?_ ?_ <;> simp (maxDischargeDepth := 120) [gF, bne, *] <;> refine ⟨?_⟩))
     refine WK.ghost (Ghost.own 2 901 4 rfl rfl) ?_
     refine WK.retT2 Tryz.func76 ?_ ?_ ?_ <;> simp (maxDischargeDepth := 120) [Tryz.results76, bukL_nil, gF]
   have d3 : ¬ (b.length : Int) - p < n := by omega
   obtain ⟨z, hz⟩ : ∃ z, (z12 && (z13 && (z14 && z15))) = z := ⟨_, rfl⟩
   cases z
   · have e := bad (.inr (.inr (.inr hz)))
     rw [e]
     clear bad hd hde b4 c2 d2
     rcases and4_false hz with rfl | ⟨rfl, rfl⟩ | ⟨rfl, rfl, rfl⟩ | ⟨rfl, rfl, rfl, rfl⟩ <;>
     · clear hz
       repeat' (first | apply WK.s | apply WK.b | apply WK.k | refine WK.cT rfl ?_ | refine WK.cF rfl ?_ | (refine hQ.h _ _ ?_; clear hQ hA) | (refine WK.rH Tryz.ntmps76 (by kernel_rfl) ?_; intro A hA Q hQ; simp [gF, bne, *]) | (refine RunQ.g rfl (by rw [hA.h]; rfl) ?_; simp [gF, bne, *]) | (refine RunQ.k rfl rfl rfl rfl rfl ?_ (g0) ?_ ?_ <;> simp (maxDischargeDepth := 120) [gF, bne, *] <;> refine ⟨?_⟩) | (refine RunQ.k rfl rfl rfl rfl rfl ?_ (b12) ?_ ?_ <;> simp (maxDischargeDepth := 120) [gF, bne, *] <;> refine ⟨?_⟩))
       refine WK.ghost (Ghost.own 2 901 4 rfl rfl) ?_
       refine WK.retT2 Tryz.func76 ?_ ?_ ?_ <;> simp (maxDischargeDepth := 120) [Tryz.results76, bukL_nil, gF]
   obtain ⟨rfl, rfl, rfl, rfl⟩ := and4_true hz
   rw [if_neg (by rintro (h | h | h | h); omega; exact h c2; omega; cases h)] at hd
   have g1 := rget_c b (p + 2) 2 Sz2 (by omega) (by omega)
   have g2 := rget_c b (p + 4) 4 Sz4 (by omega) (by omega)
   have g3 := rget_c b (p + 8) 4 Sz4 (by omega) (by omega)
   have hac := racdecP_c ((b.drop (p + 16)).take (n - 16)) (by rw [List.length_take, List.length_drop]; omega)
   have hs : ((byL b).drop (p + 16)).take (n - 16) = byL ((b.drop (p + 16)).take (n - 16)) := by rw [byL_drop, byL_take]
   have hsl : ((b.drop (p + 16)).take (n - 16)).length = n - 16 := by rw [List.length_take, List.length_drop]; omega
   obtain ⟨S, hS⟩ : ∃ S, (b.drop (p + 16)).take (n - 16) = S := ⟨_, rfl⟩
   rw [hS] at hac hs hsl hd
   obtain ⟨R, hR⟩ : ∃ R, acDec S = R := ⟨_, rfl⟩
   rw [hR] at hac hd
   obtain ⟨l, c⟩ := R
   obtain ⟨q1, hq1⟩ : ∃ q, getN b (p + 2) 2 = q := ⟨_, rfl⟩
   obtain ⟨q2, hq2⟩ : ∃ q, getN b (p + 4) 4 = q := ⟨_, rfl⟩
   obtain ⟨q3, hq3⟩ : ∃ q, getN b (p + 8) 4 = q := ⟨_, rfl⟩
   rw [hq1] at g1 hd
   rw [hq2] at g2 hd
   rw [hq3] at g3 hd
   unfold byS at g1 g2 g3 hac
   unfold actS at hac
   rw [hsl] at hac
   rw [aFault_g] at hac
   have pw_p2 : IntKind.i64.wrap ((p : Int) + 2) = (p : Int) + 2 := wrap_i64 (by omega) (by omega)
   have pw_p4 : IntKind.i64.wrap ((p : Int) + 4) = (p : Int) + 4 := wrap_i64 (by omega) (by omega)
   have pw_p8 : IntKind.i64.wrap ((p : Int) + 8) = (p : Int) + 8 := wrap_i64 (by omega) (by omega)
   have pw_p16 : IntKind.i64.wrap ((p : Int) + 16) = (p : Int) + 16 := wrap_i64 (by omega) (by omega)
   have wn : IntKind.i64.wrap ((p : Int) + (n : Int)) = (p : Int) + (n : Int) := wrap_i64 (by omega) (by omega)
   have d4 : (p : Int) + n ≤ b.length := by omega
   have d5 : (16 : Int) ≤ n := by omega
   have hsub : p + n - (p + 16) = n - 16 := by omega
   have d6 : (p : Int) + 16 ≤ (p : Int) + n := by omega
   cases c with
   | some c =>
     have e0 := RwAt.bad hi h1 hd
     have e : bkDec b = ([], some (2, c)) := by rw [hde, e0]; rfl
     rw [e]
     clear bad hd hde b4 e0 c2 d2 hz hS hR hq1 hq2 hq3 b12
     repeat' (first | apply WK.s | apply WK.b | apply WK.k | refine WK.cT rfl ?_ | refine WK.cF rfl ?_ | (refine hQ.h _ _ ?_; clear hQ hA) | (refine WK.rH Tryz.ntmps76 (by kernel_rfl) ?_; intro A hA Q hQ; simp [gF, bne, *]) | (refine WK.rX (by kernel_rfl) Tryz.ntmps76 (by kernel_rfl) ?_; intro A hA Q hQ; simp [gF, bne, *]) | (refine hQ.h _ _ _ (by decide +kernel) ?_; clear hQ hA) | (refine RunQ.g rfl (by rw [hA.h]; rfl) ?_; simp [gF, bne, *]) | (refine RunQ.k rfl rfl rfl rfl rfl ?_ (g0) ?_ ?_ <;> simp (maxDischargeDepth := 120) [gF, bne, *] <;> refine ⟨?_⟩) | (refine RunQ.k rfl rfl rfl rfl rfl ?_ (g1) ?_ ?_ <;> simp (maxDischargeDepth := 120) [gF, bne, *] <;> refine ⟨?_⟩) | (refine RunQ.k rfl rfl rfl rfl rfl ?_ (g2) ?_ ?_ <;> simp (maxDischargeDepth := 120) [gF, bne, *] <;> refine ⟨?_⟩) | (refine RunQ.k rfl rfl rfl rfl rfl ?_ (g3) ?_ ?_ <;> simp (maxDischargeDepth := 120) [gF, bne, *] <;> refine ⟨?_⟩) | (refine RunQ.k rfl rfl rfl rfl rfl ?_ (hac) ?_ ?_ <;> simp (maxDischargeDepth := 120) [gF, bne, *] <;> refine ⟨?_⟩))
     refine WK.ghost (Ghost.own 2 901 4 rfl rfl) ?_
     refine WK.retT2 Tryz.func76 ?_ ?_ ?_ <;> simp (maxDischargeDepth := 120) [Tryz.results76, bukL_nil, gF]
   | none =>
     obtain ⟨k, hk, hk1, hk2, hn⟩ := RwAt.next (by decide) bkKeeps hi h1 hd
     have hk : n = k := by omega
     subst hk
     simp only at hk1 hn
     have hbd : (acc.length + 1) * 48 ≤ 140737488355328 := by omega
     have hsn := bukL_snoc acc ⟨q1.1, q2.1, q3.1, l⟩
     simp only [Bucket.enc] at hsn
     clear bad hd hde b4 c2 d2 hz hS hR hq1 hq2 hq3 b12
     repeat' (first | apply WK.s | apply WK.b | apply WK.n | apply WK.k | refine WK.cT rfl ?_ | refine WK.cF rfl ?_ | (refine hQ.h _ _ ?_; clear hQ hA) | (refine WK.rH Tryz.ntmps76 (by kernel_rfl) ?_; intro A hA Q hQ; simp [gF, bne, *]) | (refine RunQ.g rfl (by rw [hA.h]; rfl) ?_; simp [gF, bne, *]) | (refine RunQ.append 902 app_buk rfl rfl rfl rfl rfl rfl rfl rfl rfl ?_ ?_ ?_ ?_ ?_; (focus (first | omega | (simp [gF, bne, *]; done); done)); (focus (first | omega | (simp [gF, bne, *]; done); done)); (focus (first | omega | (simp [gF, bne, *]; done); done)); (focus (first | omega | (simp [gF, bne, *]; done); done)); refine RunQ.e ?_; simp [gF, bne, *]) | (refine RunQ.k rfl rfl rfl rfl rfl ?_ (g0) ?_ ?_ <;> simp (maxDischargeDepth := 120) [gF, bne, *] <;> refine ⟨?_⟩) | (refine RunQ.k rfl rfl rfl rfl rfl ?_ (g1) ?_ ?_ <;> simp (maxDischargeDepth := 120) [gF, bne, *] <;> refine ⟨?_⟩) | (refine RunQ.k rfl rfl rfl rfl rfl ?_ (g2) ?_ ?_ <;> simp (maxDischargeDepth := 120) [gF, bne, *] <;> refine ⟨?_⟩) | (refine RunQ.k rfl rfl rfl rfl rfl ?_ (g3) ?_ ?_ <;> simp (maxDischargeDepth := 120) [gF, bne, *] <;> refine ⟨?_⟩) | (refine RunQ.k rfl rfl rfl rfl rfl ?_ (hac) ?_ ?_ <;> simp (maxDischargeDepth := 120) [gF, bne, *] <;> refine ⟨?_⟩))
     refine WK.next (fun n => if n = 60 then 902 else n) (IH ((f - 1, p + n, acc ++ [⟨q1.1, q2.1, q3.1, l⟩])) (hn) (by first | omega | (dsimp only; omega))) (by repeat (first | exact TmW.nil | refine TmW.upd ?_ (by simp (maxDischargeDepth := 120) [hsn, gF]))) (by repeat (first | exact BxW.nil | refine BxW.upd ?_ (by simp (maxDischargeDepth := 120) [hsn, gF]))) (by first | exact InjW.id | exact InjW.nil | exact InjW.one | exact InjW.two (by simp) | exact InjW.three (by simp) (by simp) (by simp))
 · have hstop := RwAt.stop hi h1
   simp only at hstop
   have h1' : ¬ (p : Int) < b.length := by omega
   by_cases h100 : 100 < acc.length
   · have e : bkDec b = ([], some (6, 4)) := by rw [hde, hstop, if_pos ⟨rfl, h100⟩]
     have h100' : (100 : Int) < acc.length := by omega
     rw [e]
     repeat' (first | apply WK.s | refine WK.exit rfl ?_ | refine WK.cT rfl ?_ | refine WK.cF rfl ?_ | (refine hQ.h _ _ ?_; clear hQ hA) | (refine WK.rH Tryz.ntmps76 (by kernel_rfl) ?_; intro A hA Q hQ; simp [gF, *]) | (refine RunQ.k rfl rfl rfl rfl rfl ?_ (b4) ?_ ?_ <;> simp (maxDischargeDepth := 120) [gF, *] <;> refine ⟨?_⟩))
     refine WK.ghost (Ghost.own 2 901 4 rfl rfl) ?_
     refine WK.retT2 Tryz.func76 ?_ ?_ ?_ <;> simp (maxDischargeDepth := 120) [Tryz.results76, bukL_nil, gF]
   · have e : bkDec b = (acc, none) := by rw [hde, hstop, if_neg (fun h => h100 h.2)]
     have h100' : ¬ (100 : Int) < acc.length := by omega
     rw [e]
     repeat' (first | apply WK.s | apply WK.k | refine WK.exit rfl ?_ | refine WK.cF rfl ?_ | (refine hQ.h _ _ ?_; clear hQ hA) | (refine WK.rH Tryz.ntmps76 (by kernel_rfl) ?_; intro A hA Q hQ; simp [gF, *]) | (refine WK.retT2 Tryz.func76 ?_ ?_ ?_ <;> simp (maxDischargeDepth := 120) [Tryz.results76, gF, *]))

theorem bright_c (x : Bucket) (hx : x.acts.length ≤ 1000000) : FnP Tryz.prog 252 [.agg x.enc] (.bool (bkRight x)) := by
 have p := acencP_c x.acts hx
 have n1 := nright_c x.weight 2 Sz2
 have n2 := nright_c x.watch 4 Sz4
 have n3 := nright_c x.wgroup 4 Sz4
 have e : bkRight x = ((acEnc x.acts).2 == 0 && (numOk x.weight 2 && (numOk x.watch 4 && numOk x.wgroup 4))) := rfl
 obtain ⟨R, hR⟩ : ∃ R, acEnc x.acts = R := ⟨_, rfl⟩
 rw [hR] at p e
 unfold byS actS at p
 refine FnP.i Tryz.func252 rfl rfl fun G w => ?_
 repeat' (first | apply WK.s | (refine hQ.h _ _ ?_; clear hQ hA) | (refine Fork.mk (fun h => ?_) (fun h => ?_) <;> (first | (simp [*] at h; done) | (have h2 := h; simp at h2; exfalso; omega) | (have h2 := h; simp at h2; try simp only [Bool.not_eq_true', Bool.not_eq_false'] at h) | skip)) | (refine WK.rH Tryz.ntmps252 (by kernel_rfl) ?_; intro A hA Q hQ; simp [Bucket.enc, *]) | (refine RunQ.g rfl (by rw [hA.h]; rfl) ?_; simp [Bucket.enc, *]) | (refine RunQ.k rfl rfl rfl rfl rfl ?_ (p) ?_ ?_ <;> simp (maxDischargeDepth := 120) [Bucket.enc, *] <;> refine ⟨?_⟩) | (refine RunQW.k rfl rfl rfl rfl ?_ (n1) ?_ ?_ <;> simp (maxDischargeDepth := 120) [Bucket.enc, *] <;> refine ⟨?_⟩) | (refine RunQW.k rfl rfl rfl rfl ?_ (n2) ?_ ?_ <;> simp (maxDischargeDepth := 120) [Bucket.enc, *] <;> refine ⟨?_⟩) | (refine RunQW.k rfl rfl rfl rfl ?_ (n3) ?_ ?_ <;> simp (maxDischargeDepth := 120) [Bucket.enc, *] <;> refine ⟨?_⟩) | (refine WK.t Tryz.func252 ?_ ?_ <;> simp (maxDischargeDepth := 120) [Tryz.results252, Bucket.enc, *]))
theorem bwrong_c (x : Bucket) (hx : x.acts.length ≤ 1000000) : FnP Tryz.prog 251 [.agg x.enc] (.bool (!bkRight x)) := by
 have p := bright_c x hx
 refine FnP.i Tryz.func251 rfl rfl fun G w => ?_
 repeat' (first | apply WK.s | (refine hQ.h _ _ ?_; clear hQ hA) | (refine WK.rH Tryz.ntmps251 (by kernel_rfl) ?_; intro A hA Q hQ; simp [*]) | (refine RunQ.k rfl rfl rfl rfl rfl ?_ (p) ?_ ?_ <;> simp (maxDischargeDepth := 120) [*] <;> refine ⟨?_⟩) | (refine WK.t Tryz.func251 ?_ ?_ <;> simp (maxDischargeDepth := 120) [Tryz.results251, *]))
structure BkFit (x : Bucket) : Prop where
 e0 : (acEnc x.acts).2 = 0
 n0 : numOk ((16 + (acEnc x.acts).1.length : Nat) : Int) 2 = true
 n1 : numOk x.weight 2 = true
 n2 : numOk x.watch 4 = true
 n3 : numOk x.wgroup 4 = true
theorem bkFit {x : Bucket} (h : bkRight x = true) : BkFit x := by
 unfold bkRight at h
 rw [Bool.and_eq_true, Bool.and_eq_true, Bool.and_eq_true, beq_iff_eq] at h
 obtain ⟨h0, h1, h2, h3⟩ := h
 have := acEnc_len x.acts
 exact ⟨h0, numOk2 (by omega), h1, h2, h3⟩
theorem bkFlat_succ {l : List Bucket} {i : Nat} (h : i < l.length) : rwFlat bkOne (l.take (i + 1)) = rwFlat bkOne (l.take i) ++ bkOne (nth l i) := by
 unfold rwFlat; rw [take_nth h, List.flatMap_append]; simp
theorem bkFlat_len (l : List Bucket) : (rwFlat bkOne l).length ≤ l.length * 6100 := by
 induction l with
 | nil => simp [rwFlat]
 | cons x l ih =>
   have h1 := bkOne_len x
   have h2 := acEnc_len x.acts
   have e : rwFlat bkOne (x :: l) = bkOne x ++ rwFlat bkOne l := rfl
   rw [e, List.length_append, List.length_cons]
   omega
theorem bkEnc_bad1 {l : List Bucket} (h : ¬ (l.length ≤ 100 ∧ l.all bkRight = true ∧ (rwFlat bkOne l).length ≤ 60000)) : bkEnc l = ([], 1) := by unfold bkEnc; rw [if_neg h]
theorem anyNot_all {α : Type} (p : α → Bool) (l : List α) : (l.any fun x => !p x) = !l.all p := by rw [List.not_all_eq_any_not]
set_option maxHeartbeats 4000000 in
theorem bkenc_c (l : List Bucket) (hl : l.length ≤ 1000000) (ha : ∀ x, x ∈ l → x.acts.length ≤ 1000000) : FnT Tryz.prog 249 [bukS l] (bkEnc l).1.length 1 (byL (bkEnc l).1) [.int .i64 (bkEnc l).2] := by
 have q := containsf_buk 251 [] (fun x => !bkRight x) l rfl hl (fun x hx => bwrong_c x (ha x hx))
 rw [anyNot_all] at q
 unfold bukS at *
 by_cases h100 : 100 < l.length
 · have e := bkEnc_bad1 (l := l) (fun h => by omega)
   have j : (100 : Int) < l.length := by omega
   rw [e]
   clear q
   refine FnT.intro Tryz.func249 rfl rfl fun G w => ?_
   repeat' (first | apply WK.s | refine WK.cT rfl ?_ | (refine hQ.h _ _ ?_; clear hQ hA) | (refine WK.rH Tryz.ntmps249 (by kernel_rfl) ?_; intro A hA Q hQ; simp [*]) | (refine RunQ.g rfl (by rw [hA.h]; rfl) ?_; simp [*]))
   refine WK.ghost (Ghost.own 2 900 1 rfl rfl) ?_
   refine WK.retT2 Tryz.func249 ?_ ?_ ?_ <;> simp (maxDischargeDepth := 120) [Tryz.results249, b0_]
 have j : ¬ (100 : Int) < l.length := by omega
 cases hr : l.all bkRight
 · have e := bkEnc_bad1 (l := l) (fun h => by rw [hr] at h; exact Bool.noConfusion h.2.1)
   rw [e]
   rw [hr] at q
   refine FnT.intro Tryz.func249 rfl rfl fun G w => ?_
   repeat' (first | apply WK.s | refine WK.cT rfl ?_ | (refine hQ.h _ _ ?_; clear hQ hA) | (refine WK.rH Tryz.ntmps249 (by kernel_rfl) ?_; intro A hA Q hQ; simp [*]) | (refine RunQ.g rfl (by rw [hA.h]; rfl) ?_; simp [*]) | (refine RunQW.k rfl rfl rfl rfl ?_ (q) ?_ ?_ <;> simp (maxDischargeDepth := 120) [*] <;> refine ⟨?_⟩))
   refine WK.ghost (Ghost.own 2 900 1 rfl rfl) ?_
   refine WK.retT2 Tryz.func249 ?_ ?_ ?_ <;> simp (maxDischargeDepth := 120) [Tryz.results249, b0_]
 rw [hr] at q
 have hall : ∀ x, x ∈ l → bkRight x = true := List.all_eq_true.1 hr
 have hdef : bkEnc l = if (rwFlat bkOne l).length ≤ 60000 then (rwFlat bkOne l, 0) else ([], 1) := by
   unfold bkEnc
   by_cases hh : (rwFlat bkOne l).length ≤ 60000
   · rw [if_pos hh, if_pos ⟨by omega, hr, hh⟩]
   · rw [if_neg hh, if_neg fun h => hh h.2.2]
 refine FnT.intro Tryz.func249 rfl rfl fun G w => ?_
 repeat' (first | apply WK.s | apply WK.b | apply WK.k | refine WK.cF rfl ?_ | (refine hQ.h _ _ ?_; clear hQ hA) | (refine WK.rH Tryz.ntmps249 (by kernel_rfl) ?_; intro A hA Q hQ; simp [*]) | (refine RunQ.g rfl (by rw [hA.h]; rfl) ?_; simp [*]) | (refine RunQW.k rfl rfl rfl rfl ?_ (q) ?_ ?_ <;> simp (maxDischargeDepth := 120) [*] <;> refine ⟨?_⟩))
 refine WK.ghost (Ghost.own 4 900 1 rfl rfl) ?_
 refine WK.lI (fun n => if n = 1 then 900 else n) (fun i : Nat => (⟨(upd (upd (upd (upd (upd (upd J 2 (.sl true 0 [])) 3 (.int .i64 0)) 4 (.msl 1 0 (rwFlat bkOne (l.take i)).length)) 16 (.sl false l.length (bukL l))) 17 (.int .i64 l.length)) 18 (.int .i64 i)), (upd B0 1 (.buf 1 (byL (rwFlat bkOne (l.take i))))), 0⟩ : St)) (fun i => i ≤ l.length) (fun i => l.length - i) (0) (by repeat (first | exact TmW.nil | refine TmW.upd ?_ (by simp (maxDischargeDepth := 120) [rwFlat, b0_]))) (by repeat (first | exact BxW.nil | refine BxW.upd ?_ (by simp (maxDischargeDepth := 120) [rwFlat, b0_]))) (by first | exact InjW.id | exact InjW.nil | exact InjW.one | exact InjW.two (by simp) | exact InjW.three (by simp) (by simp) (by simp)) (by omega) (fun i hi IH => ?_)
 have hfl := bkFlat_len (l.take i)
 have htl : (l.take i).length ≤ 100 := by rw [List.length_take]; omega
 by_cases h1 : i < l.length
 · obtain ⟨h4, h3⟩ := buk_load l i h1
   have h6 : IntKind.i64.wrap ((i : Int) + 1) = i + 1 := wrap_i64 (by omega) (by omega)
   have hs := bkFlat_succ h1
   have fit := bkFit (hall _ (nth_mem h1))
   have hx := ha _ (nth_mem h1)
   obtain ⟨x, hxx⟩ : ∃ x, nth l i = x := ⟨_, rfl⟩
   rw [hxx] at h4 hs fit hx
   have p := acencP_c x.acts hx
   have hEl := acEnc_len x.acts
   have hone : bkOne x = beN (16 + (acEnc x.acts).1.length : Nat) 2 ++ (beN x.weight 2 ++ (beN x.watch 4 ++ (beN x.wgroup 4 ++ (List.replicate 4 0#8 ++ (acEnc x.acts).1)))) := rfl
   obtain ⟨f0, f1, f2, f3, f4⟩ := fit
   obtain ⟨R, hR⟩ : ∃ R, acEnc x.acts = R := ⟨_, rfl⟩
   rw [hR] at p hEl f0 f1 hone
   obtain ⟨E, c⟩ := R
   simp only at p hEl f0 f1 hone
   subst f0
   obtain ⟨F, hF⟩ : ∃ F, rwFlat bkOne (l.take i) = F := ⟨_, rfl⟩
   rw [hF] at hs hfl ⊢
   have hFl : F.length ≤ 700000 := by omega
   have c1 := nput_c F ((16 + E.length : Nat) : Int) 2 Sz2 (by omega)
   rw [putN_beN f1] at c1
   obtain ⟨F1, hF1⟩ : ∃ F1, F ++ beN ((16 + E.length : Nat) : Int) 2 = F1 := ⟨_, rfl⟩
   rw [hF1] at c1
   have hF1l : F1.length = F.length + 2 := by rw [← hF1, List.length_append, beN_len]
   have c2 := nput_c F1 x.weight 2 Sz2 (by omega)
   rw [putN_beN f2] at c2
   obtain ⟨F2, hF2⟩ : ∃ F2, F1 ++ beN x.weight 2 = F2 := ⟨_, rfl⟩
   rw [hF2] at c2
   have hF2l : F2.length = F.length + 4 := by rw [← hF2, List.length_append, beN_len]; omega
   have c3 := nput_c F2 x.watch 4 Sz4 (by omega)
   rw [putN_beN f3] at c3
   obtain ⟨F3, hF3⟩ : ∃ F3, F2 ++ beN x.watch 4 = F3 := ⟨_, rfl⟩
   rw [hF3] at c3
   have hF3l : F3.length = F.length + 8 := by rw [← hF3, List.length_append, beN_len]; omega
   have c4 := nput_c F3 x.wgroup 4 Sz4 (by omega)
   rw [putN_beN f4] at c4
   obtain ⟨F4, hF4⟩ : ∃ F4, F3 ++ beN x.wgroup 4 = F4 := ⟨_, rfl⟩
   rw [hF4] at c4
   have hF4l : F4.length = F.length + 12 := by rw [← hF4, List.length_append, beN_len]; omega
   have hs2 : rwFlat bkOne (l.take (i + 1)) = F4 ++ (List.replicate 4 0#8 ++ E) := by
     rw [hs, hone, ← hF4, ← hF3, ← hF2, ← hF1]; simp only [List.append_assoc]
   have hz : byL (List.replicate 4 0#8) = [.int .u8 0, .int .u8 0, .int .u8 0, .int .u8 0] := rfl
   have hs3 : byL F4 ++ (AV.int .u8 0 :: AV.int .u8 0 :: AV.int .u8 0 :: AV.int .u8 0 :: byL E) = byL (rwFlat bkOne (l.take (i + 1))) := by rw [hs2, byL_app, byL_app, hz]; rfl
   have hs4 : (rwFlat bkOne (l.take (i + 1))).length = F4.length + 4 + E.length := by rw [hs2, List.length_append, List.length_append, List.length_replicate]; omega
   have w16 : IntKind.i64.wrap (16 + (E.length : Int)) = 16 + (E.length : Int) := wrap_i64 (by omega) (by omega)
   have hbd1 : F4.length + 4 ≤ 140737488355328 := by omega
   have hbd2 : F4.length + 4 + E.length ≤ 140737488355328 := by omega
   have hfu1 : (byL F).take F.length = byL F := by_full _ _ rfl
   have hfu2 : (byL F1).take F1.length = byL F1 := by_full _ _ rfl
   have hfu3 : (byL F2).take F2.length = byL F2 := by_full _ _ rfl
   have hfu4 : (byL F3).take F3.length = byL F3 := by_full _ _ rfl
   have hfu5 : (byL E).take E.length = byL E := by_full _ _ rfl
   unfold byS actS at *
   clear hF hF1 hF2 hF3 hF4 hs hs2 hone hR f1 f2 f3 f4 hxx hF1l hF2l hF3l hF4l hfl htl hr
   repeat' (first | apply WK.s | apply WK.b | apply WK.n | apply WK.k | refine WK.cT rfl ?_ | (refine hQ.h _ _ ?_; clear hQ hA) | (refine WK.rH Tryz.ntmps249 (by kernel_rfl) ?_; intro A hA Q hQ; simp [Bucket.enc, *]) | (refine WK.rX (by kernel_rfl) Tryz.ntmps249 (by kernel_rfl) ?_; intro A hA Q hQ; simp [Bucket.enc, *]) | (refine hQ.h _ _ _ (by decide +kernel) ?_; clear hQ hA) | (refine RunX.callOz 901 28 1 rfl rfl rfl rfl rfl rfl ?_ (c1) ?_ ?_ (by simp) (by decide) ?_; (focus (simp (maxDischargeDepth := 120) [Bucket.enc, *]; done)); (focus (simp [Bucket.enc, *]; done)); (focus (simp [Bucket.enc, *]; done)); refine RunX.e ?_; simp [Bucket.enc, *]) | (refine RunX.callOz 902 32 1 rfl rfl rfl rfl rfl rfl ?_ (c2) ?_ ?_ (by simp) (by decide) ?_; (focus (simp (maxDischargeDepth := 120) [Bucket.enc, *]; done)); (focus (simp [Bucket.enc, *]; done)); (focus (simp [Bucket.enc, *]; done)); refine RunX.e ?_; simp [Bucket.enc, *]) | (refine RunX.callOz 903 36 1 rfl rfl rfl rfl rfl rfl ?_ (c3) ?_ ?_ (by simp) (by decide) ?_; (focus (simp (maxDischargeDepth := 120) [Bucket.enc, *]; done)); (focus (simp [Bucket.enc, *]; done)); (focus (simp [Bucket.enc, *]; done)); refine RunX.e ?_; simp [Bucket.enc, *]) | (refine RunX.callOz 904 39 1 rfl rfl rfl rfl rfl rfl ?_ (c4) ?_ ?_ (by simp) (by decide) ?_; (focus (simp (maxDischargeDepth := 120) [Bucket.enc, *]; done)); (focus (simp [Bucket.enc, *]; done)); (focus (simp [Bucket.enc, *]; done)); refine RunX.e ?_; simp [Bucket.enc, *]) | (refine RunQ.append 905 appByte rfl rfl rfl rfl rfl rfl rfl rfl rfl ?_ ?_ ?_ ?_ ?_; (focus (first | omega | (simp [Bucket.enc, *]; done); done)); (focus (first | omega | (simp [Bucket.enc, *]; done); done)); (focus (first | omega | (simp [Bucket.enc, *]; done); done)); (focus (first | omega | (simp [Bucket.enc, *]; done); done)); refine RunQ.e ?_; simp [Bucket.enc, *]) | (refine RunQ.append 906 appByte rfl rfl rfl rfl rfl rfl rfl rfl rfl ?_ ?_ ?_ ?_ ?_; (focus (first | omega | (simp [Bucket.enc, *]; done); done)); (focus (first | omega | (simp [Bucket.enc, *]; done); done)); (focus (first | omega | (simp [Bucket.enc, *]; done); done)); (focus (first | omega | (simp [Bucket.enc, *]; done); done)); refine RunQ.e ?_; simp [Bucket.enc, *]) | (refine RunQ.k rfl rfl rfl rfl rfl ?_ (p) ?_ ?_ <;> simp (maxDischargeDepth := 120) [Bucket.enc, *] <;> refine ⟨?_⟩))
   refine WK.next (fun n => if n = 1 then 906 else n) (IH (i + 1) (by omega) (by first | omega | (dsimp only; omega))) (by repeat (first | exact TmW.nil | refine TmW.upd ?_ (by simp (maxDischargeDepth := 120) [hs3, hs4]))) (by repeat (first | exact BxW.nil | refine BxW.upd ?_ (by simp (maxDischargeDepth := 120) [hs3, hs4]))) (by first | exact InjW.id | exact InjW.nil | exact InjW.one | exact InjW.two (by simp) | exact InjW.three (by simp) (by simp) (by simp))
 · have hT : l.take i = l := List.take_of_length_le (by omega)
   rw [hT] at hfl ⊢
   obtain ⟨F, hF⟩ : ∃ F, rwFlat bkOne l = F := ⟨_, rfl⟩
   rw [hF] at hdef hfl ⊢
   by_cases h6 : F.length ≤ 60000
   · have j6 : ¬ (60000 : Int) < F.length := by omega
     rw [if_pos h6] at hdef
     rw [hdef]
     clear hF hdef
     repeat' (first | apply WK.s | apply WK.k | refine WK.exit rfl ?_ | refine WK.cF rfl ?_ | (refine hQ.h _ _ ?_; clear hQ hA) | (refine WK.rH Tryz.ntmps249 (by kernel_rfl) ?_; intro A hA Q hQ; simp [*]) | (refine WK.retT2 Tryz.func249 ?_ ?_ ?_ <;> simp (maxDischargeDepth := 120) [Tryz.results249, *]))
   · have j6 : (60000 : Int) < F.length := by omega
     rw [if_neg h6] at hdef
     rw [hdef]
     clear hF hdef
     repeat' (first | apply WK.s | refine WK.exit rfl ?_ | refine WK.cT rfl ?_ | refine WK.cF rfl ?_ | (refine hQ.h _ _ ?_; clear hQ hA) | (refine WK.rH Tryz.ntmps249 (by kernel_rfl) ?_; intro A hA Q hQ; simp [*]))
     refine WK.ghost (Ghost.own 2 907 1 rfl rfl) ?_
     refine WK.retT2 Tryz.func249 ?_ ?_ ?_ <;> simp (maxDischargeDepth := 120) [Tryz.results249, b0_]

def Bucket.same (a b : Bucket) : Bool := a.weight == b.weight && (a.watch == b.watch && (a.wgroup == b.wgroup && eqBy (· == ·) a.acts b.acts))
theorem bsame_c (a b : Bucket) (ha : a.acts.length ≤ 1000000) : FnP Tryz.prog 97 [.agg a.enc, .agg b.enc] (.bool (Bucket.same a b)) := by
 have hsa := acsame_c a.acts b.acts ha
 unfold actS at hsa
 have e : Bucket.same a b = (a.weight == b.weight && (a.watch == b.watch && (a.wgroup == b.wgroup && eqBy (· == ·) a.acts b.acts))) := rfl
 obtain ⟨s, hs⟩ : ∃ s, eqBy (· == ·) a.acts b.acts = s := ⟨_, rfl⟩
 rw [hs] at hsa e
 refine FnP.i Tryz.func97 rfl rfl fun G w => ?_
 repeat' (first | apply WK.s | (refine hQ.h _ _ ?_; clear hQ hA) | (refine Fork.mk (fun h => ?_) (fun h => ?_) <;> (first | (simp [*] at h; done) | (have h2 := h; simp at h2; exfalso; omega) | (have h2 := h; simp at h2; try simp only [Bool.not_eq_true', Bool.not_eq_false'] at h) | skip)) | (refine WK.rH Tryz.ntmps97 (by kernel_rfl) ?_; intro A hA Q hQ; simp [Bucket.enc, *]) | (refine RunQ.g rfl (by rw [hA.h]; rfl) ?_; simp [Bucket.enc, *]) | (refine RunQW.k rfl rfl rfl rfl ?_ (hsa) ?_ ?_ <;> simp (maxDischargeDepth := 120) [Bucket.enc, *] <;> refine ⟨?_⟩) | (refine WK.t Tryz.func97 ?_ ?_ <;> simp (maxDischargeDepth := 120) [Tryz.results97, Bucket.enc, *]))
theorem bsameL_c (l m : List Bucket) (hl : l.length ≤ 1000000) (ha : ∀ x, x ∈ l → x.acts.length ≤ 1000000) : FnP Tryz.prog 62 [bukS l, bukS m] (.bool (eqBy Bucket.same l m)) := by
 have h := eqf_buk 97 [] Bucket.same l m rfl hl (fun x hx y _ => bsame_c x y (ha x hx))
 unfold bukS at *
 refine FnP.i Tryz.func62 rfl rfl fun G w => ?_
 repeat' (first | apply WK.s | (refine hQ.h _ _ ?_; clear hQ hA) | (refine WK.rH Tryz.ntmps62 (by kernel_rfl) ?_; intro A hA Q hQ; simp [*]) | (refine RunQ.k rfl rfl rfl rfl rfl ?_ (h) ?_ ?_ <;> simp (maxDischargeDepth := 120) [*] <;> refine ⟨?_⟩) | (refine WK.t Tryz.func62 ?_ ?_ <;> simp (maxDischargeDepth := 120) [Tryz.results62, *]))
set_option maxHeartbeats 4000000 in
theorem rbsameL_c (l m : List Bucket) (hl : l.length ≤ 1000000) (ha : ∀ x, x ∈ l → x.acts.length ≤ 1000000) : FnP Tryz.prog 65 [bukS l, bukS m] (.bool (eqBy Bucket.same l m)) := by
 unfold bukS
 by_cases hlm : l.length = m.length
 case neg =>
   have e : eqBy Bucket.same l m = false := by unfold eqBy; simp; intro e; omega
   have e2 : ((l.length : Int) == (m.length : Int)) = false := by rw [beq_eq_false_iff_ne]; omega
   refine FnP.i Tryz.func65 rfl rfl fun G w => ?_
   repeat' (first | apply WK.s | refine WK.cT rfl ?_ | (refine hQ.h _ _ ?_; clear hQ hA) | (refine WK.rH Tryz.ntmps65 (by kernel_rfl) ?_; intro A hA Q hQ; simp [bne, *]) | (refine WK.t Tryz.func65 ?_ ?_ <;> simp (maxDischargeDepth := 120) [Tryz.results65, bne, *]))
 have e2 : ((l.length : Int) == (m.length : Int)) = true := by rw [beq_iff_eq]; omega
 have hl1 : ¬ l.length < m.length := by omega
 have hl2 : ¬ m.length < l.length := by omega
 clear hlm
 refine FnP.i Tryz.func65 rfl rfl fun G w => ?_
 repeat' (first | apply WK.s | apply WK.b | apply WK.k | refine WK.cF rfl ?_ | (refine hQ.h _ _ ?_; clear hQ hA) | (refine WK.rH Tryz.ntmps65 (by kernel_rfl) ?_; intro A hA Q hQ; simp [bne, *]))
 refine WK.lI (fun n => n) (fun i : Nat => (⟨(upd (upd (upd J 0 (.sl false l.length (bukL l))) 1 (.sl false m.length (bukL m))) 5 (.int .i64 i)), B0, 0⟩ : St)) (fun i => i ≤ l.length ∧ ∀ j, j < i → Bucket.same (nth l j) (nth m j) = true) (fun i => l.length - i) (0) (by repeat (first | exact TmW.nil | refine TmW.upd ?_ (by simp (maxDischargeDepth := 120)))) (by repeat (first | exact BxW.nil | refine BxW.upd ?_ (by simp (maxDischargeDepth := 120)))) InjW.id (⟨by omega, by simp⟩) (fun i hi IH => ?_)
 by_cases h1 : i < l.length
 · have h2 : i < m.length := by omega
   have g0 := buk_get l i 0 h1 (by omega)
   have g1 := buk_get l i 1 h1 (by omega)
   have g2 := buk_get l i 2 h1 (by omega)
   have g3 := buk_get l i 3 h1 (by omega)
   have k0 := buk_get m i 0 h2 (by omega)
   have k1 := buk_get m i 1 h2 (by omega)
   have k2 := buk_get m i 2 h2 (by omega)
   have k3 := buk_get m i 3 h2 (by omega)
   have l0 : i * 4 < l.length * 4 := by omega
   have l1 : i * 4 + 1 < l.length * 4 := by omega
   have l2 : i * 4 + 2 < l.length * 4 := by omega
   have l3 : i * 4 + 3 < l.length * 4 := by omega
   have m0 : i * 4 < m.length * 4 := by omega
   have m1 : i * 4 + 1 < m.length * 4 := by omega
   have m2 : i * 4 + 2 < m.length * 4 := by omega
   have m3 : i * 4 + 3 < m.length * 4 := by omega
   have h6 : IntKind.i64.wrap ((i : Int) + 1) = i + 1 := wrap_i64 (by omega) (by omega)
   have hc := rsame_act (nth l i).acts (nth m i).acts (ha _ (nth_mem h1))
   have hd : Bucket.same (nth l i) (nth m i) = ((nth l i).weight == (nth m i).weight && ((nth l i).watch == (nth m i).watch && ((nth l i).wgroup == (nth m i).wgroup && eqBy (· == ·) (nth l i).acts (nth m i).acts))) := rfl
   have hr : Bucket.same (nth l i) (nth m i) = false → eqBy Bucket.same l m = false := fun h => by unfold eqBy; rw [all_range_false (p := fun i => Bucket.same (nth l i) (nth m i)) h1 h]; simp
   have hj : Bucket.same (nth l i) (nth m i) = true → ∀ j, j < i + 1 → Bucket.same (nth l j) (nth m j) = true := fun h j hj => by
     by_cases h7 : j = i
     · subst h7; exact h
     · exact hi.2 j (by omega)
   obtain ⟨x, hx⟩ : ∃ x, nth l i = x := ⟨_, rfl⟩
   obtain ⟨y, hy⟩ : ∃ y, nth m i = y := ⟨_, rfl⟩
   simp only [hx, Bucket.enc, List.getElem_cons_zero, List.getElem_cons_succ, Nat.add_zero] at g0 g1 g2 g3
   simp only [hy, Bucket.enc, List.getElem_cons_zero, List.getElem_cons_succ, Nat.add_zero] at k0 k1 k2 k3
   simp only [hx, hy] at hc hd hr hj
   unfold actS at hc
   obtain ⟨z0, hz0⟩ : ∃ z, (x.weight == y.weight) = z := ⟨_, rfl⟩
   obtain ⟨z1, hz1⟩ : ∃ z, (x.watch == y.watch) = z := ⟨_, rfl⟩
   obtain ⟨z2, hz2⟩ : ∃ z, (x.wgroup == y.wgroup) = z := ⟨_, rfl⟩
   obtain ⟨z3, hz3⟩ : ∃ z, eqBy (· == ·) x.acts y.acts = z := ⟨_, rfl⟩
   rw [hz0, hz1, hz2, hz3] at hd
   rw [hz3] at hc
   clear hx hy hz3
   rw [hd] at hr hj
   cases hz : (z0 && (z1 && (z2 && z3)))
   · have e := hr hz
     rw [e]
     clear hr hj hd
     rcases and4_false hz with rfl | ⟨rfl, rfl⟩ | ⟨rfl, rfl, rfl⟩ | ⟨rfl, rfl, rfl, rfl⟩ <;>
     · clear hz
       repeat' (first | apply WK.s | apply WK.b | apply WK.k | refine WK.cT rfl ?_ | (refine hQ.h _ _ ?_; clear hQ hA) | (refine WK.rH Tryz.ntmps65 (by kernel_rfl) ?_; intro A hA Q hQ; simp [bne, *]) | (refine WK.rX (by kernel_rfl) Tryz.ntmps65 (by kernel_rfl) ?_; intro A hA Q hQ; simp [bne, *]) | (refine hQ.h _ _ _ (by decide +kernel) ?_; clear hQ hA) | (refine RunX.gd rfl (by rw [hA.h]; rfl) ?_; simp [bne, *]) | (refine RunXW.call rfl rfl rfl ?_ (hc) ?_ ?_; (focus (simp (maxDischargeDepth := 120) [bne, *]; done)); (focus (simp [bne, *]; done)); refine RunX.e ?_; simp [bne, *]) | (refine WK.t Tryz.func65 ?_ ?_ <;> simp (maxDischargeDepth := 120) [Tryz.results65, bne, *]))
   · have e := hj hz
     obtain ⟨rfl, rfl, rfl, rfl⟩ := and4_true hz
     clear hr hj hd hz
     repeat' (first | apply WK.s | apply WK.b | apply WK.n | apply WK.k | refine WK.cT rfl ?_ | refine WK.cF rfl ?_ | (refine hQ.h _ _ ?_; clear hQ hA) | (refine WK.rH Tryz.ntmps65 (by kernel_rfl) ?_; intro A hA Q hQ; simp [bne, *]) | (refine WK.rX (by kernel_rfl) Tryz.ntmps65 (by kernel_rfl) ?_; intro A hA Q hQ; simp [bne, *]) | (refine hQ.h _ _ _ (by decide +kernel) ?_; clear hQ hA) | (refine RunX.gd rfl (by rw [hA.h]; rfl) ?_; simp [bne, *]) | (refine RunXW.call rfl rfl rfl ?_ (hc) ?_ ?_; (focus (simp (maxDischargeDepth := 120) [bne, *]; done)); (focus (simp [bne, *]; done)); refine RunX.e ?_; simp [bne, *]))
     refine WK.next (fun n => n) (IH (i + 1) (⟨by omega, e⟩) (by first | omega | (dsimp only; omega))) (by repeat (first | exact TmW.nil | refine TmW.upd ?_ (by simp (maxDischargeDepth := 120)))) (by repeat (first | exact BxW.nil | refine BxW.upd ?_ (by simp (maxDischargeDepth := 120)))) InjW.id
 · have e : eqBy Bucket.same l m = true := by unfold eqBy; rw [all_range_true (p := fun i => Bucket.same (nth l i) (nth m i)) (fun j hj => hi.2 j (by omega))]; simp; omega
   repeat' (first | apply WK.s | refine WK.exit rfl ?_ | refine WK.cF rfl ?_ | (refine hQ.h _ _ ?_; clear hQ hA) | (refine WK.rH Tryz.ntmps65 (by kernel_rfl) ?_; intro A hA Q hQ; simp [*]) | (refine WK.t Tryz.func65 ?_ ?_ <;> simp (maxDischargeDepth := 120) [Tryz.results65, *]))
theorem bkencP_c (l : List Bucket) (hl : l.length ≤ 1000000) (ha : ∀ x, x ∈ l → x.acts.length ≤ 1000000) : FnP Tryz.prog 249 [bukS l] (.tup [byS (bkEnc l).1, .int .i64 (bkEnc l).2]) := by
 have h := (bkenc_c l hl ha).toP (by simp [byL_take]) (by rfl)
 rwa [Nat.mul_one, by_full _ _ rfl] at h
theorem bkdecP_c (b : List (BitVec 8)) (hb : b.length ≤ 1000000) : FnP Tryz.prog 110 [byS b] (.tup [bukS (bkDec b).1, .agg (gF (bkDec b).2)]) := by
 have h := (bkdec_c b hb).toP (by simp) (by simp [ClL, Cl])
 rwa [bukL_take] at h
theorem rbkdecP_c (b : List (BitVec 8)) (hb : b.length ≤ 1000000) : FnP Tryz.prog 76 [byS b] (.tup [bukS (bkDec b).1, .agg (gF (bkDec b).2)]) := by
 have h := (rbkdec_c b hb).toP (by simp) (by simp [ClL, Cl])
 rwa [bukL_take] at h
theorem bkRead_small {b : List (BitVec 8)} {y : Bucket} {n : Int} (h : bkRead b = (y, n, none)) : y.acts.length * 8 ≤ b.length := by
 unfold bkRead at h
 split at h
 · cases h
 · simp only [Prod.mk.injEq] at h
   obtain ⟨rfl, _, _⟩ := h
   obtain ⟨R, hR⟩ : ∃ R, acDec ((b.drop 16).take ((getN b 0 2).1.toNat - 16)) = R := ⟨_, rfl⟩
   obtain ⟨l, c⟩ := R
   have := acDec_small hR
   simp only [hR, List.length_take, List.length_drop] at this ⊢
   omega
theorem rwF_all {α φ : Type} {rd : List (BitVec 8) → α × Int × Option φ} {ok : Nat → α → Prop} (hm : ∀ {n m a}, n ≤ m → ok n a → ok m a) (hb : ∀ b y n, rd b = (y, n, none) → ok b.length y) :
   ∀ (f : Nat) (b : List (BitVec 8)), ∀ a, a ∈ (rwF rd f b).1 → ok b.length a
 | 0, b, a, ha => by simp [rwF] at ha
 | f + 1, b, a, ha => by
   rw [rwF] at ha
   split at ha
   · simp at ha
   obtain ⟨y, n, c, hd⟩ : ∃ y n c, rd b = (y, n, c) := ⟨_, _, _, rfl⟩
   rw [hd] at ha
   cases c with
   | some c => simp at ha
   | none =>
     simp only at ha
     obtain ⟨R, hR⟩ : ∃ R, rwF rd f (b.drop n.toNat) = R := ⟨_, rfl⟩
     obtain ⟨m, c⟩ := R
     cases c with
     | some c => simp [rwGlue, hR] at ha
     | none =>
       simp only [rwGlue, hR, List.cons_append, List.nil_append, List.mem_cons] at ha
       rcases ha with rfl | ha
       · exact hb _ _ _ hd
       · have := rwF_all (ok := ok) hm hb f (b.drop n.toNat) a (by rw [hR]; exact ha)
         exact hm (by rw [List.length_drop]; omega) this
theorem bkDec_small {b : List (BitVec 8)} {l : List Bucket} {c : Option (Int × Int)} (h : bkDec b = (l, c)) : l.length ≤ 100 ∧ ∀ x, x ∈ l → x.acts.length * 8 ≤ b.length := by
 cases c with
 | some c => rw [bkDec_bad h]; simp
 | none =>
   unfold bkDec at h
   split at h
   · cases h
   split at h
   · cases h
   · rename_i h2
     rw [h] at h2
     refine ⟨by simp only [true_and] at h2; omega, fun x hx => ?_⟩
     exact rwF_all (ok := fun n (x : Bucket) => x.acts.length * 8 ≤ n) (fun h1 h2 => by omega) (fun b y n hd => bkRead_small hd) b.length b x (by show x ∈ (rwDec bkRead b).1; rw [h]; exact hx)
end Go.Proofs.YtcccfbjkcahgfaaGreat

namespace Go.Proofs.YtcccfbjkcahgfaaGreat
open Go Go.AI Go.Proofs
theorem eqBy_iff {l m : List Action} : eqBy (fun x y : Action => x == y) l m = true ↔ l = m := by
 constructor
 · intro h
   unfold eqBy at h
   rw [Bool.and_eq_true, beq_iff_eq, List.all_eq_true] at h
   refine List.ext_getElem h.1 fun i h1 h2 => ?_
   have := h.2 i (by simpa using h1)
   rw [beq_iff_eq, nth_eq h1, nth_eq h2] at this
   exact this
 · intro h; subst h; exact eqBy_selfA l
theorem instSame_iff {a b : Inst} : Inst.same a b = true ↔ a = b := by
 obtain ⟨k, t, v, m, l⟩ := a
 obtain ⟨k', t', v', m', l'⟩ := b
 unfold Inst.same
 simp only [Bool.and_eq_true, beq_iff_eq, Inst.mk.injEq]
 rw [show (eqBy (fun x1 x2 => x1 == x2) l l' = true) ↔ l = l' from eqBy_iff]
 simp only [and_assoc]
theorem instSelf (i : Inst) : Inst.same i i = true := instSame_iff.2 rfl
def inst0 : Inst := ⟨0, 0, wideZ, wideZ, []⟩
def inMeta (v m : Wide) : Bool := v.hi == 0#64 && (m.hi == 0#64 && (v.less m).zero)
def inBare (i : Inst) : Inst := if i.kind = 1 then ⟨1, i.table, wideZ, wideZ, []⟩ else if i.kind = 2 then ⟨2, 0, i.value, i.mask, []⟩ else if i.kind = 3 ∨ i.kind = 4 then ⟨i.kind, 0, wideZ, wideZ, i.acts⟩ else ⟨i.kind, 0, wideZ, wideZ, []⟩
def inOk (i : Inst) : Bool := if i.kind = 1 then decide (0 ≤ i.table) && decide (i.table < 255) else if i.kind = 2 then inMeta i.value i.mask else if i.kind = 3 ∨ i.kind = 4 then (acEnc i.acts).2 == 0 else i.kind == 5
def inRight (i : Inst) : Bool := inOk i && Inst.same i (inBare i)
def inBody (i : Inst) : List (BitVec 8) := if i.kind = 1 then BitVec.ofInt 8 i.table :: List.replicate 3 0#8 else if i.kind = 2 then List.replicate 4 0#8 ++ (beN (wN i.value) 8 ++ beN (wN i.mask) 8) else if i.kind = 3 ∨ i.kind = 4 then List.replicate 4 0#8 ++ (acEnc i.acts).1 else List.replicate 4 0#8
def inOne (i : Inst) : List (BitVec 8) := beN i.kind 2 ++ (beN (4 + (inBody i).length : Nat) 2 ++ inBody i)
def inKinds (l : List Inst) : List Int := l.map (·.kind)
def inFit (l : List Inst) : Bool := l.all inRight && decide (inKinds l).Nodup
def inEnc (l : List Inst) : List (BitVec 8) × Int := if inFit l = true ∧ (rwFlat inOne l).length ≤ 60000 then (rwFlat inOne l, 0) else ([], 1)
def inLaid (k : Int) (b : List (BitVec 8)) : Bool := if k = 1 then b.length == 8 && allZ (b.drop 5) else if k = 2 then b.length == 24 && allZ ((b.drop 4).take 4) else if k = 5 then b.length == 8 && allZ (b.drop 4) else allZ ((b.drop 4).take 4)
def inCut (b : List (BitVec 8)) : Int × Nat × Option (Int × Int) :=
 if b.length < 8 then (0, 0, some (3, 7))
 else if valN ((b.drop 2).take 2) < 8 ∨ ¬ valN ((b.drop 2).take 2) % 8 = 0 ∨ b.length < valN ((b.drop 2).take 2) then (0, 0, some (3, 7))
 else if valN ((b.drop 0).take 2) = 6 then (0, 0, some (3, 1))
 else if valN ((b.drop 0).take 2) < 1 ∨ 5 < valN ((b.drop 0).take 2) then (0, 0, some (3, 0))
 else if inLaid (valN ((b.drop 0).take 2)) (b.take (valN ((b.drop 2).take 2))) = false then (0, 0, some (3, 7))
 else (valN ((b.drop 0).take 2), valN ((b.drop 2).take 2), none)
def inOf (k : Int) (b : List (BitVec 8)) : Inst × Option (Int × Int) :=
 if k = 1 then (⟨1, (nth b 4).toNat, wideZ, wideZ, []⟩, if (nth b 4).toNat = 255 then some (3, 2) else none)
 else if k = 2 then (⟨2, 0, (wGet (b.drop 8) 8).1, (wGet (b.drop 16) 8).1, []⟩, if inMeta (wGet (b.drop 8) 8).1 (wGet (b.drop 16) 8).1 = true then none else some (3, 4))
 else if k = 3 ∨ k = 4 then (⟨k, 0, wideZ, wideZ, (acDec (b.drop 8)).1⟩, (acDec (b.drop 8)).2.map fun c => (2, c))
 else (⟨k, 0, wideZ, wideZ, []⟩, none)
def inStep (ks : List Int) (b : List (BitVec 8)) : Inst × Nat × Option (Int × Int) :=
 match (inCut b).2.2 with
 | some c => (inst0, 0, some c)
 | none => if (inCut b).1 ∈ ks then (inst0, 0, some (3, 9)) else
   match (inOf (inCut b).1 (b.take (inCut b).2.1)).2 with
   | some c => (inst0, 0, some c)
   | none => ((inOf (inCut b).1 (b.take (inCut b).2.1)).1, (inCut b).2.1, none)
def inF : Nat → List Inst → List (BitVec 8) → List Inst × Option (Int × Int)
 | 0, acc, _ => (acc, none)
 | f + 1, acc, b => if b.length = 0 then (acc, none) else match (inStep (inKinds acc) b).2.2 with
   | some c => ([], some c)
   | none => inF f (acc ++ [(inStep (inKinds acc) b).1]) (b.drop (inStep (inKinds acc) b).2.1)
def inDec (b : List (BitVec 8)) : List Inst × Option (Int × Int) := inF b.length [] b
theorem inF_stop {f : Nat} {acc : List Inst} {b : List (BitVec 8)} (h : b.length = 0) : inF f acc b = (acc, none) := by
 cases f with
 | zero => rfl
 | succ f => rw [inF, if_pos h]
theorem inF_bad : ∀ (f : Nat) (acc : List Inst) (b : List (BitVec 8)) (c : Int × Int), (inF f acc b).2 = some c → (inF f acc b).1 = []
 | 0, acc, b, c, h => by simp [inF] at h
 | f + 1, acc, b, c, h => by
   rw [inF] at h ⊢
   split
   · rename_i h0; rw [if_pos h0] at h; cases h
   rename_i h0
   rw [if_neg h0] at h
   split
   · rfl
   · rename_i hd
     rw [hd] at h
     exact inF_bad f _ _ c h
theorem inDec_bad {b : List (BitVec 8)} {l : List Inst} {c : Int × Int} (h : inDec b = (l, some c)) : l = [] := by
 have := inF_bad b.length [] b c (by show (inDec b).2 = some c; rw [h])
 change (inDec b).1 = [] at this
 rw [h] at this
 exact this
theorem inBody_len (i : Inst) : (inBody i).length ≤ 6004 := by
 have := acEnc_len i.acts
 unfold inBody
 split
 · simp
 split
 · simp [beN_len]
 split
 · simp; omega
 · simp
theorem inOne_len (i : Inst) : (inOne i).length = 4 + (inBody i).length := by unfold inOne; simp [beN_len]; omega
theorem inRight_facts {i : Inst} (h : inRight i = true) : inOk i = true ∧ i = inBare i := by
 unfold inRight at h
 rw [Bool.and_eq_true] at h
 exact ⟨h.1, instSame_iff.1 h.2⟩
theorem inKind_of {i : Inst} (h : inOk i = true) : i.kind = 1 ∨ i.kind = 2 ∨ i.kind = 3 ∨ i.kind = 4 ∨ i.kind = 5 := by
 unfold inOk at h
 split at h
 · exact .inl ‹_›
 split at h
 · exact .inr (.inl ‹_›)
 split at h
 · rename_i h3; rcases h3 with h3 | h3
   · exact .inr (.inr (.inl h3))
   · exact .inr (.inr (.inr (.inl h3)))
 · exact .inr (.inr (.inr (.inr (by simpa using h))))
theorem inFit_facts {l : List Inst} (h : inFit l = true) : (∀ a, a ∈ l → inRight a = true) ∧ (inKinds l).Nodup := by
 unfold inFit at h
 rw [Bool.and_eq_true, List.all_eq_true, decide_eq_true_eq] at h
 exact h
theorem inEnc_bad1 {l : List Inst} (h : ¬ (inFit l = true ∧ (rwFlat inOne l).length ≤ 60000)) : inEnc l = ([], 1) := by unfold inEnc; rw [if_neg h]
theorem inEnc_len (l : List Inst) : (inEnc l).1.length ≤ 60000 := by
 unfold inEnc
 split
 · rename_i h; exact h.2
 · simp

theorem inCut_facts {b : List (BitVec 8)} {k : Int} {n : Nat} (h : inCut b = (k, n, none)) : 8 ≤ n ∧ n ≤ b.length ∧ n % 8 = 0 ∧ n < 65536 ∧ (∃ kn : Nat, k = kn ∧ 1 ≤ kn ∧ kn ≤ 5 ∧ beN (kn : Int) 2 = b.take 2) ∧ beN (n : Int) 2 = (b.drop 2).take 2 ∧ inLaid k (b.take n) = true := by
 unfold inCut at h
 split at h
 · cases h
 rename_i c0
 split at h
 · cases h
 rename_i c1
 split at h
 · cases h
 rename_i c2
 split at h
 · cases h
 rename_i c3
 split at h
 · cases h
 rename_i c4
 simp only [Prod.mk.injEq, and_true] at h
 obtain ⟨rfl, rfl⟩ := h
 have l0 : ((b.drop 0).take 2).length = 2 := by simp; omega
 have l1 : ((b.drop 2).take 2).length = 2 := by simp; omega
 have e0 := beN_valN 2 _ l0
 have e1 := beN_valN 2 _ l1
 have lt : valN ((b.drop 2).take 2) < 65536 := valN_lt 2 _ l1
 rw [List.drop_zero] at e0 c3
 rw [Bool.not_eq_false] at c4
 exact ⟨by omega, by omega, by omega, lt, ⟨_, by rw [List.drop_zero], by omega, by omega, e0⟩, e1, c4⟩
theorem wide_back (b : List (BitVec 8)) (h : 8 ≤ b.length) : beN (wN (wGet b 8).1) 8 = b.take 8 := by
 have h1 := wPut_wGet b [] 8 (by omega) h
 rw [wPut_beN _ _ _ (by omega), List.nil_append, List.nil_append] at h1
 exact h1
theorem take_take_drop (b : List (BitVec 8)) (p q r : Nat) (h : r = p + q) : (b.drop p).take q ++ b.drop r = b.drop p := by
 subst h
 rw [← List.drop_drop, List.take_append_drop]
theorem inStep_back {ks : List Int} {b : List (BitVec 8)} {y : Inst} {n : Nat} (h : inStep ks b = (y, n, none)) : inRight y = true ∧ y.kind ∉ ks ∧ 8 ≤ n ∧ n ≤ b.length ∧ inOne y = b.take n ∧ y.acts.length * 8 ≤ b.length := by
 unfold inStep at h
 obtain ⟨k, m, c, hc⟩ : ∃ k m c, inCut b = (k, m, c) := ⟨_, _, _, rfl⟩
 rw [hc] at h
 cases c with
 | some c => simp at h
 | none =>
 simp only at h
 split at h
 · cases h
 rename_i hks
 obtain ⟨z, c, hz⟩ : ∃ z c, inOf k (b.take m) = (z, c) := ⟨_, _, rfl⟩
 rw [hz] at h
 cases c with
 | some c => simp at h
 | none =>
 simp only [Prod.mk.injEq, and_true] at h
 obtain ⟨rfl, rfl⟩ := h
 obtain ⟨f1, f2, f3, f4, ⟨kn, rfl, f5, f6, f7⟩, f8, f9⟩ := inCut_facts hc
 obtain ⟨B, hB⟩ : ∃ B, b.take m = B := ⟨_, rfl⟩
 have hBl : B.length = m := by rw [← hB, List.length_take]; omega
 have t2 : b.take 2 = B.take 2 := by rw [← hB, List.take_take, Nat.min_eq_left (by omega)]
 have t4 : (b.drop 2).take 2 = (B.drop 2).take 2 := by
   rw [← hB, List.drop_take, List.take_take, Nat.min_eq_left (by omega)]
 have glue : ∀ body : List (BitVec 8), z.kind = kn → inBody z = body → body = B.drop 4 → inOne z = B := fun body h1 h2 h3 => by
   have hl : 4 + (B.drop 4).length = m := by rw [List.length_drop]; omega
   unfold inOne
   rw [h1, h2, h3, hl, f7, f8, t2, t4, take_take_drop B 2 2 4 rfl, List.take_append_drop]
 rw [hB] at hz f9 ⊢
 have z4 : ∀ p q, allZ ((B.drop p).take q) = true → p + q ≤ m → List.replicate q 0#8 = (B.drop p).take q := fun p q h1 h2 => by
   rw [allZ_iff] at h1
   rw [h1, List.length_take, List.length_drop, Nat.min_eq_left (by omega)]
 unfold inOf at hz
 unfold inLaid at f9
 by_cases k1 : kn = 1
 · subst k1
   rw [if_pos (by decide)] at hz f9
   simp only [Bool.and_eq_true, beq_iff_eq] at f9
   simp only [Prod.mk.injEq] at hz
   obtain ⟨rfl, hc⟩ := hz
   have hne : ¬ (nth B 4).toNat = 255 := fun e => by rw [if_pos e] at hc; cases hc
   have hlt := (nth B 4).isLt
   have h5 : List.replicate 3 0#8 = B.drop 5 := by
     have := f9.2; rw [allZ_iff] at this; rw [this, List.length_drop]; congr 1; omega
   have h4 : B.drop 4 = nth B 4 :: B.drop 5 := by rw [nth_eq (by omega), List.drop_eq_getElem_cons (by omega)]
   refine ⟨?_, hks, f1, f2, ?_, by simp⟩
   · unfold inRight inOk inBare
     simp only [if_pos, instSelf]
     simp
     omega
   · refine glue _ rfl rfl ?_
     unfold inBody
     rw [if_pos rfl, h4, ← h5]
     simp only [ofInt8_nat]
 by_cases k2 : kn = 2
 · subst k2
   rw [if_neg (by decide), if_pos (by decide)] at hz f9
   simp only [Bool.and_eq_true, beq_iff_eq] at f9
   simp only [Prod.mk.injEq] at hz
   obtain ⟨rfl, hc⟩ := hz
   have hm : inMeta (wGet (B.drop 8) 8).1 (wGet (B.drop 16) 8).1 = true := Decidable.byContradiction fun e => by rw [if_neg e] at hc; cases hc
   refine ⟨?_, hks, f1, f2, ?_, by simp⟩
   · unfold inRight inOk inBare
     simp only [if_neg (show ¬ (2 : Int) = 1 by decide), if_pos, instSelf]
     simpa using hm
   · refine glue _ rfl rfl ?_
     unfold inBody
     simp only
     rw [if_neg (by decide), if_pos (by decide)]
     rw [wide_back _ (by rw [List.length_drop]; omega), wide_back _ (by rw [List.length_drop]; omega), z4 4 4 f9.2 (by omega)]
     have h16 : (B.drop 16).take 8 = B.drop 16 := List.take_of_length_le (by rw [List.length_drop]; omega)
     rw [h16, take_take_drop B 8 8 16 rfl, take_take_drop B 4 4 8 rfl]
 by_cases k5 : kn = 5
 · subst k5
   rw [if_neg (by decide), if_neg (by decide), if_pos (by decide)] at f9
   rw [if_neg (by decide), if_neg (by decide), if_neg (by decide)] at hz
   simp only [Bool.and_eq_true, beq_iff_eq] at f9
   simp only [Prod.mk.injEq, and_true] at hz
   subst hz
   have h4 : List.replicate 4 0#8 = B.drop 4 := by
     have := f9.2; rw [allZ_iff] at this; rw [this, List.length_drop]; congr 1; omega
   refine ⟨?_, hks, f1, f2, ?_, by simp⟩
   · show (true && Inst.same _ _) = true
     rw [Bool.true_and]
     exact instSelf _
   · exact glue _ rfl rfl h4
 · have k34 : kn = 3 ∨ kn = 4 := by omega
   rw [if_neg (by omega), if_neg (by omega), if_neg (by omega)] at f9
   rw [if_neg (by omega), if_neg (by omega), if_pos (by omega)] at hz
   obtain ⟨R, hR⟩ : ∃ R, acDec (B.drop 8) = R := ⟨_, rfl⟩
   rw [hR] at hz
   obtain ⟨l, c⟩ := R
   cases c with
   | some c => simp at hz
   | none =>
   simp only [Option.map_none, Prod.mk.injEq, and_true] at hz
   subst hz
   have hb := acDec_back hR
   have hsm := acDec_small hR
   rw [List.length_drop] at hsm
   refine ⟨?_, hks, f1, f2, ?_, by simp only; omega⟩
   · unfold inRight inOk inBare
     simp only [if_neg (show ¬ (kn : Int) = 1 by omega), if_neg (show ¬ (kn : Int) = 2 by omega), if_pos (show (kn : Int) = 3 ∨ (kn : Int) = 4 by omega), instSelf, hb]
     rfl
   · refine glue _ rfl rfl ?_
     unfold inBody
     simp only [if_neg (show ¬ (kn : Int) = 1 by omega), if_neg (show ¬ (kn : Int) = 2 by omega), if_pos (show (kn : Int) = 3 ∨ (kn : Int) = 4 by omega), hb]
     rw [z4 4 4 f9 (by omega), take_take_drop B 4 4 8 rfl]
structure InAt (b : List (BitVec 8)) (x : Nat × Nat × List Inst) : Prop where
 le : x.2.1 ≤ b.length
 fuel : b.length - x.2.1 ≤ x.1
 eq : inDec b = inF x.1 x.2.2 (b.drop x.2.1)
 small : x.2.2.length * 8 ≤ x.2.1
 right : ∀ y, y ∈ x.2.2 → inRight y = true ∧ y.acts.length * 8 ≤ b.length
 once : (inKinds x.2.2).Nodup
 flat : rwFlat inOne x.2.2 = b.take x.2.1
theorem InAt.start (b : List (BitVec 8)) : InAt b (b.length, 0, []) := ⟨Nat.zero_le _, Nat.le_refl _, rfl, Nat.le_refl _, fun y hy => (by cases hy), List.nodup_nil, (by simp [rwFlat])⟩
theorem InAt.bad {b : List (BitVec 8)} {x : Nat × Nat × List Inst} (h : InAt b x) (hp : x.2.1 < b.length) {y : Inst} {n : Nat} {c : Int × Int} (hd : inStep (inKinds x.2.2) (b.drop x.2.1) = (y, n, some c)) : inDec b = ([], some c) := by
 rw [h.eq]
 obtain ⟨f, hf⟩ : ∃ f, x.1 = f + 1 := ⟨x.1 - 1, by have := h.fuel; omega⟩
 rw [hf, inF, if_neg (by rw [List.length_drop]; omega), hd]
theorem InAt.next {b : List (BitVec 8)} {x : Nat × Nat × List Inst} (h : InAt b x) (hp : x.2.1 < b.length) {y : Inst} {n : Nat} (hd : inStep (inKinds x.2.2) (b.drop x.2.1) = (y, n, none)) : x.2.1 + n ≤ b.length ∧ 8 ≤ n ∧ InAt b (x.1 - 1, x.2.1 + n, x.2.2 ++ [y]) := by
 obtain ⟨g1, g2, g3, g4, g5, g6⟩ := inStep_back hd
 rw [List.length_drop] at g4 g6
 obtain ⟨f, hf⟩ : ∃ f, x.1 = f + 1 := ⟨x.1 - 1, by have := h.fuel; omega⟩
 refine ⟨by omega, g3, ⟨by simp only; omega, by have := h.fuel; simp only; omega, ?_, by have := h.small; simp only [List.length_append, List.length_singleton]; omega, ?_, ?_, ?_⟩⟩
 · rw [h.eq, hf, inF, if_neg (by rw [List.length_drop]; omega), hd]
   simp only [Nat.add_sub_cancel]
   rw [List.drop_drop]
 · intro z hz
   simp only [List.mem_append, List.mem_singleton] at hz
   rcases hz with hz | rfl
   · exact h.right z hz
   · exact ⟨g1, by omega⟩
 · unfold inKinds at *
   simp only [List.map_append, List.map_cons, List.map_nil]
   rw [List.nodup_append]
   exact ⟨h.once, by simp, fun a ha b hb => by simp at hb; subst hb; exact fun e => g2 (e ▸ ha)⟩
 · simp only
   rw [rwFlat_app, h.flat, List.take_add]
   congr 1
   unfold rwFlat
   rw [List.flatMap_cons, List.flatMap_nil, List.append_nil, g5]
theorem InAt.stop {b : List (BitVec 8)} {x : Nat × Nat × List Inst} (h : InAt b x) (hp : ¬ x.2.1 < b.length) : inDec b = (x.2.2, none) := by
 rw [h.eq, inF_stop (by rw [List.length_drop]; omega)]
theorem inAt_end : ∀ (f : Nat) (b : List (BitVec 8)) (p : Nat) (acc l : List Inst), InAt b (f, p, acc) → inDec b = (l, none) → ∃ f' p', InAt b (f', p', l) ∧ p' = b.length
 | 0, b, p, acc, l, h, he => by
   have hp : ¬ p < b.length := by have := h.fuel; simp only at this; omega
   have := h.stop hp
   rw [he] at this
   simp only [Prod.mk.injEq, and_true] at this
   subst this
   exact ⟨0, p, h, by have := h.le; simp only at this; omega⟩
 | f + 1, b, p, acc, l, h, he => by
   by_cases hp : p < b.length
   · obtain ⟨y, n, c, hd⟩ : ∃ y n c, inStep (inKinds acc) (b.drop p) = (y, n, c) := ⟨_, _, _, rfl⟩
     cases c with
     | some c => have := h.bad hp hd; rw [he] at this; cases this
     | none =>
       have := (h.next hp hd).2.2
       exact inAt_end f b (p + n) (acc ++ [y]) l this he
   · have := h.stop hp
     rw [he] at this
     simp only [Prod.mk.injEq, and_true] at this
     subst this
     exact ⟨f + 1, p, h, by have := h.le; simp only at this; omega⟩
structure InDone (b : List (BitVec 8)) (l : List Inst) : Prop where
 right : ∀ y, y ∈ l → inRight y = true ∧ y.acts.length * 8 ≤ b.length
 once : (inKinds l).Nodup
 flat : rwFlat inOne l = b
 small : l.length * 8 ≤ b.length
theorem inDec_done {b : List (BitVec 8)} {l : List Inst} (h : inDec b = (l, none)) : InDone b l := by
 obtain ⟨f, p, hat, rfl⟩ := inAt_end b.length b 0 [] l (InAt.start b) h
 exact ⟨hat.right, hat.once, by have := hat.flat; simpa using this, hat.small⟩

def nsEnc (l : List (Int × Nat)) : List (BitVec 8) := l.flatMap fun x => beN x.1 x.2
def nsRead : List Nat → List (BitVec 8) → Nat → List Int
 | [], _, _ => []
 | s :: r, b, p => (getN b p s).1 :: nsRead r b (p + s)
theorem nsEnc_len (l : List (Int × Nat)) : (nsEnc l).length = (l.map (·.2)).sum := by
 induction l with
 | nil => rfl
 | cons x l ih =>
   have e : nsEnc (x :: l) = beN x.1 x.2 ++ nsEnc l := rfl
   rw [e, List.length_append, ih, beN_len]; simp
theorem nsRead_len : ∀ (ss : List Nat) (b : List (BitVec 8)) (p : Nat), (nsRead ss b p).length = ss.length
 | [], _, _ => rfl
 | s :: ss, b, p => by rw [nsRead, List.length_cons, nsRead_len ss, List.length_cons]
def fmSizes : List Nat := [1, 1, 2, 2, 2, 4, 4, 4, 2]
def fmNums (m : FlowMod) : List Int := [m.table, m.command, m.idle, m.hard, m.prio, m.buffer, m.outPort, m.outGroup, m.flags]
def fmZip (m : FlowMod) : List (Int × Nat) := (fmNums m).zip fmSizes
def fmWrong (m : FlowMod) : Bool := m.insts.any fun i => i.acts.any fun a => a.kind == 25 && !mMet m.mat a.oxm.field
def fmCheck (m : FlowMod) : Option (Int × Int) :=
 if m.command < 0 ∨ 4 < m.command then some (5, 6) else if 31 < m.flags then some (5, 7) else if 2 < m.command then none else if fmWrong m = true then some (2, 10) else none
def fmRight (m : FlowMod) : Bool := (fmZip m).all (fun x => numOk x.1 x.2) && ((mEnc m.mat).2 == 0 && ((inEnc m.insts).2 == 0 && (fmCheck m).isNone))
def fmHead (m : FlowMod) : List (BitVec 8) := beN m.cookie.toNat 8 ++ (beN m.cookieMask.toNat 8 ++ (nsEnc (fmZip m) ++ List.replicate 2 0#8))
def fmEnc (m : FlowMod) : List (BitVec 8) × Int := if fmRight m = true then (fmHead m ++ ((mEnc m.mat).1 ++ (inEnc m.insts).1), 0) else ([], 1)
def flowMod0 : FlowMod := ⟨0#64, 0#64, 0, 0, 0, 0, 0, 0, 0, 0, 0, [], []⟩
def fmTake (c k : BitVec 64) (n : List Int) (l : List Oxm) (i : List Inst) : FlowMod := ⟨c, k, nth n 0, nth n 1, nth n 2, nth n 3, nth n 4, nth n 5, nth n 6, nth n 7, nth n 8, l, i⟩
def fmDec (b : List (BitVec 8)) : FlowMod × Option (Int × Int) :=
 if b.length < 40 then (flowMod0, some (1, 6)) else if allZ ((b.drop 38).take 2) = false then (flowMod0, some (1, 6)) else
 match (mDec (b.drop 40)).2.2 with
 | some c => (flowMod0, some c)
 | none => match (inDec (b.drop (40 + (mDec (b.drop 40)).2.1))).2 with
   | some c => (flowMod0, some c)
   | none => match fmCheck (fmTake (wGet b 8).1.lo (wGet (b.drop 8) 8).1.lo (nsRead fmSizes b 16) (mDec (b.drop 40)).1 (inDec (b.drop (40 + (mDec (b.drop 40)).2.1))).1) with
     | some c => (flowMod0, some c)
     | none => (fmTake (wGet b 8).1.lo (wGet (b.drop 8) 8).1.lo (nsRead fmSizes b 16) (mDec (b.drop 40)).1 (inDec (b.drop (40 + (mDec (b.drop 40)).2.1))).1, none)
theorem fmZip_sizes (m : FlowMod) : (fmZip m).map (·.2) = fmSizes := rfl
theorem fmHead_len (m : FlowMod) : (fmHead m).length = 40 := by
 have h := nsEnc_len (fmZip m)
 rw [fmZip_sizes] at h
 have : fmSizes.sum = 22 := rfl
 unfold fmHead; simp [beN_len, h, this]
structure FmFit (m : FlowMod) : Prop where
 nums : ∀ x, x ∈ fmZip m → numOk x.1 x.2 = true
 mat : (mEnc m.mat).2 = 0
 ins : (inEnc m.insts).2 = 0
 chk : fmCheck m = none
theorem fmRight_facts {m : FlowMod} (h : fmRight m = true) : FmFit m := by
 unfold fmRight at h
 rw [Bool.and_eq_true, Bool.and_eq_true, Bool.and_eq_true, beq_iff_eq, beq_iff_eq, List.all_eq_true] at h
 exact ⟨h.1, h.2.1, h.2.2.1, by simpa using h.2.2.2⟩
theorem fmEnc_bad {m : FlowMod} (h : fmRight m = false) : fmEnc m = ([], 1) := by unfold fmEnc; rw [if_neg (by rw [h]; exact Bool.false_ne_true)]
theorem fmEnc_len (m : FlowMod) : (fmEnc m).1.length ≤ 61052 := by
 unfold fmEnc
 split
 · have h1 := fmHead_len m
   have h2 := mEnc_len m.mat
   have h3 := inEnc_len m.insts
   simp only [List.length_append]; omega
 · simp
theorem fmDec_bad {b : List (BitVec 8)} {m : FlowMod} {c : Int × Int} (h : fmDec b = (m, some c)) : m = flowMod0 := by
 unfold fmDec at h
 split at h
 · cases h; rfl
 split at h
 · cases h; rfl
 split at h
 · cases h; rfl
 split at h
 · cases h; rfl
 split at h
 · cases h; rfl
 · cases h
end Go.Proofs.YtcccfbjkcahgfaaGreat
