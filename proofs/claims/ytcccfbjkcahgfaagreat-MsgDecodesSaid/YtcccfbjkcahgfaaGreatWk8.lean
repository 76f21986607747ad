/- Instructions: read by the program, the parts. -/
import Derived.Test.YtcccfbjkcahgfaaGreatAf
import Derived.Test.YtcccfbjkcahgfaaGreatWk7
set_option linter.all false
set_option linter.unnecessarySimpa false
namespace Go.Proofs.YtcccfbjkcahgfaaGreat
open Go Go.AI Go.Proofs
attribute [local irreducible] FnP FnO FnB FnT FnSeq WK RunQ RunQW RunX RunXW
theorem ibad_c (c : Int) : FnP Tryz.prog 136 [.int .i64 c] (.agg (gF (some (3, c)))) := by
 refine FnP.i Tryz.func136 rfl rfl fun G w => ?_
 repeat' (first | apply WK.s | (refine hQ.h _ _ ?_; clear hQ hA) | (refine WK.rH Tryz.ntmps136 (by kernel_rfl) ?_; intro A hA Q hQ; simp [*]) | (refine WK.t Tryz.func136 ?_ ?_ <;> simp (maxDischargeDepth := 120) [Tryz.results136, gF, *]))
theorem or_zero64 (x y : BitVec 64) : ((x ||| y) == 0#64) = (x == 0#64 && y == 0#64) := by
 rw [Bool.eq_iff_iff, Bool.and_eq_true, beq_iff_eq, beq_iff_eq, beq_iff_eq]
 exact BitVec.or_eq_zero_iff
theorem imeta_c (i : Inst) : FnP Tryz.prog 167 [.agg i.enc] (.bool (inMeta i.value i.mask)) := by
 have l := less_c i.value i.mask
 have z := zero_c (i.value.less i.mask)
 have e : inMeta i.value i.mask = ((i.value.hi ||| i.mask.hi) == 0#64 && (i.value.less i.mask).zero) := by
   unfold inMeta; rw [or_zero64, Bool.and_assoc]
 obtain ⟨r, hr⟩ : ∃ r, (i.value.less i.mask).zero = r := ⟨_, rfl⟩
 rw [hr] at z e
 obtain ⟨q, hq⟩ : ∃ q, ((i.value.hi ||| i.mask.hi) == 0#64) = q := ⟨_, rfl⟩
 rw [hq] at e
 unfold Wide.enc at l z
 refine FnP.i Tryz.func167 rfl rfl fun G w => ?_
 repeat' (first | apply WK.s | (refine hQ.h _ _ ?_; clear hQ hA) | (refine Fork.mk (fun h => ?_) (fun h => ?_) <;> (first | (simp [*] at h; done) | (have h2 := h; simp at h2; exfalso; omega) | (have h2 := h; simp at h2; try simp only [Bool.not_eq_true', Bool.not_eq_false'] at h) | skip)) | (refine WK.rH Tryz.ntmps167 (by kernel_rfl) ?_; intro A hA Q hQ; simp [Inst.enc, *]) | (refine RunQ.g rfl (by rw [hA.h]; rfl) ?_; simp [Inst.enc, *]) | (refine RunQW.k rfl rfl rfl rfl ?_ (l) ?_ ?_ <;> simp (maxDischargeDepth := 120) [Inst.enc, *] <;> refine ⟨?_⟩) | (refine RunQW.k rfl rfl rfl rfl ?_ (z) ?_ ?_ <;> simp (maxDischargeDepth := 120) [Inst.enc, *] <;> refine ⟨?_⟩) | (refine WK.t Tryz.func167 ?_ ?_ <;> simp (maxDischargeDepth := 120) [Tryz.results167, Inst.enc, *]))
theorem iempty1_c (x : BitVec 8) : FnP Tryz.prog 200 [.int .u8 (bI x)] (.bool (!(x == 0#8))) := by
 have e := bI_zero x
 refine FnP.i Tryz.func200 rfl rfl fun G w => ?_
 repeat' (first | apply WK.s | (refine hQ.h _ _ ?_; clear hQ hA) | (refine WK.rH Tryz.ntmps200 (by kernel_rfl) ?_; intro A hA Q hQ; simp [bne, *]) | (refine WK.t Tryz.func200 ?_ ?_ <;> simp (maxDischargeDepth := 120) [Tryz.results200, bne, *]))
theorem iempty_c (b : List (BitVec 8)) (hb : b.length ≤ 9223372036854775807) : FnP Tryz.prog 192 [byS b] (.bool (allZ b)) := by
 have hco := containsf_by 200 [] (fun x => !(x == 0#8)) b rfl hb (fun x _ => iempty1_c x)
 have e : allZ b = !(b.any fun x => !(x == 0#8)) := by rw [any_allZ]; simp
 rw [e]
 refine FnP.i Tryz.func192 rfl rfl fun G w => ?_
 repeat' (first | apply WK.s | (refine hQ.h _ _ ?_; clear hQ hA) | (refine WK.rH Tryz.ntmps192 (by kernel_rfl) ?_; intro A hA Q hQ; simp [*]) | (refine RunQ.k rfl rfl rfl rfl rfl ?_ (hco) ?_ ?_ <;> simp (maxDischargeDepth := 120) [*] <;> refine ⟨?_⟩) | (refine WK.t Tryz.func192 ?_ ?_ <;> simp (maxDischargeDepth := 120) [Tryz.results192, *]))
theorem ilaid_c (k : Int) (b : List (BitVec 8)) (hb : b.length ≤ 1000000) (h8 : 8 ≤ b.length) : FnP Tryz.prog 166 [.int .i64 k, byS b] (.bool (inLaid k b)) := by
 have p5 := iempty_c (b.drop 5) (by rw [List.length_drop]; omega)
 have p4 := iempty_c (b.drop 4) (by rw [List.length_drop]; omega)
 have p44 := iempty_c ((b.drop 4).take 4) (by rw [List.length_take, List.length_drop]; omega)
 have s5 : ((byL b).drop 5).take (b.length - 5) = byL (b.drop 5) := by rw [byL_drop]; exact by_full _ _ (by rw [List.length_drop])
 have s4 : ((byL b).drop 4).take (b.length - 4) = byL (b.drop 4) := by rw [byL_drop]; exact by_full _ _ (by rw [List.length_drop])
 have s44 : ((byL b).drop 4).take 4 = byL ((b.drop 4).take 4) := by rw [byL_drop, byL_take]
 have l44 : ((b.drop 4).take 4).length = 4 := by rw [List.length_take, List.length_drop]; omega
 have u5 : (5 : Int) ≤ b.length := by omega
 have u4 : (4 : Int) ≤ b.length := by omega
 have u8 : (8 : Int) ≤ b.length := by omega
 have z8 : ((b.length : Int) == 8) = (b.length == 8) := by rw [Bool.eq_iff_iff, beq_iff_eq, beq_iff_eq]; omega
 have z24 : ((b.length : Int) == 24) = (b.length == 24) := by rw [Bool.eq_iff_iff, beq_iff_eq, beq_iff_eq]; omega
 obtain ⟨q8, hq8⟩ : ∃ q, (b.length == 8) = q := ⟨_, rfl⟩
 obtain ⟨q24, hq24⟩ : ∃ q, (b.length == 24) = q := ⟨_, rfl⟩
 have hdef : inLaid k b = if k = 1 then q8 && allZ (b.drop 5) else if k = 2 then q24 && allZ ((b.drop 4).take 4) else if k = 5 then q8 && allZ (b.drop 4) else allZ ((b.drop 4).take 4) := by
   unfold inLaid; rw [hq8, hq24]
 rw [hq8] at z8
 rw [hq24] at z24
 simp only [byS, List.length_drop, l44] at p5 p4 p44 ⊢
 obtain ⟨a5, ha5⟩ : ∃ q, allZ (b.drop 5) = q := ⟨_, rfl⟩
 obtain ⟨a4, ha4⟩ : ∃ q, allZ (b.drop 4) = q := ⟨_, rfl⟩
 obtain ⟨a44, ha44⟩ : ∃ q, allZ ((b.drop 4).take 4) = q := ⟨_, rfl⟩
 rw [ha5] at p5 hdef
 rw [ha4] at p4 hdef
 rw [ha44] at p44 hdef
 obtain ⟨B5, hB5⟩ : ∃ q, b.drop 5 = q := ⟨_, rfl⟩
 obtain ⟨B44, hB44⟩ : ∃ q, (b.drop 4).take 4 = q := ⟨_, rfl⟩
 rw [hB44] at p44 s44
 obtain ⟨B4, hB4⟩ : ∃ q, b.drop 4 = q := ⟨_, rfl⟩
 rw [hB5] at p5 s5
 rw [hB4] at p4 s4
 rw [hdef]
 clear ha5 ha4 ha44 hdef l44 hq8 hq24 hB5 hB4 hB44
 refine FnP.i Tryz.func166 rfl rfl fun G w => ?_
 by_cases k1 : k = 1
 · subst k1
   repeat' (first | apply WK.s | apply WK.b | refine WK.cT rfl ?_ | (refine hQ.h _ _ ?_; clear hQ hA) | (refine Fork.mk (fun h => ?_) (fun h => ?_) <;> (first | (simp [*] at h; done) | (have h2 := h; simp at h2; exfalso; omega) | (have h2 := h; simp at h2; try simp only [Bool.not_eq_true', Bool.not_eq_false'] at h) | skip)) | (refine WK.rH Tryz.ntmps166 (by kernel_rfl) ?_; intro A hA Q hQ; simp [*]) | (refine RunQ.g rfl (by rw [hA.h]; rfl) ?_; simp [*]) | (refine RunQW.k rfl rfl rfl rfl ?_ (p5) ?_ ?_ <;> simp (maxDischargeDepth := 120) [*] <;> refine ⟨?_⟩) | (refine WK.t Tryz.func166 ?_ ?_ <;> simp (maxDischargeDepth := 120) [Tryz.results166, *]))
 have j1 : (k == 1) = false := by simpa using k1
 by_cases k2 : k = 2
 · subst k2
   repeat' (first | apply WK.s | apply WK.b | refine WK.cT rfl ?_ | refine WK.cF rfl ?_ | (refine hQ.h _ _ ?_; clear hQ hA) | (refine Fork.mk (fun h => ?_) (fun h => ?_) <;> (first | (simp [*] at h; done) | (have h2 := h; simp at h2; exfalso; omega) | (have h2 := h; simp at h2; try simp only [Bool.not_eq_true', Bool.not_eq_false'] at h) | skip)) | (refine WK.rH Tryz.ntmps166 (by kernel_rfl) ?_; intro A hA Q hQ; simp [*]) | (refine RunQ.g rfl (by rw [hA.h]; rfl) ?_; simp [*]) | (refine RunQW.k rfl rfl rfl rfl ?_ (p44) ?_ ?_ <;> simp (maxDischargeDepth := 120) [*] <;> refine ⟨?_⟩) | (refine WK.t Tryz.func166 ?_ ?_ <;> simp (maxDischargeDepth := 120) [Tryz.results166, *]))
 have j2 : (k == 2) = false := by simpa using k2
 by_cases k5 : k = 5
 · subst k5
   repeat' (first | apply WK.s | apply WK.b | refine WK.cT rfl ?_ | refine WK.cF rfl ?_ | (refine hQ.h _ _ ?_; clear hQ hA) | (refine Fork.mk (fun h => ?_) (fun h => ?_) <;> (first | (simp [*] at h; done) | (have h2 := h; simp at h2; exfalso; omega) | (have h2 := h; simp at h2; try simp only [Bool.not_eq_true', Bool.not_eq_false'] at h) | skip)) | (refine WK.rH Tryz.ntmps166 (by kernel_rfl) ?_; intro A hA Q hQ; simp [*]) | (refine RunQ.g rfl (by rw [hA.h]; rfl) ?_; simp [*]) | (refine RunQW.k rfl rfl rfl rfl ?_ (p4) ?_ ?_ <;> simp (maxDischargeDepth := 120) [*] <;> refine ⟨?_⟩) | (refine WK.t Tryz.func166 ?_ ?_ <;> simp (maxDischargeDepth := 120) [Tryz.results166, *]))
 have j5 : (k == 5) = false := by simpa using k5
 repeat' (first | apply WK.s | apply WK.b | apply WK.n | apply WK.k | refine WK.cF rfl ?_ | (refine hQ.h _ _ ?_; clear hQ hA) | (refine WK.rH Tryz.ntmps166 (by kernel_rfl) ?_; intro A hA Q hQ; simp [*]) | (refine RunQ.k rfl rfl rfl rfl rfl ?_ (p44) ?_ ?_ <;> simp (maxDischargeDepth := 120) [*] <;> refine ⟨?_⟩) | (refine WK.t Tryz.func166 ?_ ?_ <;> simp (maxDischargeDepth := 120) [Tryz.results166, *]))
set_option maxHeartbeats 4000000 in
theorem icut_c (b : List (BitVec 8)) (hb : b.length ≤ 1000000) : FnP Tryz.prog 135 [byS b] (.tup [.int .i64 (inCut b).1, byS (b.take (inCut b).2.1), .agg (gF (inCut b).2.2)]) := by
 have b7 := ibad_c 7
 have b1 := ibad_c 1
 have b0 := ibad_c 0
 have g0 := nget_c b 0 2 Sz2 (by omega) (by omega)
 have g1 := nget_c b 2 2 Sz2 (by omega) (by omega)
 by_cases c0 : b.length < 8
 · have e : inCut b = (0, 0, some (3, 7)) := by unfold inCut; rw [if_pos c0]
   have c0' : (b.length : Int) < 8 := by omega
   obtain ⟨q0, hq0⟩ : ∃ q, getN b 0 2 = q := ⟨_, rfl⟩
   obtain ⟨q1, hq1⟩ : ∃ q, getN b 2 2 = q := ⟨_, rfl⟩
   rw [hq0] at g0
   rw [hq1] at g1
   rw [e]
   simp only [byS, List.take_zero, List.length_nil, b0_] at *
   clear b1 b0 hq0 hq1
   refine FnP.i Tryz.func135 rfl rfl fun G w => ?_
   repeat' (first | apply WK.s | apply WK.b | refine WK.cT rfl ?_ | (refine hQ.h _ _ ?_; clear hQ hA) | (refine WK.rH Tryz.ntmps135 (by kernel_rfl) ?_; intro A hA Q hQ; simp [gF, *]) | (refine RunQ.g rfl (by rw [hA.h]; rfl) ?_; simp [gF, *]) | (refine RunQ.k rfl rfl rfl rfl rfl ?_ (g0) ?_ ?_ <;> simp (maxDischargeDepth := 120) [gF, *] <;> refine ⟨?_⟩) | (refine RunQ.k rfl rfl rfl rfl rfl ?_ (g1) ?_ ?_ <;> simp (maxDischargeDepth := 120) [gF, *] <;> refine ⟨?_⟩) | (refine RunQ.k rfl rfl rfl rfl rfl ?_ (b7) ?_ ?_ <;> simp (maxDischargeDepth := 120) [gF, *] <;> refine ⟨?_⟩) | (refine WK.t Tryz.func135 ?_ ?_ <;> simp (maxDischargeDepth := 120) [Tryz.results135, gF, *]))
 have c0' : ¬ (b.length : Int) < 8 := by omega
 have hlt : valN ((b.drop 2).take 2) < 65536 := valN_lt 2 _ (by simp; omega)
 have hlk : valN ((b.drop 0).take 2) < 65536 := valN_lt 2 _ (by simp; omega)
 have hdef : inCut b = if valN ((b.drop 2).take 2) < 8 ∨ ¬ valN ((b.drop 2).take 2) % 8 = 0 ∨ b.length < valN ((b.drop 2).take 2) then (0, 0, some (3, 7))
   else if valN ((b.drop 0).take 2) = 6 then (0, 0, some (3, 1))
   else if valN ((b.drop 0).take 2) < 1 ∨ 5 < valN ((b.drop 0).take 2) then (0, 0, some (3, 0))
   else if inLaid (valN ((b.drop 0).take 2)) (b.take (valN ((b.drop 2).take 2))) = false then (0, 0, some (3, 7))
   else ((valN ((b.drop 0).take 2) : Int), valN ((b.drop 2).take 2), none) := by unfold inCut; rw [if_neg c0]
 rw [getN_val (by omega)] at g0 g1
 obtain ⟨n, hn⟩ : ∃ n, valN ((b.drop 2).take 2) = n := ⟨_, rfl⟩
 obtain ⟨k, hk⟩ : ∃ k, valN ((b.drop 0).take 2) = k := ⟨_, rfl⟩
 rw [hn] at g1 hdef hlt
 rw [hk] at g0 hdef hlk
 clear hn hk
 have m7 := bAnd7 n hlt
 have z7 : (((n % 8 : Nat) : Int) == 0) = (n % 8 == 0) := by rw [Bool.eq_iff_iff, beq_iff_eq, beq_iff_eq]; omega
 by_cases c1 : n < 8
 · have e : inCut b = (0, 0, some (3, 7)) := by rw [hdef, if_pos (.inl (by omega))]
   have d1 : (n : Int) < 8 := by omega
   rw [e]
   simp only [byS, List.take_zero, List.length_nil, b0_] at *
   clear hdef b1 b0
   refine FnP.i Tryz.func135 rfl rfl fun G w => ?_
   repeat' (first | apply WK.s | apply WK.b | refine WK.cT rfl ?_ | (refine hQ.h _ _ ?_; clear hQ hA) | (refine WK.rH Tryz.ntmps135 (by kernel_rfl) ?_; intro A hA Q hQ; simp [gF, *]) | (refine RunQ.g rfl (by rw [hA.h]; rfl) ?_; simp [gF, *]) | (refine RunQ.k rfl rfl rfl rfl rfl ?_ (g0) ?_ ?_ <;> simp (maxDischargeDepth := 120) [gF, *] <;> refine ⟨?_⟩) | (refine RunQ.k rfl rfl rfl rfl rfl ?_ (g1) ?_ ?_ <;> simp (maxDischargeDepth := 120) [gF, *] <;> refine ⟨?_⟩) | (refine RunQ.k rfl rfl rfl rfl rfl ?_ (b7) ?_ ?_ <;> simp (maxDischargeDepth := 120) [gF, *] <;> refine ⟨?_⟩) | (refine WK.t Tryz.func135 ?_ ?_ <;> simp (maxDischargeDepth := 120) [Tryz.results135, gF, *]))
 have d1 : ¬ (n : Int) < 8 := by omega
 by_cases c2 : n % 8 = 0
 case neg =>
   have e : inCut b = (0, 0, some (3, 7)) := by rw [hdef, if_pos (.inr (.inl (by omega)))]
   have d2 : (n % 8 == 0) = false := by simpa using c2
   rw [d2] at z7
   rw [e]
   simp only [byS, List.take_zero, List.length_nil, b0_] at *
   obtain ⟨r, hr⟩ : ∃ r, n % 8 = r := ⟨_, rfl⟩
   rw [hr] at m7 z7
   clear hdef hr c2 d2 b1 b0
   refine FnP.i Tryz.func135 rfl rfl fun G w => ?_
   repeat' (first | apply WK.s | apply WK.b | refine WK.cT rfl ?_ | (refine hQ.h _ _ ?_; clear hQ hA) | (refine WK.rH Tryz.ntmps135 (by kernel_rfl) ?_; intro A hA Q hQ; simp [gF, bne, *]) | (refine RunQ.g rfl (by rw [hA.h]; rfl) ?_; simp [gF, bne, *]) | (refine RunQ.k rfl rfl rfl rfl rfl ?_ (g0) ?_ ?_ <;> simp (maxDischargeDepth := 120) [gF, bne, *] <;> refine ⟨?_⟩) | (refine RunQ.k rfl rfl rfl rfl rfl ?_ (g1) ?_ ?_ <;> simp (maxDischargeDepth := 120) [gF, bne, *] <;> refine ⟨?_⟩) | (refine RunQ.k rfl rfl rfl rfl rfl ?_ (b7) ?_ ?_ <;> simp (maxDischargeDepth := 120) [gF, bne, *] <;> refine ⟨?_⟩) | (refine WK.t Tryz.func135 ?_ ?_ <;> simp (maxDischargeDepth := 120) [Tryz.results135, gF, bne, *]))
 have d2 : (n % 8 == 0) = true := by simpa using c2
 rw [d2] at z7
 by_cases c3 : b.length < n
 · have e : inCut b = (0, 0, some (3, 7)) := by rw [hdef, if_pos (.inr (.inr (by omega)))]
   have d3 : (b.length : Int) < n := by omega
   rw [e]
   simp only [byS, List.take_zero, List.length_nil, b0_] at *
   obtain ⟨r, hr⟩ : ∃ r, n % 8 = r := ⟨_, rfl⟩
   rw [hr] at m7 z7
   clear hdef hr c2 d2 b1 b0
   refine FnP.i Tryz.func135 rfl rfl fun G w => ?_
   repeat' (first | apply WK.s | apply WK.b | refine WK.cT rfl ?_ | (refine hQ.h _ _ ?_; clear hQ hA) | (refine WK.rH Tryz.ntmps135 (by kernel_rfl) ?_; intro A hA Q hQ; simp [gF, bne, *]) | (refine RunQ.g rfl (by rw [hA.h]; rfl) ?_; simp [gF, bne, *]) | (refine RunQ.k rfl rfl rfl rfl rfl ?_ (g0) ?_ ?_ <;> simp (maxDischargeDepth := 120) [gF, bne, *] <;> refine ⟨?_⟩) | (refine RunQ.k rfl rfl rfl rfl rfl ?_ (g1) ?_ ?_ <;> simp (maxDischargeDepth := 120) [gF, bne, *] <;> refine ⟨?_⟩) | (refine RunQ.k rfl rfl rfl rfl rfl ?_ (b7) ?_ ?_ <;> simp (maxDischargeDepth := 120) [gF, bne, *] <;> refine ⟨?_⟩) | (refine WK.t Tryz.func135 ?_ ?_ <;> simp (maxDischargeDepth := 120) [Tryz.results135, gF, bne, *]))
 have d3 : ¬ (b.length : Int) < n := by omega
 rw [if_neg (by rintro (h | h | h); omega; exact h c2; omega)] at hdef
 obtain ⟨r, hr⟩ : ∃ r, n % 8 = r := ⟨_, rfl⟩
 rw [hr] at m7 z7
 clear hr c2 d2
 by_cases k6 : k = 6
 · subst k6
   rw [if_pos rfl] at hdef
   rw [hdef]
   simp only [byS, List.take_zero, List.length_nil, b0_] at *
   clear hdef b0 b7
   refine FnP.i Tryz.func135 rfl rfl fun G w => ?_
   repeat' (first | apply WK.s | apply WK.b | refine WK.cT rfl ?_ | refine WK.cF rfl ?_ | (refine hQ.h _ _ ?_; clear hQ hA) | (refine WK.rH Tryz.ntmps135 (by kernel_rfl) ?_; intro A hA Q hQ; simp [gF, bne, *]) | (refine RunQ.g rfl (by rw [hA.h]; rfl) ?_; simp [gF, bne, *]) | (refine RunQ.k rfl rfl rfl rfl rfl ?_ (g0) ?_ ?_ <;> simp (maxDischargeDepth := 120) [gF, bne, *] <;> refine ⟨?_⟩) | (refine RunQ.k rfl rfl rfl rfl rfl ?_ (g1) ?_ ?_ <;> simp (maxDischargeDepth := 120) [gF, bne, *] <;> refine ⟨?_⟩) | (refine RunQ.k rfl rfl rfl rfl rfl ?_ (b1) ?_ ?_ <;> simp (maxDischargeDepth := 120) [gF, bne, *] <;> refine ⟨?_⟩) | (refine WK.t Tryz.func135 ?_ ?_ <;> simp (maxDischargeDepth := 120) [Tryz.results135, gF, bne, *]))
 have j6 : ((k : Int) == 6) = false := by rw [beq_eq_false_iff_ne]; omega
 rw [if_neg k6] at hdef
 by_cases k0 : k < 1
 · rw [if_pos (.inl k0)] at hdef
   have j0 : (k : Int) < 1 := by omega
   rw [hdef]
   simp only [byS, List.take_zero, List.length_nil, b0_] at *
   clear hdef b1 b7 k6
   refine FnP.i Tryz.func135 rfl rfl fun G w => ?_
   repeat' (first | apply WK.s | apply WK.b | refine WK.cT rfl ?_ | refine WK.cF rfl ?_ | (refine hQ.h _ _ ?_; clear hQ hA) | (refine WK.rH Tryz.ntmps135 (by kernel_rfl) ?_; intro A hA Q hQ; simp [gF, bne, *]) | (refine RunQ.g rfl (by rw [hA.h]; rfl) ?_; simp [gF, bne, *]) | (refine RunQ.k rfl rfl rfl rfl rfl ?_ (g0) ?_ ?_ <;> simp (maxDischargeDepth := 120) [gF, bne, *] <;> refine ⟨?_⟩) | (refine RunQ.k rfl rfl rfl rfl rfl ?_ (g1) ?_ ?_ <;> simp (maxDischargeDepth := 120) [gF, bne, *] <;> refine ⟨?_⟩) | (refine RunQ.k rfl rfl rfl rfl rfl ?_ (b0) ?_ ?_ <;> simp (maxDischargeDepth := 120) [gF, bne, *] <;> refine ⟨?_⟩) | (refine WK.t Tryz.func135 ?_ ?_ <;> simp (maxDischargeDepth := 120) [Tryz.results135, gF, bne, *]))
 have j0 : ¬ (k : Int) < 1 := by omega
 by_cases k5 : 5 < k
 · rw [if_pos (.inr k5)] at hdef
   have j5 : (5 : Int) < k := by omega
   rw [hdef]
   simp only [byS, List.take_zero, List.length_nil, b0_] at *
   clear hdef b1 b7 k6
   refine FnP.i Tryz.func135 rfl rfl fun G w => ?_
   repeat' (first | apply WK.s | apply WK.b | refine WK.cT rfl ?_ | refine WK.cF rfl ?_ | (refine hQ.h _ _ ?_; clear hQ hA) | (refine WK.rH Tryz.ntmps135 (by kernel_rfl) ?_; intro A hA Q hQ; simp [gF, bne, *]) | (refine RunQ.g rfl (by rw [hA.h]; rfl) ?_; simp [gF, bne, *]) | (refine RunQ.k rfl rfl rfl rfl rfl ?_ (g0) ?_ ?_ <;> simp (maxDischargeDepth := 120) [gF, bne, *] <;> refine ⟨?_⟩) | (refine RunQ.k rfl rfl rfl rfl rfl ?_ (g1) ?_ ?_ <;> simp (maxDischargeDepth := 120) [gF, bne, *] <;> refine ⟨?_⟩) | (refine RunQ.k rfl rfl rfl rfl rfl ?_ (b0) ?_ ?_ <;> simp (maxDischargeDepth := 120) [gF, bne, *] <;> refine ⟨?_⟩) | (refine WK.t Tryz.func135 ?_ ?_ <;> simp (maxDischargeDepth := 120) [Tryz.results135, gF, bne, *]))
 have j5 : ¬ (5 : Int) < k := by omega
 rw [if_neg (by omega)] at hdef
 have hl := ilaid_c k (b.take n) (by rw [List.length_take]; omega) (by rw [List.length_take]; omega)
 have hs : (byL b).take n = byL (b.take n) := byL_take _ _
 have hsl : (b.take n).length = n := by rw [List.length_take]; omega
 obtain ⟨q, hq⟩ : ∃ q, inLaid k (b.take n) = q := ⟨_, rfl⟩
 rw [hq] at hl hdef
 have d4 : (n : Int) ≤ b.length := by omega
 cases q
 · rw [if_pos rfl] at hdef
   rw [hdef]
   simp only [byS, List.take_zero, List.length_nil, b0_, hsl] at *
   clear hdef b1 b0 k6 hq k0 k5
   refine FnP.i Tryz.func135 rfl rfl fun G w => ?_
   repeat' (first | apply WK.s | apply WK.b | refine WK.cT rfl ?_ | refine WK.cF rfl ?_ | (refine hQ.h _ _ ?_; clear hQ hA) | (refine WK.rH Tryz.ntmps135 (by kernel_rfl) ?_; intro A hA Q hQ; simp [gF, bne, *]) | (refine RunQ.g rfl (by rw [hA.h]; rfl) ?_; simp [gF, bne, *]) | (refine RunQ.k rfl rfl rfl rfl rfl ?_ (g0) ?_ ?_ <;> simp (maxDischargeDepth := 120) [gF, bne, *] <;> refine ⟨?_⟩) | (refine RunQ.k rfl rfl rfl rfl rfl ?_ (g1) ?_ ?_ <;> simp (maxDischargeDepth := 120) [gF, bne, *] <;> refine ⟨?_⟩) | (refine RunQ.k rfl rfl rfl rfl rfl ?_ (hl) ?_ ?_ <;> simp (maxDischargeDepth := 120) [gF, bne, *] <;> refine ⟨?_⟩) | (refine RunQ.k rfl rfl rfl rfl rfl ?_ (b7) ?_ ?_ <;> simp (maxDischargeDepth := 120) [gF, bne, *] <;> refine ⟨?_⟩) | (refine WK.t Tryz.func135 ?_ ?_ <;> simp (maxDischargeDepth := 120) [Tryz.results135, gF, bne, *]))
 · rw [if_neg (by simp)] at hdef
   rw [hdef]
   simp only [byS, hsl] at *
   clear hdef b1 b0 k6 hq k0 k5 b7
   refine FnP.i Tryz.func135 rfl rfl fun G w => ?_
   repeat' (first | apply WK.s | apply WK.b | apply WK.n | apply WK.k | refine WK.cF rfl ?_ | (refine hQ.h _ _ ?_; clear hQ hA) | (refine WK.rH Tryz.ntmps135 (by kernel_rfl) ?_; intro A hA Q hQ; simp [gF, bne, *]) | (refine WK.rX (by kernel_rfl) Tryz.ntmps135 (by kernel_rfl) ?_; intro A hA Q hQ; simp [gF, bne, *]) | (refine hQ.h _ _ _ (by decide +kernel) ?_; clear hQ hA) | (refine RunQ.g rfl (by rw [hA.h]; rfl) ?_; simp [gF, bne, *]) | (refine RunQ.k rfl rfl rfl rfl rfl ?_ (g0) ?_ ?_ <;> simp (maxDischargeDepth := 120) [gF, bne, *] <;> refine ⟨?_⟩) | (refine RunQ.k rfl rfl rfl rfl rfl ?_ (g1) ?_ ?_ <;> simp (maxDischargeDepth := 120) [gF, bne, *] <;> refine ⟨?_⟩) | (refine RunQ.k rfl rfl rfl rfl rfl ?_ (hl) ?_ ?_ <;> simp (maxDischargeDepth := 120) [gF, bne, *] <;> refine ⟨?_⟩) | (refine WK.t Tryz.func135 ?_ ?_ <;> simp (maxDischargeDepth := 120) [Tryz.results135, gF, bne, *]))

theorem u8_i64 (x : BitVec 8) : IntKind.i64.wrap (bI x) = bI x := by
 have := x.isLt
 unfold bI
 exact wrap_i64 (by omega) (by omega)
set_option maxHeartbeats 4000000 in
theorem ione_c (k : Int) (b : List (BitVec 8)) (hb : b.length ≤ 1000000) (h8 : 8 ≤ b.length) (h2 : k = 2 → 24 ≤ b.length) : FnP Tryz.prog 137 [.int .i64 k, byS b] (.tup [.agg (inOf k b).1.enc, .agg (gF (inOf k b).2)]) := by
 have b2 := ibad_c 2
 have b4 := ibad_c 4
 by_cases k1 : k = 1
 · subst k1
   have x4 := by_get b 4 (by omega)
   have w4 := u8_i64 (nth b 4)
   have u4 : (4 : Int) < b.length := by omega
   have v4 : 4 < b.length := by omega
   have e : inOf 1 b = (⟨1, (nth b 4).toNat, wideZ, wideZ, []⟩, if (nth b 4).toNat = 255 then some (3, 2) else none) := by unfold inOf; rw [if_pos rfl]
   have eb : bI (nth b 4) = ((nth b 4).toNat : Int) := rfl
   rw [e]
   by_cases h255 : (nth b 4).toNat = 255
   · have j : (bI (nth b 4) == 255) = true := by rw [eb, h255]; rfl
     rw [if_pos h255, ← eb]
     obtain ⟨z, hz⟩ : ∃ z, bI (nth b 4) = z := ⟨_, rfl⟩
     rw [hz] at x4 w4 j ⊢
     unfold byS
     clear hz eb e h255 b4
     refine FnP.i Tryz.func137 rfl rfl fun G w => ?_
     repeat' (first | apply WK.s | apply WK.b | apply WK.n | refine WK.cT rfl ?_ | (refine hQ.h _ _ ?_; clear hQ hA) | (refine WK.rH Tryz.ntmps137 (by kernel_rfl) ?_; intro A hA Q hQ; simp [gF, Inst.enc, wideZ, uZ_, *]) | (refine WK.rX (by kernel_rfl) Tryz.ntmps137 (by kernel_rfl) ?_; intro A hA Q hQ; simp [gF, Inst.enc, wideZ, uZ_, *]) | (refine hQ.h _ _ _ (by decide +kernel) ?_; clear hQ hA) | (refine RunQ.k rfl rfl rfl rfl rfl ?_ (b2) ?_ ?_ <;> simp (maxDischargeDepth := 120) [gF, Inst.enc, wideZ, uZ_, *] <;> refine ⟨?_⟩) | (refine WK.t Tryz.func137 ?_ ?_ <;> simp (maxDischargeDepth := 120) [Tryz.results137, gF, Inst.enc, wideZ, uZ_, *]))
   · have j : (bI (nth b 4) == 255) = false := by rw [eb, beq_eq_false_iff_ne]; omega
     rw [if_neg h255, ← eb]
     obtain ⟨z, hz⟩ : ∃ z, bI (nth b 4) = z := ⟨_, rfl⟩
     rw [hz] at x4 w4 j ⊢
     unfold byS
     clear hz eb e h255 b4
     refine FnP.i Tryz.func137 rfl rfl fun G w => ?_
     repeat' (first | apply WK.s | apply WK.b | apply WK.n | apply WK.k | refine WK.cT rfl ?_ | refine WK.cF rfl ?_ | (refine hQ.h _ _ ?_; clear hQ hA) | (refine WK.rH Tryz.ntmps137 (by kernel_rfl) ?_; intro A hA Q hQ; simp [gF, Inst.enc, wideZ, uZ_, *]) | (refine WK.rX (by kernel_rfl) Tryz.ntmps137 (by kernel_rfl) ?_; intro A hA Q hQ; simp [gF, Inst.enc, wideZ, uZ_, *]) | (refine hQ.h _ _ _ (by decide +kernel) ?_; clear hQ hA) | (refine WK.t Tryz.func137 ?_ ?_ <;> simp (maxDischargeDepth := 120) [Tryz.results137, gF, Inst.enc, wideZ, uZ_, *]))
 have j1 : (k == 1) = false := by simpa using k1
 by_cases k2 : k = 2
 · subst k2
   have hb24 := h2 rfl
   have e : inOf 2 b = (⟨2, 0, (wGet (b.drop 8) 8).1, (wGet (b.drop 16) 8).1, []⟩, if inMeta (wGet (b.drop 8) 8).1 (wGet (b.drop 16) 8).1 = true then none else some (3, 4)) := by unfold inOf; rw [if_neg (by decide), if_pos rfl]
   have g1 := wget_c (b.drop 8) 8 (by omega) (by rw [List.length_drop]; omega)
   have g2 := wget_c (b.drop 16) 8 (by omega) (by rw [List.length_drop]; omega)
   have s8 : ((byL b).drop 8).take (b.length - 8) = byL (b.drop 8) := by rw [byL_drop]; exact by_full _ _ (by rw [List.length_drop])
   have s16 : ((byL b).drop 16).take (b.length - 16) = byL (b.drop 16) := by rw [byL_drop]; exact by_full _ _ (by rw [List.length_drop])
   have u8 : (8 : Int) ≤ b.length := by omega
   have u16 : (16 : Int) ≤ b.length := by omega
   obtain ⟨v, hv⟩ : ∃ v, wGet (b.drop 8) 8 = v := ⟨_, rfl⟩
   obtain ⟨m, hm⟩ : ∃ v, wGet (b.drop 16) 8 = v := ⟨_, rfl⟩
   obtain ⟨B8, h8'⟩ : ∃ v, b.drop 8 = v := ⟨_, rfl⟩
   obtain ⟨B16, h16'⟩ : ∃ v, b.drop 16 = v := ⟨_, rfl⟩
   rw [hv] at g1 e
   rw [hm] at g2 e
   rw [h8'] at g1 s8
   rw [h16'] at g2 s16
   have l8 : B8.length = b.length - 8 := by rw [← h8', List.length_drop]
   have l16 : B16.length = b.length - 16 := by rw [← h16', List.length_drop]
   have hme := imeta_c ⟨2, 0, v.1, m.1, []⟩
   rw [e]
   obtain ⟨v, vb⟩ := v
   obtain ⟨m, mb⟩ := m
   simp only at hme g1 g2 ⊢
   obtain ⟨z, hz⟩ : ∃ z, inMeta v m = z := ⟨_, rfl⟩
   rw [hz] at hme ⊢
   unfold Wide.enc at g1 g2
   unfold byS at *
   rw [l8] at g1
   rw [l16] at g2
   simp only [Inst.enc, List.length_nil, actL_nil] at hme
   clear hz hv hm h8' h16' l8 l16 e
   refine FnP.i Tryz.func137 rfl rfl fun G w => ?_
   cases z
   · repeat' (first | apply WK.s | apply WK.b | apply WK.n | refine WK.cT rfl ?_ | refine WK.cF rfl ?_ | (refine hQ.h _ _ ?_; clear hQ hA) | (refine WK.rH Tryz.ntmps137 (by kernel_rfl) ?_; intro A hA Q hQ; simp [gF, Inst.enc, *]) | (refine WK.rX (by kernel_rfl) Tryz.ntmps137 (by kernel_rfl) ?_; intro A hA Q hQ; simp [gF, Inst.enc, *]) | (refine hQ.h _ _ _ (by decide +kernel) ?_; clear hQ hA) | (refine RunQ.k rfl rfl rfl rfl rfl ?_ (g1) ?_ ?_ <;> simp (maxDischargeDepth := 120) [gF, Inst.enc, *] <;> refine ⟨?_⟩) | (refine RunQ.k rfl rfl rfl rfl rfl ?_ (g2) ?_ ?_ <;> simp (maxDischargeDepth := 120) [gF, Inst.enc, *] <;> refine ⟨?_⟩) | (refine RunQ.k rfl rfl rfl rfl rfl ?_ (hme) ?_ ?_ <;> simp (maxDischargeDepth := 120) [gF, Inst.enc, *] <;> refine ⟨?_⟩) | (refine RunQ.k rfl rfl rfl rfl rfl ?_ (b4) ?_ ?_ <;> simp (maxDischargeDepth := 120) [gF, Inst.enc, *] <;> refine ⟨?_⟩) | (refine WK.t Tryz.func137 ?_ ?_ <;> simp (maxDischargeDepth := 120) [Tryz.results137, gF, Inst.enc, *]))
   · repeat' (first | apply WK.s | apply WK.b | apply WK.n | apply WK.k | refine WK.cT rfl ?_ | refine WK.cF rfl ?_ | (refine hQ.h _ _ ?_; clear hQ hA) | (refine WK.rH Tryz.ntmps137 (by kernel_rfl) ?_; intro A hA Q hQ; simp [gF, Inst.enc, *]) | (refine WK.rX (by kernel_rfl) Tryz.ntmps137 (by kernel_rfl) ?_; intro A hA Q hQ; simp [gF, Inst.enc, *]) | (refine hQ.h _ _ _ (by decide +kernel) ?_; clear hQ hA) | (refine RunQ.k rfl rfl rfl rfl rfl ?_ (g1) ?_ ?_ <;> simp (maxDischargeDepth := 120) [gF, Inst.enc, *] <;> refine ⟨?_⟩) | (refine RunQ.k rfl rfl rfl rfl rfl ?_ (g2) ?_ ?_ <;> simp (maxDischargeDepth := 120) [gF, Inst.enc, *] <;> refine ⟨?_⟩) | (refine RunQ.k rfl rfl rfl rfl rfl ?_ (hme) ?_ ?_ <;> simp (maxDischargeDepth := 120) [gF, Inst.enc, *] <;> refine ⟨?_⟩) | (refine WK.t Tryz.func137 ?_ ?_ <;> simp (maxDischargeDepth := 120) [Tryz.results137, gF, Inst.enc, *]))
 have j2 : (k == 2) = false := by simpa using k2
 have ha := acdecP_c (b.drop 8) (by rw [List.length_drop]; omega)
 have s8 : ((byL b).drop 8).take (b.length - 8) = byL (b.drop 8) := by rw [byL_drop]; exact by_full _ _ (by rw [List.length_drop])
 have u8 : (8 : Int) ≤ b.length := by omega
 have l8 : (b.drop 8).length = b.length - 8 := by rw [List.length_drop]
 have e34 : k = 3 ∨ k = 4 → inOf k b = (⟨k, 0, wideZ, wideZ, (acDec (b.drop 8)).1⟩, (acDec (b.drop 8)).2.map fun c => (2, c)) := fun h => by unfold inOf; rw [if_neg k1, if_neg k2, if_pos h]
 have e5 : ¬ (k = 3 ∨ k = 4) → inOf k b = (⟨k, 0, wideZ, wideZ, []⟩, none) := fun h => by unfold inOf; rw [if_neg k1, if_neg k2, if_neg h]
 obtain ⟨B8, h8'⟩ : ∃ v, b.drop 8 = v := ⟨_, rfl⟩
 obtain ⟨R, hR⟩ : ∃ R, acDec (b.drop 8) = R := ⟨_, rfl⟩
 rw [hR] at ha e34
 rw [h8'] at ha s8 l8
 obtain ⟨l, f⟩ := R
 rw [aFault_g] at ha
 simp only [byS, actS, l8] at ha ⊢
 clear hR h8' l8 b2 b4
 by_cases k3 : k = 3
 · subst k3
   rw [e34 (.inl rfl)]
   clear e34 e5
   refine FnP.i Tryz.func137 rfl rfl fun G w => ?_
   cases f <;>
   · repeat' (first | apply WK.s | apply WK.b | apply WK.n | apply WK.k | refine WK.cT rfl ?_ | refine WK.cF rfl ?_ | (refine hQ.h _ _ ?_; clear hQ hA) | (refine WK.rH Tryz.ntmps137 (by kernel_rfl) ?_; intro A hA Q hQ; simp [gF, Inst.enc, wideZ, uZ_, *]) | (refine WK.rX (by kernel_rfl) Tryz.ntmps137 (by kernel_rfl) ?_; intro A hA Q hQ; simp [gF, Inst.enc, wideZ, uZ_, *]) | (refine hQ.h _ _ _ (by decide +kernel) ?_; clear hQ hA) | (refine RunQ.k rfl rfl rfl rfl rfl ?_ (ha) ?_ ?_ <;> simp (maxDischargeDepth := 120) [gF, Inst.enc, wideZ, uZ_, *] <;> refine ⟨?_⟩) | (refine WK.t Tryz.func137 ?_ ?_ <;> simp (maxDischargeDepth := 120) [Tryz.results137, gF, Inst.enc, wideZ, uZ_, *]))
 have j3 : (k == 3) = false := by simpa using k3
 by_cases k4 : k = 4
 · subst k4
   rw [e34 (.inr rfl)]
   clear e34 e5
   refine FnP.i Tryz.func137 rfl rfl fun G w => ?_
   cases f <;>
   · repeat' (first | apply WK.s | apply WK.b | apply WK.n | refine WK.cT rfl ?_ | refine WK.cF rfl ?_ | (refine hQ.h _ _ ?_; clear hQ hA) | (refine WK.rH Tryz.ntmps137 (by kernel_rfl) ?_; intro A hA Q hQ; simp [gF, Inst.enc, wideZ, uZ_, *]) | (refine WK.rX (by kernel_rfl) Tryz.ntmps137 (by kernel_rfl) ?_; intro A hA Q hQ; simp [gF, Inst.enc, wideZ, uZ_, *]) | (refine hQ.h _ _ _ (by decide +kernel) ?_; clear hQ hA) | (refine RunQ.k rfl rfl rfl rfl rfl ?_ (ha) ?_ ?_ <;> simp (maxDischargeDepth := 120) [gF, Inst.enc, wideZ, uZ_, *] <;> refine ⟨?_⟩) | (refine WK.t Tryz.func137 ?_ ?_ <;> simp (maxDischargeDepth := 120) [Tryz.results137, gF, Inst.enc, wideZ, uZ_, *]))
 have j4 : (k == 4) = false := by simpa using k4
 rw [e5 (by omega)]
 clear e34 e5 ha s8
 refine FnP.i Tryz.func137 rfl rfl fun G w => ?_
 repeat' (first | apply WK.s | apply WK.b | apply WK.n | apply WK.k | refine WK.cF rfl ?_ | (refine hQ.h _ _ ?_; clear hQ hA) | (refine WK.rH Tryz.ntmps137 (by kernel_rfl) ?_; intro A hA Q hQ; simp [gF, Inst.enc, wideZ, uZ_, *]) | (refine WK.rX (by kernel_rfl) Tryz.ntmps137 (by kernel_rfl) ?_; intro A hA Q hQ; simp [gF, Inst.enc, wideZ, uZ_, *]) | (refine hQ.h _ _ _ (by decide +kernel) ?_; clear hQ hA) | (refine WK.t Tryz.func137 ?_ ?_ <;> simp (maxDischargeDepth := 120) [Tryz.results137, gF, Inst.enc, wideZ, uZ_, *]))
set_option maxHeartbeats 4000000 in
theorem iright_c (i : Inst) (hi : i.acts.length ≤ 1000000) : FnP Tryz.prog 239 [.agg i.enc] (.bool (inRight i)) := by
 have p := acencP_c i.acts hi
 have s := isame_c i (inBare i) hi
 have m := imeta_c i
 have e : inRight i = (inOk i && Inst.same i (inBare i)) := rfl
 obtain ⟨z, hz⟩ : ∃ z, Inst.same i (inBare i) = z := ⟨_, rfl⟩
 rw [hz] at s e
 clear hz
 unfold inBare at s
 unfold inOk at e
 obtain ⟨R, hR⟩ : ∃ R, acEnc i.acts = R := ⟨_, rfl⟩
 rw [hR] at p e
 simp only [byS, actS] at p
 clear hR
 obtain ⟨kk, t, v, mm, l⟩ := i
 simp only at hi p s m e
 by_cases k1 : kk = 1
 · subst k1
   rw [if_pos rfl] at s e
   simp only [Inst.enc, wideZ, uZ_, List.length_nil, actL_nil] at s
   refine FnP.i Tryz.func239 rfl rfl fun G w => ?_
   repeat' (first | apply WK.s | apply WK.b | apply WK.n | refine WK.cT rfl ?_ | (refine hQ.h _ _ ?_; clear hQ hA) | (refine Fork.mk (fun h => ?_) (fun h => ?_) <;> (first | (simp [*] at h; done) | (have h2 := h; simp at h2; exfalso; omega) | (have h2 := h; simp at h2; try simp only [Bool.not_eq_true', Bool.not_eq_false'] at h) | skip)) | (refine WK.rH Tryz.ntmps239 (by kernel_rfl) ?_; intro A hA Q hQ; simp [Inst.enc, wideZ, uZ_, *]) | (refine WK.rX (by kernel_rfl) Tryz.ntmps239 (by kernel_rfl) ?_; intro A hA Q hQ; simp [Inst.enc, wideZ, uZ_, *]) | (refine hQ.h _ _ _ (by decide +kernel) ?_; clear hQ hA) | (refine RunQ.g rfl (by rw [hA.h]; rfl) ?_; simp [Inst.enc, wideZ, uZ_, *]) | (refine RunX.gd rfl (by rw [hA.h]; rfl) ?_; simp [Inst.enc, wideZ, uZ_, *]) | (refine RunQ.k rfl rfl rfl rfl rfl ?_ (p) ?_ ?_ <;> simp (maxDischargeDepth := 120) [Inst.enc, wideZ, uZ_, *] <;> refine ⟨?_⟩) | (refine RunQW.k rfl rfl rfl rfl ?_ (s) ?_ ?_ <;> simp (maxDischargeDepth := 120) [Inst.enc, wideZ, uZ_, *] <;> refine ⟨?_⟩) | (refine WK.t Tryz.func239 ?_ ?_ <;> simp (maxDischargeDepth := 120) [Tryz.results239, Inst.enc, wideZ, uZ_, *]))
 have j1 : (kk == 1) = false := by simpa using k1
 by_cases k2 : kk = 2
 · subst k2
   rw [if_neg (by decide), if_pos rfl] at s e
   simp only [Inst.enc, wideZ, uZ_, List.length_nil, actL_nil] at s m
   refine FnP.i Tryz.func239 rfl rfl fun G w => ?_
   repeat' (first | apply WK.s | apply WK.b | apply WK.n | refine WK.cT rfl ?_ | refine WK.cF rfl ?_ | (refine hQ.h _ _ ?_; clear hQ hA) | (refine Fork.mk (fun h => ?_) (fun h => ?_) <;> (first | (simp [*] at h; done) | (have h2 := h; simp at h2; exfalso; omega) | (have h2 := h; simp at h2; try simp only [Bool.not_eq_true', Bool.not_eq_false'] at h) | skip)) | (refine WK.rH Tryz.ntmps239 (by kernel_rfl) ?_; intro A hA Q hQ; simp [Inst.enc, wideZ, uZ_, *]) | (refine WK.rX (by kernel_rfl) Tryz.ntmps239 (by kernel_rfl) ?_; intro A hA Q hQ; simp [Inst.enc, wideZ, uZ_, *]) | (refine hQ.h _ _ _ (by decide +kernel) ?_; clear hQ hA) | (refine RunQ.g rfl (by rw [hA.h]; rfl) ?_; simp [Inst.enc, wideZ, uZ_, *]) | (refine RunQ.k rfl rfl rfl rfl rfl ?_ (p) ?_ ?_ <;> simp (maxDischargeDepth := 120) [Inst.enc, wideZ, uZ_, *] <;> refine ⟨?_⟩) | (refine RunQW.k rfl rfl rfl rfl ?_ (s) ?_ ?_ <;> simp (maxDischargeDepth := 120) [Inst.enc, wideZ, uZ_, *] <;> refine ⟨?_⟩) | (refine RunX.k rfl rfl rfl rfl ?_ (m) ?_ ?_ <;> simp (maxDischargeDepth := 120) [Inst.enc, wideZ, uZ_, *] <;> refine ⟨?_⟩) | (refine WK.t Tryz.func239 ?_ ?_ <;> simp (maxDischargeDepth := 120) [Tryz.results239, Inst.enc, wideZ, uZ_, *]))
 have j2 : (kk == 2) = false := by simpa using k2
 by_cases k3 : kk = 3
 · subst k3
   rw [if_neg (by decide), if_neg (by decide), if_pos (.inl rfl)] at s e
   simp only [Inst.enc, wideZ, uZ_] at s
   refine FnP.i Tryz.func239 rfl rfl fun G w => ?_
   repeat' (first | apply WK.s | apply WK.b | apply WK.n | apply WK.k | refine WK.cT rfl ?_ | refine WK.cF rfl ?_ | (refine hQ.h _ _ ?_; clear hQ hA) | (refine Fork.mk (fun h => ?_) (fun h => ?_) <;> (first | (simp [*] at h; done) | (have h2 := h; simp at h2; exfalso; omega) | (have h2 := h; simp at h2; try simp only [Bool.not_eq_true', Bool.not_eq_false'] at h) | skip)) | (refine WK.rH Tryz.ntmps239 (by kernel_rfl) ?_; intro A hA Q hQ; simp [Inst.enc, wideZ, uZ_, *]) | (refine RunQ.g rfl (by rw [hA.h]; rfl) ?_; simp [Inst.enc, wideZ, uZ_, *]) | (refine RunQ.k rfl rfl rfl rfl rfl ?_ (p) ?_ ?_ <;> simp (maxDischargeDepth := 120) [Inst.enc, wideZ, uZ_, *] <;> refine ⟨?_⟩) | (refine RunQW.k rfl rfl rfl rfl ?_ (s) ?_ ?_ <;> simp (maxDischargeDepth := 120) [Inst.enc, wideZ, uZ_, *] <;> refine ⟨?_⟩) | (refine WK.t Tryz.func239 ?_ ?_ <;> simp (maxDischargeDepth := 120) [Tryz.results239, Inst.enc, wideZ, uZ_, *]))
 have j3 : (kk == 3) = false := by simpa using k3
 by_cases k4 : kk = 4
 · subst k4
   rw [if_neg (by decide), if_neg (by decide), if_pos (.inr rfl)] at s e
   simp only [Inst.enc, wideZ, uZ_] at s
   refine FnP.i Tryz.func239 rfl rfl fun G w => ?_
   repeat' (first | apply WK.s | apply WK.b | apply WK.n | refine WK.cT rfl ?_ | refine WK.cF rfl ?_ | (refine hQ.h _ _ ?_; clear hQ hA) | (refine Fork.mk (fun h => ?_) (fun h => ?_) <;> (first | (simp [*] at h; done) | (have h2 := h; simp at h2; exfalso; omega) | (have h2 := h; simp at h2; try simp only [Bool.not_eq_true', Bool.not_eq_false'] at h) | skip)) | (refine WK.rH Tryz.ntmps239 (by kernel_rfl) ?_; intro A hA Q hQ; simp [Inst.enc, wideZ, uZ_, *]) | (refine RunQ.g rfl (by rw [hA.h]; rfl) ?_; simp [Inst.enc, wideZ, uZ_, *]) | (refine RunQ.k rfl rfl rfl rfl rfl ?_ (p) ?_ ?_ <;> simp (maxDischargeDepth := 120) [Inst.enc, wideZ, uZ_, *] <;> refine ⟨?_⟩) | (refine RunQW.k rfl rfl rfl rfl ?_ (s) ?_ ?_ <;> simp (maxDischargeDepth := 120) [Inst.enc, wideZ, uZ_, *] <;> refine ⟨?_⟩) | (refine WK.t Tryz.func239 ?_ ?_ <;> simp (maxDischargeDepth := 120) [Tryz.results239, Inst.enc, wideZ, uZ_, *]))
 have j4 : (kk == 4) = false := by simpa using k4
 rw [if_neg k1, if_neg k2, if_neg (by omega)] at s e
 by_cases k5 : kk = 5
 · subst k5
   simp only [Inst.enc, wideZ, uZ_, List.length_nil, actL_nil] at s
   refine FnP.i Tryz.func239 rfl rfl fun G w => ?_
   repeat' (first | apply WK.s | apply WK.b | apply WK.n | apply WK.k | refine WK.cT rfl ?_ | refine WK.cF rfl ?_ | (refine hQ.h _ _ ?_; clear hQ hA) | (refine WK.rH Tryz.ntmps239 (by kernel_rfl) ?_; intro A hA Q hQ; simp [Inst.enc, wideZ, uZ_, *]) | (refine RunQ.g rfl (by rw [hA.h]; rfl) ?_; simp [Inst.enc, wideZ, uZ_, *]) | (refine RunQ.k rfl rfl rfl rfl rfl ?_ (p) ?_ ?_ <;> simp (maxDischargeDepth := 120) [Inst.enc, wideZ, uZ_, *] <;> refine ⟨?_⟩) | (refine RunQW.k rfl rfl rfl rfl ?_ (s) ?_ ?_ <;> simp (maxDischargeDepth := 120) [Inst.enc, wideZ, uZ_, *] <;> refine ⟨?_⟩) | (refine WK.t Tryz.func239 ?_ ?_ <;> simp (maxDischargeDepth := 120) [Tryz.results239, Inst.enc, wideZ, uZ_, *]))
 have j5 : (kk == 5) = false := by simpa using k5
 refine FnP.i Tryz.func239 rfl rfl fun G w => ?_
 repeat' (first | apply WK.s | apply WK.b | refine WK.cF rfl ?_ | (refine hQ.h _ _ ?_; clear hQ hA) | (refine WK.rH Tryz.ntmps239 (by kernel_rfl) ?_; intro A hA Q hQ; simp [Inst.enc, wideZ, uZ_, *]) | (refine RunQ.k rfl rfl rfl rfl rfl ?_ (p) ?_ ?_ <;> simp (maxDischargeDepth := 120) [Inst.enc, wideZ, uZ_, *] <;> refine ⟨?_⟩) | (refine WK.t Tryz.func239 ?_ ?_ <;> simp (maxDischargeDepth := 120) [Tryz.results239, Inst.enc, wideZ, uZ_, *]))
def inFind (l : List Inst) (k : Int) : Inst × Bool := match l.find? (fun i => i.kind == k) with | some i => (i, true) | none => (inst0, false)

theorem z4L : byL (List.replicate 4 0#8) = [.int .u8 0, .int .u8 0, .int .u8 0, .int .u8 0] := rfl
set_option maxHeartbeats 4000000 in
theorem ibody_c (i : Inst) (hi : i.acts.length ≤ 1000000) : FnO Tryz.prog 240 [.agg i.enc] (inBody i).length 1 (byL (inBody i)) := by
 obtain ⟨kk, t, v, m, l⟩ := i
 by_cases k1 : kk = 1
 · subst k1
   have e : inBody ⟨1, t, v, m, l⟩ = BitVec.ofInt 8 t :: List.replicate 3 0#8 := by unfold inBody; rw [if_pos rfl]
   have w := wrap_u8 t
   have e2 : byL (BitVec.ofInt 8 t :: List.replicate 3 0#8) = [.int .u8 (bI (BitVec.ofInt 8 t)), .int .u8 0, .int .u8 0, .int .u8 0] := rfl
   have hl : (BitVec.ofInt 8 t :: List.replicate 3 0#8).length = 4 := rfl
   rw [e]
   obtain ⟨K, hK⟩ : ∃ K, BitVec.ofInt 8 t :: List.replicate 3 0#8 = K := ⟨_, rfl⟩
   rw [hK] at e2 hl ⊢
   rw [hl]
   clear hK e
   refine FnO.intro Tryz.func240 rfl rfl fun G w => ?_
   repeat' (first | apply WK.s | apply WK.b | apply WK.n | refine WK.cT rfl ?_ | (refine hQ.h _ _ ?_; clear hQ hA) | (refine WK.rH Tryz.ntmps240 (by kernel_rfl) ?_; intro A hA Q hQ; simp [Inst.enc, *]) | (refine RunQ.make (n := 4) (c := 24) (k := .i64) (k' := .i64) 900 appByte rfl rfl rfl ?_ ?_ (by omega) (by omega) ?_ ?_; (focus (simp (maxDischargeDepth := 120) [Inst.enc, *]; done)); (focus (simp (maxDischargeDepth := 120) [Inst.enc, *]; done)); (focus (simp [Inst.enc, *]; done)); refine RunQ.e ?_; simp [Inst.enc, *]) | (refine WK.retO Tryz.func240 rfl rfl ?_ ?_ <;> simp (maxDischargeDepth := 120) [Inst.enc, e2, *]))
 have j1 : (kk == 1) = false := by simpa using k1
 by_cases k2 : kk = 2
 · subst k2
   have e : inBody ⟨2, t, v, m, l⟩ = List.replicate 4 0#8 ++ (beN (wN v) 8 ++ beN (wN m) 8) := by unfold inBody; simp only; rw [if_neg (by decide), if_pos (by decide)]
   have c1 := wput_c (List.replicate 4 0#8) v 8 (by omega) (by simp)
   rw [wPut_beN _ _ _ (by omega)] at c1
   have c2 := wput_c (List.replicate 4 0#8 ++ beN (wN v) 8) m 8 (by omega) (by simp [beN_len])
   rw [wPut_beN _ _ _ (by omega), List.append_assoc] at c2
   have hl : (List.replicate 4 0#8 ++ beN (wN v) 8).length = 12 := by simp [beN_len]
   have hz : (List.replicate 4 0#8).length = 4 := rfl
   rw [e]
   obtain ⟨F, hF⟩ : ∃ F, List.replicate 4 0#8 ++ beN (wN v) 8 = F := ⟨_, rfl⟩
   obtain ⟨K, hK⟩ : ∃ K, List.replicate 4 0#8 ++ (beN (wN v) 8 ++ beN (wN m) 8) = K := ⟨_, rfl⟩
   rw [hF] at c1 c2 hl
   rw [hK] at c2 ⊢
   have hfu : (byL F).take 12 = byL F := by_full _ _ hl.symm
   unfold byS at c1 c2
   rw [hl] at c1 c2
   rw [hz, z4L] at c1
   clear hF hK e
   unfold Wide.enc at c1 c2
   refine FnO.intro Tryz.func240 rfl rfl fun G w => ?_
   repeat' (first | apply WK.s | apply WK.b | refine WK.cT rfl ?_ | refine WK.cF rfl ?_ | (refine hQ.h _ _ ?_; clear hQ hA) | (refine WK.rH Tryz.ntmps240 (by kernel_rfl) ?_; intro A hA Q hQ; simp [Inst.enc, *]) | (refine WK.rX (by kernel_rfl) Tryz.ntmps240 (by kernel_rfl) ?_; intro A hA Q hQ; simp [Inst.enc, *]) | (refine hQ.h _ _ _ (by decide +kernel) ?_; clear hQ hA) | (refine RunQ.make (n := 4) (c := 24) (k := .i64) (k' := .i64) 900 appByte rfl rfl rfl ?_ ?_ (by omega) (by omega) ?_ ?_; (focus (simp (maxDischargeDepth := 120) [Inst.enc, *]; done)); (focus (simp (maxDischargeDepth := 120) [Inst.enc, *]; done)); (focus (simp [Inst.enc, *]; done)); refine RunQ.e ?_; simp [Inst.enc, *]) | (refine RunX.callOz 901 18 1 rfl rfl rfl rfl rfl rfl ?_ (c1) ?_ ?_ (by simp) (by decide) ?_; (focus (simp (maxDischargeDepth := 120) [Inst.enc, *]; done)); (focus (simp [Inst.enc, *]; done)); (focus (simp [Inst.enc, *]; done)); refine RunX.e ?_; simp [Inst.enc, *]) | (refine RunX.callOz 902 21 1 rfl rfl rfl rfl rfl rfl ?_ (c2) ?_ ?_ (by simp) (by decide) ?_; (focus (simp (maxDischargeDepth := 120) [Inst.enc, *]; done)); (focus (simp [Inst.enc, *]; done)); (focus (simp [Inst.enc, *]; done)); refine RunX.e ?_; simp [Inst.enc, *]) | (refine WK.retO Tryz.func240 rfl rfl ?_ ?_ <;> simp (maxDischargeDepth := 120) [Inst.enc, *]))
 have j2 : (kk == 2) = false := by simpa using k2
 by_cases k34 : kk = 3 ∨ kk = 4
 · have e : inBody ⟨kk, t, v, m, l⟩ = List.replicate 4 0#8 ++ (acEnc l).1 := by unfold inBody; rw [if_neg k1, if_neg k2, if_pos k34]
   have p := acencP_c l hi
   have hEl := acEnc_len l
   rw [e]
   obtain ⟨R, hR⟩ : ∃ R, acEnc l = R := ⟨_, rfl⟩
   rw [hR] at p hEl ⊢
   obtain ⟨E, c⟩ := R
   simp only at p hEl ⊢
   have hKl : (List.replicate 4 0#8 ++ E).length = 4 + E.length := by rw [List.length_append, List.length_replicate]
   have hKb : byL (List.replicate 4 0#8 ++ E) = .int .u8 0 :: .int .u8 0 :: .int .u8 0 :: .int .u8 0 :: byL E := by rw [byL_app, z4L]; rfl
   obtain ⟨K, hK⟩ : ∃ K, List.replicate 4 0#8 ++ E = K := ⟨_, rfl⟩
   rw [hK] at hKl hKb ⊢
   rw [hKl]
   have hfu := by_full E E.length rfl
   have hbd : 4 + E.length ≤ 140737488355328 := by omega
   simp only [byS, actS] at p
   clear hR e hEl hK
   rcases k34 with rfl | rfl
   · refine FnO.intro Tryz.func240 rfl rfl fun G w => ?_
     repeat' (first | apply WK.s | apply WK.b | apply WK.k | refine WK.cT rfl ?_ | refine WK.cF rfl ?_ | (refine hQ.h _ _ ?_; clear hQ hA) | (refine WK.rH Tryz.ntmps240 (by kernel_rfl) ?_; intro A hA Q hQ; simp [Inst.enc, *]) | (refine RunQ.make (n := 4) (c := 24) (k := .i64) (k' := .i64) 900 appByte rfl rfl rfl ?_ ?_ (by omega) (by omega) ?_ ?_; (focus (simp (maxDischargeDepth := 120) [Inst.enc, *]; done)); (focus (simp (maxDischargeDepth := 120) [Inst.enc, *]; done)); (focus (simp [Inst.enc, *]; done)); refine RunQ.e ?_; simp [Inst.enc, *]) | (refine RunQ.append 901 appByte rfl rfl rfl rfl rfl rfl rfl rfl rfl ?_ ?_ ?_ ?_ ?_; (focus (first | omega | (simp [Inst.enc, *]; done); done)); (focus (first | omega | (simp [Inst.enc, *]; done); done)); (focus (first | omega | (simp [Inst.enc, *]; done); done)); (focus (first | omega | (simp [Inst.enc, *]; done); done)); refine RunQ.e ?_; simp [Inst.enc, *]) | (refine RunQ.k rfl rfl rfl rfl rfl ?_ (p) ?_ ?_ <;> simp (maxDischargeDepth := 120) [Inst.enc, *] <;> refine ⟨?_⟩) | (refine WK.retO Tryz.func240 rfl rfl ?_ ?_ <;> simp (maxDischargeDepth := 120) [Inst.enc, *]))
   · refine FnO.intro Tryz.func240 rfl rfl fun G w => ?_
     repeat' (first | apply WK.s | apply WK.b | refine WK.cT rfl ?_ | refine WK.cF rfl ?_ | (refine hQ.h _ _ ?_; clear hQ hA) | (refine WK.rH Tryz.ntmps240 (by kernel_rfl) ?_; intro A hA Q hQ; simp [Inst.enc, *]) | (refine RunQ.make (n := 4) (c := 24) (k := .i64) (k' := .i64) 900 appByte rfl rfl rfl ?_ ?_ (by omega) (by omega) ?_ ?_; (focus (simp (maxDischargeDepth := 120) [Inst.enc, *]; done)); (focus (simp (maxDischargeDepth := 120) [Inst.enc, *]; done)); (focus (simp [Inst.enc, *]; done)); refine RunQ.e ?_; simp [Inst.enc, *]) | (refine RunQ.append 901 appByte rfl rfl rfl rfl rfl rfl rfl rfl rfl ?_ ?_ ?_ ?_ ?_; (focus (first | omega | (simp [Inst.enc, *]; done); done)); (focus (first | omega | (simp [Inst.enc, *]; done); done)); (focus (first | omega | (simp [Inst.enc, *]; done); done)); (focus (first | omega | (simp [Inst.enc, *]; done); done)); refine RunQ.e ?_; simp [Inst.enc, *]) | (refine RunQ.k rfl rfl rfl rfl rfl ?_ (p) ?_ ?_ <;> simp (maxDischargeDepth := 120) [Inst.enc, *] <;> refine ⟨?_⟩) | (refine WK.retO Tryz.func240 rfl rfl ?_ ?_ <;> simp (maxDischargeDepth := 120) [Inst.enc, *]))
 have j3 : (kk == 3) = false := by rw [beq_eq_false_iff_ne]; omega
 have j4 : (kk == 4) = false := by rw [beq_eq_false_iff_ne]; omega
 have e : inBody ⟨kk, t, v, m, l⟩ = List.replicate 4 0#8 := by unfold inBody; rw [if_neg k1, if_neg k2, if_neg k34]
 rw [e]
 have hKl : (List.replicate 4 0#8).length = 4 := rfl
 have hKb := z4L
 obtain ⟨K, hK⟩ : ∃ K, List.replicate 4 0#8 = K := ⟨_, rfl⟩
 rw [hK] at hKl hKb ⊢
 rw [hKl]
 clear k34 e hK
 refine FnO.intro Tryz.func240 rfl rfl fun G w => ?_
 repeat' (first | apply WK.s | apply WK.b | apply WK.n | apply WK.k | refine WK.cF rfl ?_ | (refine hQ.h _ _ ?_; clear hQ hA) | (refine WK.rH Tryz.ntmps240 (by kernel_rfl) ?_; intro A hA Q hQ; simp [Inst.enc, *]) | (refine RunQ.make (n := 4) (c := 24) (k := .i64) (k' := .i64) 900 appByte rfl rfl rfl ?_ ?_ (by omega) (by omega) ?_ ?_; (focus (simp (maxDischargeDepth := 120) [Inst.enc, *]; done)); (focus (simp (maxDischargeDepth := 120) [Inst.enc, *]; done)); (focus (simp [Inst.enc, *]; done)); refine RunQ.e ?_; simp [Inst.enc, *]) | (refine WK.retO Tryz.func240 rfl rfl ?_ ?_ <;> simp (maxDischargeDepth := 120) [Inst.enc, *]))
theorem mpOkInt : MpOk Tryz.prog 176 := MpOk.mk' Tryz.underlying176 Tryz.underlying3 (by kernel_rfl)
theorem inFlat_succ {l : List Inst} {i : Nat} (h : i < l.length) : rwFlat inOne (l.take (i + 1)) = rwFlat inOne (l.take i) ++ inOne (nth l i) := by
 unfold rwFlat; rw [take_nth h, List.flatMap_append]; simp
theorem inFlat_len (l : List Inst) : (rwFlat inOne l).length ≤ l.length * 6100 := by
 induction l with
 | nil => simp [rwFlat]
 | cons x l ih =>
   have h1 := inOne_len x
   have h2 := inBody_len x
   have e : rwFlat inOne (x :: l) = inOne x ++ rwFlat inOne l := rfl
   rw [e, List.length_append, List.length_cons]
   omega
theorem inKinds_succ {l : List Inst} {i : Nat} (h : i < l.length) : inKinds (l.take (i + 1)) = inKinds (l.take i) ++ [(nth l i).kind] := by
 unfold inKinds; rw [take_nth h, List.map_append]; rfl
theorem inKinds_take {l : List Inst} (h : (inKinds l).Nodup) (i : Nat) : (inKinds (l.take i)).Nodup := by
 unfold inKinds at *
 rw [List.map_take]
 exact h.sublist (List.take_sublist _ _)
theorem inEnc_two {l : List Inst} {i : Nat} (h : i < l.length) (hk : (nth l i).kind ∈ inKinds (l.take i)) : inEnc l = ([], 1) := by
 refine inEnc_bad1 fun hh => ?_
 have h1 := inKinds_take (inFit_facts hh.1).2 (i + 1)
 rw [inKinds_succ h, List.nodup_append] at h1
 exact h1.2.2 _ hk _ (by simp) rfl
theorem inEnc_wrong {l : List Inst} {i : Nat} (h : i < l.length) (hk : inRight (nth l i) = false) : inEnc l = ([], 1) := by
 refine inEnc_bad1 fun hh => ?_
 have h1 := (inFit_facts hh.1).1 _ (nth_mem h)
 rw [hk] at h1; cases h1
theorem inFit_of {l : List Inst} (h : ∀ j, j < l.length → inRight (nth l j) = true) (h2 : (inKinds l).Nodup) : inFit l = true := by
 unfold inFit
 rw [Bool.and_eq_true, List.all_eq_true, decide_eq_true_eq]
 refine ⟨fun x hx => ?_, h2⟩
 obtain ⟨j, hj, rfl⟩ := mem_nth hx
 exact h j hj
theorem nodup_snoc {ks : List Int} {k : Int} (h : ks.Nodup) (hk : k ∉ ks) : (ks ++ [k]).Nodup := by
 rw [List.nodup_append]
 exact ⟨h, by simp, fun a ha b hb => by simp at hb; subst hb; exact fun e => hk (e ▸ ha)⟩
set_option maxHeartbeats 4000000 in
theorem ienc_c (l : List Inst) (hl : l.length ≤ 100) (ha : ∀ x, x ∈ l → x.acts.length ≤ 1000000) : FnT Tryz.prog 237 [instS l] (inEnc l).1.length 1 (byL (inEnc l).1) [.int .i64 (inEnc l).2] := by
 unfold instS
 refine FnT.intro Tryz.func237 rfl rfl fun G w => ?_
 repeat' (first | apply WK.s | apply WK.b | (refine hQ.h _ _ ?_; clear hQ hA) | (refine WK.rH Tryz.ntmps237 (by kernel_rfl) ?_; intro A hA Q hQ; simp [*]) | (refine RunQ.makeMap 910 rfl rfl rfl ?_ ?_; (focus (simp [*]; done)); refine RunQ.e ?_; simp [*]))
 refine WK.ghost (Ghost.own 4 900 1 rfl rfl) ?_
 refine WK.lI (fun n => if n = 1 then 900 else if n = 2 then 910 else n) (fun i : Nat => (⟨(upd (upd (upd (upd (upd (upd (upd J 2 (.sl true 0 [])) 3 (.int .i64 0)) 4 (.msl 1 0 (rwFlat inOne (l.take i)).length)) 5 (.mv 2)) 10 (.sl false l.length (instL l))) 11 (.int .i64 l.length)) 12 (.int .i64 i)), (upd (upd B0 1 (.buf 1 (byL (rwFlat inOne (l.take i))))) 2 (.obj (mpObj (mpSeen (inKinds (l.take i)))))), 0⟩ : St)) (fun i => i ≤ l.length ∧ (∀ j, j < i → inRight (nth l j) = true) ∧ (inKinds (l.take i)).Nodup) (fun i => l.length - i) (0) (by repeat (first | exact TmW.nil | refine TmW.upd ?_ (by simp (maxDischargeDepth := 120) [rwFlat, b0_, inKinds, mpSeen]))) (by repeat (first | exact BxW.nil | refine BxW.upd ?_ (by simp (maxDischargeDepth := 120) [rwFlat, b0_, inKinds, mpSeen]))) (by first | exact InjW.id | exact InjW.nil | exact InjW.one | exact InjW.two (by simp) | exact InjW.three (by simp) (by simp) (by simp)) (⟨by omega, by simp, by simp [inKinds]⟩) (fun i hi IH => ?_)
 have hfl := inFlat_len (l.take i)
 have htl : (l.take i).length ≤ 100 := by rw [List.length_take]; omega
 by_cases h1 : i < l.length
 · have h4 := inst_sub l i h1
   have h3 : 7 ≤ l.length * 7 - i * 7 := by omega
   have h6 : IntKind.i64.wrap ((i : Int) + 1) = i + 1 := wrap_i64 (by omega) (by omega)
   have hs := inFlat_succ h1
   have hx := ha _ (nth_mem h1)
   have hrc := iright_c (nth l i) hx
   have hks := inKinds_succ h1
   have hsn := mpSeen_snoc (inKinds (l.take i)) (nth l i).kind
   have hvl := mpSeen_val (inKinds (l.take i)) (nth l i).kind
   rw [← hks] at hsn
   have htwo : (nth l i).kind ∈ inKinds (l.take i) → inEnc l = ([], 1) := inEnc_two h1
   have hwr : inRight (nth l i) = false → inEnc l = ([], 1) := inEnc_wrong h1
   have hle := List.count_le_length (l := inKinds (l.take i)) (a := (nth l i).kind)
   have hkl : (inKinds (l.take i)).length ≤ 100 := by unfold inKinds; rw [List.length_map]; exact htl
   have hpos : 0 < (inKinds (l.take i)).count (nth l i).kind ↔ (nth l i).kind ∈ inKinds (l.take i) := List.count_pos_iff
   obtain ⟨c, hc⟩ : ∃ c, (inKinds (l.take i)).count (nth l i).kind = c := ⟨_, rfl⟩
   rw [hc] at hvl hle hpos
   have hnd := hi.2.2
   have hall := hi.2.1
   obtain ⟨S, hS⟩ : ∃ S, mpSeen (inKinds (l.take i)) = S := ⟨_, rfl⟩
   rw [hS] at hsn hvl ⊢
   rw [hvl] at hsn
   have hput := mpVal_put S (nth l i).kind ((c : Int) + 1) (nth l i).kind
   rw [if_pos rfl] at hput
   have wc : IntKind.i64.wrap ((c : Int) + 1) = c + 1 := wrap_i64 (by omega) (by omega)
   clear hc hle hkl hS
   have hjr : inRight (nth l i) = true → ∀ j, j < i + 1 → inRight (nth l j) = true := fun hr j hj => by
     by_cases h7 : j = i
     · subst h7; exact hr
     · exact hall j (by omega)
   have hjn : c = 0 → (inKinds (l.take (i + 1))).Nodup := fun h0 => by
     rw [hks]; exact nodup_snoc hnd fun h => by have := hpos.2 h; omega
   have hbody := ibody_c (nth l i) hx
   have hbl := inBody_len (nth l i)
   have hone : inOne (nth l i) = beN (nth l i).kind 2 ++ (beN (4 + (inBody (nth l i)).length : Nat) 2 ++ inBody (nth l i)) := rfl
   have hkd : inRight (nth l i) = true → numOk (nth l i).kind 2 = true := fun hr => by
     have := inKind_of (inRight_facts hr).1
     rw [numOk_iff]; exact ⟨by omega, by show (nth l i).kind < 65536; omega⟩
   have hn2 : numOk ((4 + (inBody (nth l i)).length : Nat) : Int) 2 = true := numOk2 (by omega)
   obtain ⟨x, hxx⟩ : ∃ x, nth l i = x := ⟨_, rfl⟩
   rw [hxx] at h4 hs hx hrc hsn hput htwo hwr hvl hpos hjr hbody hbl hone hkd hn2
   obtain ⟨E, hE⟩ : ∃ E, inBody x = E := ⟨_, rfl⟩
   rw [hE] at hbody hbl hone hn2
   obtain ⟨F, hF⟩ : ∃ F, rwFlat inOne (l.take i) = F := ⟨_, rfl⟩
   rw [hF] at hs hfl ⊢
   have hFl : F.length ≤ 700000 := by omega
   have hKs : ∃ K, inKinds (l.take (i + 1)) = K := ⟨_, rfl⟩
   obtain ⟨K, hK⟩ := hKs
   rw [hK] at hsn hjn
   obtain ⟨r, hr⟩ : ∃ r, inRight x = r := ⟨_, rfl⟩
   rw [hr] at hrc hwr hjr hkd
   simp only [Inst.enc] at h4 hrc hbody
   clear hi hall hnd hks hE hF hxx hr hfl htl
   cases r
   · have e := hwr rfl
     rw [e]
     clear htwo hwr hjr hjn hbody hone hkd hn2 hsn hpos hs hK
     repeat' (first | apply WK.s | apply WK.b | apply WK.k | refine WK.cT rfl ?_ | (refine hQ.h _ _ ?_; clear hQ hA) | (refine WK.rH Tryz.ntmps237 (by kernel_rfl) ?_; intro A hA Q hQ; simp [*]) | (refine RunQ.g rfl (by rw [hA.h]; rfl) ?_; simp [*]) | (refine RunQ.mapUpdate mpOkInt rfl rfl rfl rfl rfl rfl rfl ?_; refine RunQ.e ?_; simp [*]) | (refine RunQ.lookup mpOkInt rfl rfl rfl rfl rfl rfl ?_; refine RunQ.e ?_; simp [*]) | (refine RunQ.k rfl rfl rfl rfl rfl ?_ (hrc) ?_ ?_ <;> simp (maxDischargeDepth := 120) [*] <;> refine ⟨?_⟩))
     refine WK.ghost (Ghost.own 2 905 1 rfl rfl) ?_
     refine WK.retT2 Tryz.func237 ?_ ?_ ?_ <;> simp (maxDischargeDepth := 120) [Tryz.results237, b0_]
   by_cases hc0 : c = 0
   case neg =>
     have e := htwo (hpos.1 (by omega))
     rw [e]
     have hgt : (1 : Int) < (c : Int) + 1 := by omega
     have hgt2 : 0 < c := by omega
     clear htwo hwr hjr hjn hbody hone hkd hn2 hsn hpos hs hK
     repeat' (first | apply WK.s | apply WK.b | apply WK.k | refine WK.cT rfl ?_ | (refine hQ.h _ _ ?_; clear hQ hA) | (refine WK.rH Tryz.ntmps237 (by kernel_rfl) ?_; intro A hA Q hQ; simp [*]) | (refine RunQ.g rfl (by rw [hA.h]; rfl) ?_; simp [*]) | (refine RunQ.mapUpdate mpOkInt rfl rfl rfl rfl rfl rfl rfl ?_; refine RunQ.e ?_; simp [*]) | (refine RunQ.lookup mpOkInt rfl rfl rfl rfl rfl rfl ?_; refine RunQ.e ?_; simp [*]) | (refine RunQW.by (fun hw => ?_); refine RunQ.lookup mpOkInt rfl hw rfl rfl rfl rfl ?_; clear hw; refine RunQ.e ?_; simp [*]) | (refine RunQ.k rfl rfl rfl rfl rfl ?_ (hrc) ?_ ?_ <;> simp (maxDischargeDepth := 120) [*] <;> refine ⟨?_⟩))
     refine WK.ghost (Ghost.own 2 905 1 rfl rfl) ?_
     refine WK.retT2 Tryz.func237 ?_ ?_ ?_ <;> simp (maxDischargeDepth := 120) [Tryz.results237, b0_]
   subst hc0
   have hK2 := hjn rfl
   have hput1 : mpVal (mpPut S x.kind 1) x.kind = 1 := by simpa using hput
   have hsn1 : mpSeen K = mpPut S x.kind 1 := by simpa using hsn
   have hvl1 : mpVal S x.kind = 0 := by simpa using hvl
   have wc1 : IntKind.i64.wrap 1 = 1 := rfl
   clear hput hsn hvl wc
   have hj2 := hjr rfl
   rw [← hK] at hK2
   have c1 := nput_c F x.kind 2 Sz2 (by omega)
   rw [putN_beN (hkd rfl)] at c1
   obtain ⟨F1, hF1⟩ : ∃ F1, F ++ beN x.kind 2 = F1 := ⟨_, rfl⟩
   rw [hF1] at c1
   have hF1l : F1.length = F.length + 2 := by rw [← hF1, List.length_append, beN_len]
   have c2 := nput_c F1 ((4 + E.length : Nat) : Int) 2 Sz2 (by omega)
   rw [putN_beN hn2] at c2
   obtain ⟨F2, hF2⟩ : ∃ F2, F1 ++ beN ((4 + E.length : Nat) : Int) 2 = F2 := ⟨_, rfl⟩
   rw [hF2] at c2
   have hF2l : F2.length = F.length + 4 := by rw [← hF2, List.length_append, beN_len]; omega
   have hs2 : rwFlat inOne (l.take (i + 1)) = F2 ++ E := by rw [hs, hone, ← hF2, ← hF1]; simp only [List.append_assoc]
   have hs3 : byL F2 ++ byL E = byL (rwFlat inOne (l.take (i + 1))) := by rw [hs2, byL_app]
   have hs4 : (rwFlat inOne (l.take (i + 1))).length = F2.length + E.length := by rw [hs2, List.length_append]
   have w4 : IntKind.i64.wrap (4 + (E.length : Int)) = 4 + (E.length : Int) := wrap_i64 (by omega) (by omega)
   have hbd : F2.length + E.length ≤ 140737488355328 := by omega
   have hfu1 := by_full F F.length rfl
   have hfu2 := by_full F1 F1.length rfl
   have hfu3 := by_full E E.length rfl
   unfold byS at c1 c2
   clear htwo hwr hjr hjn hone hkd hn2 hpos hs hF1 hF2 hF1l hF2l hs2
   repeat' (first | apply WK.s | apply WK.b | apply WK.n | apply WK.k | refine WK.cT rfl ?_ | refine WK.cF rfl ?_ | (refine hQ.h _ _ ?_; clear hQ hA) | (refine WK.rH Tryz.ntmps237 (by kernel_rfl) ?_; intro A hA Q hQ; simp [*]) | (refine RunQ.g rfl (by rw [hA.h]; rfl) ?_; simp [*]) | (refine RunQ.mapUpdate mpOkInt rfl rfl rfl rfl rfl rfl rfl ?_; refine RunQ.e ?_; simp [*]) | (refine RunQ.lookup mpOkInt rfl rfl rfl rfl rfl rfl ?_; refine RunQ.e ?_; simp [*]) | (refine RunQW.by (fun hw => ?_); refine RunQ.lookup mpOkInt rfl hw rfl rfl rfl rfl ?_; clear hw; refine RunQ.e ?_; simp [*]) | (refine RunQ.callO 901 rfl rfl rfl rfl rfl ?_ (hbody) ?_ ?_ ?_ ?_; (focus (simp (maxDischargeDepth := 120) [*]; done)); (focus (simp [*]; done)); (focus (simp [*]; done)); (focus (simp [*]; done)); refine RunQ.e ?_; simp [*]) | (refine RunQ.callOz 902 33 1 rfl rfl rfl rfl rfl rfl rfl ?_ (c1) ?_ ?_ (by simp) (by decide) ?_; (focus (simp (maxDischargeDepth := 120) [*]; done)); (focus (simp [*]; done)); (focus (simp [*]; done)); refine RunQ.e ?_; simp [*]) | (refine RunQ.callOz 903 36 1 rfl rfl rfl rfl rfl rfl rfl ?_ (c2) ?_ ?_ (by simp) (by decide) ?_; (focus (simp (maxDischargeDepth := 120) [*]; done)); (focus (simp [*]; done)); (focus (simp [*]; done)); refine RunQ.e ?_; simp [*]) | (refine RunQ.appendFz 904 appByte rfl rfl rfl rfl rfl rfl rfl rfl rfl rfl ?_ ?_ ?_ ?_ ?_ ?_; (focus (first | omega | (simp [*]; done); done)); (focus (first | omega | (simp [*]; done); done)); (focus (first | omega | (simp [*]; done); done)); (focus (simp [*]; done)); (focus (simp [*]; done)); refine RunQ.e ?_; simp [*]) | (refine RunQ.k rfl rfl rfl rfl rfl ?_ (hrc) ?_ ?_ <;> simp (maxDischargeDepth := 120) [*] <;> refine ⟨?_⟩))
   refine WK.next (fun n => if n = 1 then 904 else n) (IH (i + 1) (⟨by omega, hj2, hK2⟩) (by first | omega | (dsimp only; omega))) (by repeat (first | exact TmW.nil | refine TmW.upd ?_ (by simp (maxDischargeDepth := 120) [hs3, hs4, hK, hsn1]))) (by repeat (first | exact BxW.nil | refine BxW.upd ?_ (by simp (maxDischargeDepth := 120) [hs3, hs4, hK, hsn1]))) (by first | exact InjW.id | exact InjW.nil | exact InjW.one | exact InjW.two (by simp) | exact InjW.three (by simp) (by simp) (by simp))
 · have hT : l.take i = l := List.take_of_length_le (by omega)
   have hfit : inFit l = true := inFit_of (fun j hj => hi.2.1 j (by omega)) (by have := hi.2.2; rwa [hT] at this)
   have hdef : inEnc l = if (rwFlat inOne l).length ≤ 60000 then (rwFlat inOne l, 0) else ([], 1) := by
     unfold inEnc
     by_cases hh : (rwFlat inOne l).length ≤ 60000
     · rw [if_pos hh, if_pos ⟨hfit, hh⟩]
     · rw [if_neg hh, if_neg fun h => hh h.2]
   rw [hT] at hfl ⊢
   obtain ⟨F, hF⟩ : ∃ F, rwFlat inOne l = F := ⟨_, rfl⟩
   rw [hF] at hdef hfl ⊢
   by_cases h6 : F.length ≤ 60000
   · have j6 : ¬ (60000 : Int) < F.length := by omega
     rw [if_pos h6] at hdef
     rw [hdef]
     clear hF hdef hi hfit
     repeat' (first | apply WK.s | apply WK.k | refine WK.exit rfl ?_ | refine WK.cF rfl ?_ | (refine hQ.h _ _ ?_; clear hQ hA) | (refine WK.rH Tryz.ntmps237 (by kernel_rfl) ?_; intro A hA Q hQ; simp [*]) | (refine WK.retT2 Tryz.func237 ?_ ?_ ?_ <;> simp (maxDischargeDepth := 120) [Tryz.results237, *]))
   · have j6 : (60000 : Int) < F.length := by omega
     rw [if_neg h6] at hdef
     rw [hdef]
     clear hF hdef hi hfit
     repeat' (first | apply WK.s | refine WK.exit rfl ?_ | refine WK.cT rfl ?_ | refine WK.cF rfl ?_ | (refine hQ.h _ _ ?_; clear hQ hA) | (refine WK.rH Tryz.ntmps237 (by kernel_rfl) ?_; intro A hA Q hQ; simp [*]))
     refine WK.ghost (Ghost.own 2 907 1 rfl rfl) ?_
     refine WK.retT2 Tryz.func237 ?_ ?_ ?_ <;> simp (maxDischargeDepth := 120) [Tryz.results237, b0_]

theorem instL_snoc (l : List Inst) (x : Inst) : instL l ++ x.enc = instL (l ++ [x]) := by rw [instL_app]; simp [instL]
theorem inOf_kind (k : Int) (b : List (BitVec 8)) : (inOf k b).1.kind = k := by
 unfold inOf
 split
 · rename_i h; exact h.symm
 split
 · rename_i h; exact h.symm
 split
 · rfl
 · rfl
theorem inStep_cut {ks : List Int} {b : List (BitVec 8)} {k : Int} {n : Nat} {c : Int × Int} (h : inCut b = (k, n, some c)) : inStep ks b = (inst0, 0, some c) := by unfold inStep; rw [h]
theorem inStep_two {ks : List Int} {b : List (BitVec 8)} {k : Int} {n : Nat} (h : inCut b = (k, n, none)) (hk : k ∈ ks) : inStep ks b = (inst0, 0, some (3, 9)) := by
 unfold inStep; rw [h]; simp only; rw [if_pos hk]
theorem inStep_none {ks : List Int} {b : List (BitVec 8)} {k : Int} {n : Nat} {y : Inst} (h : inCut b = (k, n, none)) (hk : k ∉ ks) (ho : inOf k (b.take n) = (y, none)) : inStep ks b = (y, n, none) := by
 unfold inStep; rw [h]; simp only; rw [if_neg hk, ho]
theorem inStep_some {ks : List Int} {b : List (BitVec 8)} {k : Int} {n : Nat} {y : Inst} {c : Int × Int} (h : inCut b = (k, n, none)) (hk : k ∉ ks) (ho : inOf k (b.take n) = (y, some c)) : inStep ks b = (inst0, 0, some c) := by
 unfold inStep; rw [h]; simp only; rw [if_neg hk, ho]
set_option maxHeartbeats 4000000 in
theorem idec_c (b : List (BitVec 8)) (hb : b.length ≤ 100000) : FnT Tryz.prog 106 [byS b] (inDec b).1.length 7 (instL (inDec b).1) [.agg (gF (inDec b).2)] := by
 have b9 := ibad_c 9
 unfold byS
 refine FnT.intro Tryz.func106 rfl rfl fun G w => ?_
 repeat' (first | apply WK.s | apply WK.b | (refine hQ.h _ _ ?_; clear hQ hA) | (refine WK.rH Tryz.ntmps106 (by kernel_rfl) ?_; intro A hA Q hQ; simp [*]) | (refine RunQ.makeMap 910 rfl rfl rfl ?_ ?_; (focus (simp [*]; done)); refine RunQ.e ?_; simp [*]))
 refine WK.ghost (Ghost.own 4 900 7 rfl rfl) ?_
 refine WK.lI (fun n => if n = 60 then 900 else if n = 61 then 910 else n) (fun x : Nat × Nat × List Inst => (⟨(upd (upd (upd (upd (upd J 0 (.sl false (b.length - x.2.1) (byL (b.drop x.2.1)))) 2 (.sl true 0 [])) 3 (.ptr 1 0)) 4 (.msl 60 0 x.2.2.length)) 5 (.mv 61)), (upd (upd (upd B0 1 (.var (gF none))) 60 (.buf 7 (instL x.2.2))) 61 (.obj (mpObj (mpSeen (inKinds x.2.2))))), 0⟩ : St)) (fun x => InAt b x) (fun x => b.length - x.2.1) ((b.length, 0, [])) (by repeat (first | exact TmW.nil | refine TmW.upd ?_ (by simp (maxDischargeDepth := 120) [gF, inKinds, mpSeen]))) (by repeat (first | exact BxW.nil | refine BxW.upd ?_ (by simp (maxDischargeDepth := 120) [gF, inKinds, mpSeen]))) (by first | exact InjW.id | exact InjW.nil | exact InjW.one | exact InjW.two (by simp) | exact InjW.three (by simp) (by simp) (by simp)) (InAt.start b) (fun i hi IH => ?_)
 obtain ⟨f, p, acc⟩ := i
 have hsm := hi.small
 have hle := hi.le
 have hnd := hi.once
 simp only at hsm hle hi hnd ⊢
 by_cases h1 : p < b.length
 · have hc := icut_c (b.drop p) (by rw [List.length_drop]; omega)
   obtain ⟨k, n, c, hd⟩ : ∃ k n c, inCut (b.drop p) = (k, n, c) := ⟨_, _, _, rfl⟩
   rw [hd] at hc
   unfold byS at hc
   rw [List.length_drop] at hc
   have hpos : 0 < b.length - p := by omega
   have hpos' : (0 : Int) < ((b.length - p : Nat) : Int) := by omega
   cases c with
   | some c =>
     have e := InAt.bad hi h1 (inStep_cut hd)
     obtain ⟨L, hL⟩ : ∃ L, b.length - p = L := ⟨_, rfl⟩
     obtain ⟨B, hB⟩ : ∃ B, (b.drop p).take n = B := ⟨_, rfl⟩
     rw [hL] at hc hpos hpos' ⊢
     simp only [hB] at hc
     rw [e]
     clear hL hB b9
     repeat' (first | apply WK.s | apply WK.b | apply WK.k | refine WK.cT rfl ?_ | (refine hQ.h _ _ ?_; clear hQ hA) | (refine WK.rH Tryz.ntmps106 (by kernel_rfl) ?_; intro A hA Q hQ; simp [gF, *]) | (refine WK.rX (by kernel_rfl) Tryz.ntmps106 (by kernel_rfl) ?_; intro A hA Q hQ; simp [gF, *]) | (refine hQ.h _ _ _ (by decide +kernel) ?_; clear hQ hA) | (refine RunQ.k rfl rfl rfl rfl rfl ?_ (hc) ?_ ?_ <;> simp (maxDischargeDepth := 120) [gF, *] <;> refine ⟨?_⟩))
     refine WK.ghost (Ghost.own 2 901 7 rfl rfl) ?_
     refine WK.retT2 Tryz.func106 ?_ ?_ ?_ <;> simp (maxDischargeDepth := 120) [Tryz.results106, iN_, gF]
   | none =>
   obtain ⟨f1, f2, f3, f4, ⟨kn, hkn, f5, f6, f7⟩, f8, f9⟩ := inCut_facts hd
   rw [List.length_drop] at f2
   have hvl := mpSeen_val (inKinds acc) k
   have hsn := mpSeen_snoc (inKinds acc) k
   have hcl := List.count_le_length (l := inKinds acc) (a := k)
   have hkl : (inKinds acc).length ≤ 100000 := by unfold inKinds; rw [List.length_map]; omega
   have hcp : 0 < (inKinds acc).count k ↔ k ∈ inKinds acc := List.count_pos_iff
   obtain ⟨c, hcc⟩ : ∃ c, (inKinds acc).count k = c := ⟨_, rfl⟩
   rw [hcc] at hvl hcl hcp
   obtain ⟨S, hS⟩ : ∃ S, mpSeen (inKinds acc) = S := ⟨_, rfl⟩
   rw [hS] at hsn hvl ⊢
   rw [hvl] at hsn
   have hput := mpVal_put S k ((c : Int) + 1) k
   rw [if_pos rfl] at hput
   have wc : IntKind.i64.wrap ((c : Int) + 1) = c + 1 := wrap_i64 (by omega) (by omega)
   have hBl : ((b.drop p).take n).length = n := by rw [List.length_take, List.length_drop]; omega
   have ho := ione_c k ((b.drop p).take n) (by omega) (by omega) (fun h => by
     unfold inLaid at f9; rw [h, if_neg (by decide), if_pos rfl] at f9
     simp only [Bool.and_eq_true, beq_iff_eq] at f9; omega)
   clear hkn f5 f6 f7 f8
   by_cases hc0 : c = 0
   case neg =>
     have e := InAt.bad hi h1 (inStep_two hd (hcp.1 (by omega)))
     have hgt : (1 : Int) < (c : Int) + 1 := by omega
     have hgt2 : 0 < c := by omega
     obtain ⟨L, hL⟩ : ∃ L, b.length - p = L := ⟨_, rfl⟩
     obtain ⟨B, hB⟩ : ∃ B, (b.drop p).take n = B := ⟨_, rfl⟩
     rw [hL] at hc hpos hpos' ⊢
     simp only [hB] at hc
     rw [e]
     clear hL hB ho hsn hcp hcl hS hcc hBl f9
     repeat' (first | apply WK.s | apply WK.b | apply WK.k | refine WK.cT rfl ?_ | refine WK.cF rfl ?_ | (refine hQ.h _ _ ?_; clear hQ hA) | (refine WK.rH Tryz.ntmps106 (by kernel_rfl) ?_; intro A hA Q hQ; simp [gF, *]) | (refine RunQ.mapUpdate mpOkInt rfl rfl rfl rfl rfl rfl rfl ?_; refine RunQ.e ?_; simp [gF, *]) | (refine RunQ.lookup mpOkInt rfl rfl rfl rfl rfl rfl ?_; refine RunQ.e ?_; simp [gF, *]) | (refine RunQ.k rfl rfl rfl rfl rfl ?_ (hc) ?_ ?_ <;> simp (maxDischargeDepth := 120) [gF, *] <;> refine ⟨?_⟩) | (refine RunQ.k rfl rfl rfl rfl rfl ?_ (b9) ?_ ?_ <;> simp (maxDischargeDepth := 120) [gF, *] <;> refine ⟨?_⟩))
     refine WK.ghost (Ghost.own 2 901 7 rfl rfl) ?_
     refine WK.retT2 Tryz.func106 ?_ ?_ ?_ <;> simp (maxDischargeDepth := 120) [Tryz.results106, iN_, gF]
   subst hc0
   have hput1 : mpVal (mpPut S k 1) k = 1 := by simpa using hput
   have hsn1 : mpSeen (inKinds acc ++ [k]) = mpPut S k 1 := by simpa using hsn
   have hvl1 : mpVal S k = 0 := by simpa using hvl
   have wc1 : IntKind.i64.wrap 1 = 1 := rfl
   have hnk : k ∉ inKinds acc := fun h => by have := hcp.2 h; omega
   obtain ⟨y, c, hy⟩ : ∃ y c, inOf k ((b.drop p).take n) = (y, c) := ⟨_, _, rfl⟩
   rw [hy] at ho
   unfold byS at ho
   rw [hBl] at ho hc
   clear hput hsn hvl wc hcp hcl hS hcc
   cases c with
   | some c =>
     have hst := inStep_some hd hnk hy
     have e := InAt.bad hi h1 hst
     obtain ⟨L, hL⟩ : ∃ L, b.length - p = L := ⟨_, rfl⟩
     obtain ⟨B, hB⟩ : ∃ B, (b.drop p).take n = B := ⟨_, rfl⟩
     rw [hL] at hc hpos hpos' ⊢
     rw [hB] at hc ho
     rw [e]
     clear hL hB hst hBl f9 b9 hsn1
     repeat' (first | apply WK.s | apply WK.b | apply WK.k | refine WK.cT rfl ?_ | refine WK.cF rfl ?_ | (refine hQ.h _ _ ?_; clear hQ hA) | (refine WK.rH Tryz.ntmps106 (by kernel_rfl) ?_; intro A hA Q hQ; simp [gF, Inst.enc, *]) | (refine WK.rX (by kernel_rfl) Tryz.ntmps106 (by kernel_rfl) ?_; intro A hA Q hQ; simp [gF, Inst.enc, *]) | (refine hQ.h _ _ _ (by decide +kernel) ?_; clear hQ hA) | (refine RunQ.mapUpdate mpOkInt rfl rfl rfl rfl rfl rfl rfl ?_; refine RunQ.e ?_; simp [gF, Inst.enc, *]) | (refine RunQ.lookup mpOkInt rfl rfl rfl rfl rfl rfl ?_; refine RunQ.e ?_; simp [gF, Inst.enc, *]) | (refine RunQ.k rfl rfl rfl rfl rfl ?_ (hc) ?_ ?_ <;> simp (maxDischargeDepth := 120) [gF, Inst.enc, *] <;> refine ⟨?_⟩) | (refine RunQ.k rfl rfl rfl rfl rfl ?_ (ho) ?_ ?_ <;> simp (maxDischargeDepth := 120) [gF, Inst.enc, *] <;> refine ⟨?_⟩))
     refine WK.ghost (Ghost.own 2 901 7 rfl rfl) ?_
     refine WK.retT2 Tryz.func106 ?_ ?_ ?_ <;> simp (maxDischargeDepth := 120) [Tryz.results106, iN_, gF]
   | none =>
     have hst := inStep_none hd hnk hy
     obtain ⟨hk1, hk2, hn⟩ := InAt.next hi h1 hst
     simp only at hk1 hn
     have hyk : y.kind = k := by have := inOf_kind k ((b.drop p).take n); rw [hy] at this; exact this
     have hkk : inKinds (acc ++ [y]) = inKinds acc ++ [k] := by unfold inKinds; rw [List.map_append, List.map_cons, List.map_nil, hyk]
     have hnL : (n : Int) ≤ ((b.length - p : Nat) : Int) := by omega
     have hdd : ((byL (b.drop p)).drop n).take (b.length - p - n) = byL (b.drop (p + n)) := by
       rw [byL_drop, List.drop_drop]; exact by_full _ _ (by rw [List.length_drop]; omega)
     have hll : b.length - (p + n) = b.length - p - n := by omega
     have hbd : (acc.length + 1) * 72 ≤ 140737488355328 := by omega
     have hsq := instL_snoc acc y
     obtain ⟨L, hL⟩ : ∃ L, b.length - p = L := ⟨_, rfl⟩
     obtain ⟨B, hB⟩ : ∃ B, (b.drop p).take n = B := ⟨_, rfl⟩
     rw [hL] at hc hpos hpos' hnL hdd hll ⊢
     rw [hB] at hc ho
     rw [← hkk] at hsn1
     simp only [Inst.enc] at hsq ho
     clear hL hB hst hBl f9 b9 hkk hyk hy hd
     repeat' (first | apply WK.s | apply WK.b | apply WK.n | apply WK.k | refine WK.cT rfl ?_ | refine WK.cF rfl ?_ | (refine hQ.h _ _ ?_; clear hQ hA) | (refine WK.rH Tryz.ntmps106 (by kernel_rfl) ?_; intro A hA Q hQ; simp [gF, *]) | (refine WK.rX (by kernel_rfl) Tryz.ntmps106 (by kernel_rfl) ?_; intro A hA Q hQ; simp [gF, *]) | (refine hQ.h _ _ _ (by decide +kernel) ?_; clear hQ hA) | (refine RunQ.mapUpdate mpOkInt rfl rfl rfl rfl rfl rfl rfl ?_; refine RunQ.e ?_; simp [gF, *]) | (refine RunQ.lookup mpOkInt rfl rfl rfl rfl rfl rfl ?_; refine RunQ.e ?_; simp [gF, *]) | (refine RunX.append 902 appInst rfl rfl rfl rfl rfl rfl rfl rfl ?_ ?_ ?_ ?_ ?_; (focus (first | omega | (simp [gF, *]; done); done)); (focus (first | omega | (simp [gF, *]; done); done)); (focus (first | omega | (simp [gF, *]; done); done)); (focus (first | omega | (simp [gF, *]; done); done)); refine RunX.e ?_; simp [gF, *]) | (refine RunQ.k rfl rfl rfl rfl rfl ?_ (hc) ?_ ?_ <;> simp (maxDischargeDepth := 120) [gF, *] <;> refine ⟨?_⟩) | (refine RunQ.k rfl rfl rfl rfl rfl ?_ (ho) ?_ ?_ <;> simp (maxDischargeDepth := 120) [gF, *] <;> refine ⟨?_⟩))
     refine WK.next (fun n => if n = 60 then 902 else n) (IH ((f - 1, p + n, acc ++ [y])) (hn) (by first | omega | (dsimp only; omega))) (by repeat (first | exact TmW.nil | refine TmW.upd ?_ (by simp (maxDischargeDepth := 120) [hsq, hll, gF, hsn1]))) (by repeat (first | exact BxW.nil | refine BxW.upd ?_ (by simp (maxDischargeDepth := 120) [hsq, hll, gF, hsn1]))) (by first | exact InjW.id | exact InjW.nil | exact InjW.one | exact InjW.two (by simp) | exact InjW.three (by simp) (by simp) (by simp))
 · have hstop := InAt.stop hi h1
   simp only at hstop
   have hpos : ¬ 0 < b.length - p := by omega
   have hpos' : ¬ (0 : Int) < ((b.length - p : Nat) : Int) := by omega
   obtain ⟨L, hL⟩ : ∃ L, b.length - p = L := ⟨_, rfl⟩
   rw [hL] at hpos hpos' ⊢
   rw [hstop]
   clear hL
   repeat' (first | apply WK.s | refine WK.exit rfl ?_ | refine WK.cF rfl ?_ | (refine hQ.h _ _ ?_; clear hQ hA) | (refine WK.rH Tryz.ntmps106 (by kernel_rfl) ?_; intro A hA Q hQ; simp [gF, *]) | (refine WK.retT2 Tryz.func106 ?_ ?_ ?_ <;> simp (maxDischargeDepth := 120) [Tryz.results106, gF, *]))

theorem nodup_len : ∀ (ks s : List Int), ks.Nodup → (∀ x, x ∈ ks → x ∈ s) → ks.length ≤ s.length
 | [], s, _, _ => Nat.zero_le _
 | k :: ks, s, hn, hs => by
   rw [List.nodup_cons] at hn
   have hm := hs k (by simp)
   have h1 := nodup_len ks (s.erase k) hn.2 fun x hx => by
     have hne : x ≠ k := fun e => hn.1 (by rw [← e]; exact hx)
     exact (List.mem_erase_of_ne hne).2 (hs x (List.mem_cons_of_mem _ hx))
   have h2 := List.length_erase_of_mem hm
   have h3 := List.length_pos_of_mem hm
   rw [List.length_cons]; omega
theorem iencP_c (l : List Inst) (hl : l.length ≤ 100) (ha : ∀ x, x ∈ l → x.acts.length ≤ 1000000) : FnP Tryz.prog 237 [instS l] (.tup [byS (inEnc l).1, .int .i64 (inEnc l).2]) := by
 have h := (ienc_c l hl ha).toP (by simp [byL_take]) (by rfl)
 rwa [Nat.mul_one, by_full _ _ rfl] at h
theorem idecP_c (b : List (BitVec 8)) (hb : b.length ≤ 100000) : FnP Tryz.prog 106 [byS b] (.tup [instS (inDec b).1, .agg (gF (inDec b).2)]) := by
 have h := (idec_c b hb).toP (by simp) (by simp [ClL, Cl])
 rwa [instL_take] at h
end Go.Proofs.YtcccfbjkcahgfaaGreat
