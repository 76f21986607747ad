/- Actions: read by the reference. -/
import Derived.Test.YtcccfbjkcahgfaaGreatAf
import Derived.Test.YtcccfbjkcahgfaaGreatWk4
import Derived.Test.YtcccfbjkcahgfaaGreatDa
set_option linter.all false
set_option linter.unnecessarySimpa false
namespace Go.Proofs.YtcccfbjkcahgfaaGreat
open Go Go.AI Go.Proofs
attribute [local irreducible] FnP FnO FnB FnT FnSeq WK RunQ RunQW RunX RunXW
theorem aright_group {g : Int} (h : 0 ≤ g) : Action.right ⟨22, 0, 0, g, 0, oxm0⟩ = decide (g ≤ 4294967040) := by
 unfold Action.right Action.fine Action.bare
 simp [h]
theorem getN_nonneg (b : List (BitVec 8)) (p s : Nat) : 0 ≤ (getN b p s).1 := by unfold getN; split <;> simp
set_option maxHeartbeats 8000000 in
theorem radec_c (b : List (BitVec 8)) (hb : b.length ≤ 9223372036854775807) : FnP Tryz.prog 150 [byS b] (aRes (aDec b)) := by
 have b1 := rabad_c 1
 have b0 := rabad_c 0
 have b5 := rabad_c 5
 have b4 := rabad_c 4
 have b9 := rabad_c 9
 by_cases h8 : b.length < 8
 · have e : aDec b = aBad 1 := by unfold aDec; rw [if_pos h8]
   have j8 : (b.length : Int) < 8 := by omega
   unfold byS
   refine FnP.i Tryz.func150 rfl rfl fun G w => ?_
   repeat' (first | apply WK.s | refine WK.cT rfl ?_ | (refine hQ.h _ _ ?_; clear hQ hA) | (refine WK.rH Tryz.ntmps150 (by kernel_rfl) ?_; intro A hA Q hQ; simp [zA, aF, *]) | (refine RunQ.k rfl rfl rfl rfl rfl ?_ (b1) ?_ ?_ <;> simp (maxDischargeDepth := 120) [zA, aF, *] <;> refine ⟨?_⟩) | (refine WK.t Tryz.func150 ?_ ?_ <;> simp (maxDischargeDepth := 120) [Tryz.results150, zA, aF, *]))
 have h8' : 8 ≤ b.length := by omega
 have j8 : ¬ (b.length : Int) < 8 := by omega
 have g1 := rnumber_c b 0 2 Sz2 hb (by omega)
 have g2 := rnumber_c b 2 2 Sz2 hb (by omega)
 rw [aK_get b h8'] at g1
 rw [aN_get b h8'] at g2
 have hlt := aN_lt b h8'
 have hdef : aDec b = if aN b < 8 ∨ ¬ aN b % 8 = 0 ∨ b.length < aN b then aBad 1 else
   if aK b = 25 then aSetD (b.take (aN b)) else if (aLength (aK b)).1 = 0 then aBad 0 else if ¬ aN b = (aLength (aK b)).1 then aBad 1 else
   if allZ ((b.take (aN b)).drop (aLength (aK b)).2) = true then aPlain (aK b) (b.take (aN b)) else aBad 5 := by
   rw [aDec, if_neg h8]
 have hge : ∀ p s, p + s ≤ aN b → aN b ≤ b.length → getN b p s = getN (b.take (aN b)) p s := fun p s h1 h2 => by
   unfold getN
   rw [if_pos (by omega), if_pos (by rw [List.length_take]; omega), List.drop_take, List.take_take, Nat.min_eq_left (by omega)]
 have g3 := rnumber_c b 4 4 Sz4 hb (by omega)
 have g4 := rnumber_c b 8 2 Sz2 hb (by omega)
 have g5 := rnumber_c b 4 2 Sz2 hb (by omega)
 obtain ⟨n, hn⟩ : ∃ n, aN b = n := ⟨_, rfl⟩
 obtain ⟨k, hk⟩ : ∃ k, aK b = k := ⟨_, rfl⟩
 simp only [hn] at g2 hlt hdef hge
 simp only [hk] at g1 hdef
 clear hn hk
 have z7 : (((n : Int)) % 8 == 0) = (n % 8 == 0) := by rw [Bool.eq_iff_iff, beq_iff_eq, beq_iff_eq]; omega
 have z7' : (((n : Int)).tmod 8 == 0) = (n % 8 == 0) := by rw [Int.tmod_eq_emod_of_nonneg (by omega)]; exact z7
 obtain ⟨r, hr⟩ : ∃ r, n % 8 = r := ⟨_, rfl⟩
 rw [hr] at z7 z7' hdef
 by_cases c1 : n < 8
 · have e : aDec b = aBad 1 := by rw [hdef, if_pos (.inl c1)]
   have d1 : (n : Int) < 8 := by omega
   unfold byS at *
   clear hdef hr hge
   refine FnP.i Tryz.func150 rfl rfl fun G w => ?_
   repeat' (first | apply WK.s | apply WK.k | refine WK.cT rfl ?_ | refine WK.cF rfl ?_ | (refine hQ.h _ _ ?_; clear hQ hA) | (refine WK.rH Tryz.ntmps150 (by kernel_rfl) ?_; intro A hA Q hQ; simp [zA, aF, *]) | (refine RunQ.g rfl (by rw [hA.h]; rfl) ?_; simp [zA, aF, *]) | (refine RunQ.k rfl rfl rfl rfl rfl ?_ (g1) ?_ ?_ <;> simp (maxDischargeDepth := 120) [zA, aF, *] <;> refine ⟨?_⟩) | (refine RunQ.k rfl rfl rfl rfl rfl ?_ (g2) ?_ ?_ <;> simp (maxDischargeDepth := 120) [zA, aF, *] <;> refine ⟨?_⟩) | (refine RunQ.k rfl rfl rfl rfl rfl ?_ (b1) ?_ ?_ <;> simp (maxDischargeDepth := 120) [zA, aF, *] <;> refine ⟨?_⟩) | (refine WK.t Tryz.func150 ?_ ?_ <;> simp (maxDischargeDepth := 120) [Tryz.results150, zA, aF, *]))
 have d1 : ¬ (n : Int) < 8 := by omega
 by_cases c2 : r = 0
 case neg =>
   have e : aDec b = aBad 1 := by rw [hdef, if_pos (.inr (.inl c2))]
   have d2 : (r == 0) = false := by simpa using c2
   rw [d2] at z7 z7'
   unfold byS at *
   clear hdef hr hge
   refine FnP.i Tryz.func150 rfl rfl fun G w => ?_
   repeat' (first | apply WK.s | apply WK.k | refine WK.cT rfl ?_ | refine WK.cF rfl ?_ | (refine hQ.h _ _ ?_; clear hQ hA) | (refine WK.rH Tryz.ntmps150 (by kernel_rfl) ?_; intro A hA Q hQ; simp [zA, aF, bne, *]) | (refine RunQ.g rfl (by rw [hA.h]; rfl) ?_; simp [zA, aF, bne, *]) | (refine RunQ.k rfl rfl rfl rfl rfl ?_ (g1) ?_ ?_ <;> simp (maxDischargeDepth := 120) [zA, aF, bne, *] <;> refine ⟨?_⟩) | (refine RunQ.k rfl rfl rfl rfl rfl ?_ (g2) ?_ ?_ <;> simp (maxDischargeDepth := 120) [zA, aF, bne, *] <;> refine ⟨?_⟩) | (refine RunQ.k rfl rfl rfl rfl rfl ?_ (b1) ?_ ?_ <;> simp (maxDischargeDepth := 120) [zA, aF, bne, *] <;> refine ⟨?_⟩) | (refine WK.t Tryz.func150 ?_ ?_ <;> simp (maxDischargeDepth := 120) [Tryz.results150, zA, aF, bne, *]))
 have d2 : (r == 0) = true := by simpa using c2
 rw [d2] at z7 z7'
 by_cases c3 : b.length < n
 · have e : aDec b = aBad 1 := by rw [hdef, if_pos (.inr (.inr c3))]
   have d3 : (b.length : Int) < n := by omega
   unfold byS at *
   clear hdef hr c2 hge
   refine FnP.i Tryz.func150 rfl rfl fun G w => ?_
   repeat' (first | apply WK.s | apply WK.k | refine WK.cT rfl ?_ | refine WK.cF rfl ?_ | (refine hQ.h _ _ ?_; clear hQ hA) | (refine WK.rH Tryz.ntmps150 (by kernel_rfl) ?_; intro A hA Q hQ; simp [zA, aF, bne, *]) | (refine RunQ.g rfl (by rw [hA.h]; rfl) ?_; simp [zA, aF, bne, *]) | (refine RunQ.k rfl rfl rfl rfl rfl ?_ (g1) ?_ ?_ <;> simp (maxDischargeDepth := 120) [zA, aF, bne, *] <;> refine ⟨?_⟩) | (refine RunQ.k rfl rfl rfl rfl rfl ?_ (g2) ?_ ?_ <;> simp (maxDischargeDepth := 120) [zA, aF, bne, *] <;> refine ⟨?_⟩) | (refine RunQ.k rfl rfl rfl rfl rfl ?_ (b1) ?_ ?_ <;> simp (maxDischargeDepth := 120) [zA, aF, bne, *] <;> refine ⟨?_⟩) | (refine WK.t Tryz.func150 ?_ ?_ <;> simp (maxDischargeDepth := 120) [Tryz.results150, zA, aF, bne, *]))
 rw [if_neg (by omega)] at hdef
 have hnb : n ≤ b.length := by omega
 have d3 : ¬ (b.length : Int) < n := by omega
 have j1 : (n : Int) ≤ b.length := by omega
 have hBl : (b.take n).length = n := by rw [List.length_take]; omega
 obtain ⟨B, hB⟩ : ∃ B, b.take n = B := ⟨_, rfl⟩
 have t1 : (byL b).take n = byL B := by rw [byL_take, hB]
 have hdt : ∀ p q, q = n → ((byL b).drop p).take (q - p) = byL (B.drop p) := fun p q h => by
   subst h; rw [byL_drop, byL_take, ← hB, List.drop_take]
 rw [hB] at hdef hBl hge
 have hs := raset_c B (by omega) (by omega)
 have kn := raknown_c (k : Int)
 by_cases k5 : k = 25
 · subst k5
   rw [if_pos rfl] at hdef
   unfold byS at *
   rw [hBl] at hs
   obtain ⟨R, hR⟩ : ∃ R, aSetD B = R := ⟨_, rfl⟩
   rw [hR] at hs hdef
   obtain ⟨ra, rn, rf⟩ := R
   clear hR hge hdt hB hr
   refine FnP.i Tryz.func150 rfl rfl fun G w => ?_
   cases rf <;>
   · repeat' (first | apply WK.s | apply WK.k | refine WK.cT rfl ?_ | refine WK.cF rfl ?_ | (refine hQ.h _ _ ?_; clear hQ hA) | (refine WK.rH Tryz.ntmps150 (by kernel_rfl) ?_; intro A hA Q hQ; simp [aRes, Action.enc, Oxm.enc, oxm0, wideZ, uZ_, aF, aK_, bne, *]) | (refine RunQ.g rfl (by rw [hA.h]; rfl) ?_; simp [aRes, Action.enc, Oxm.enc, oxm0, wideZ, uZ_, aF, aK_, bne, *]) | (refine RunQ.k rfl rfl rfl rfl rfl ?_ (g1) ?_ ?_ <;> simp (maxDischargeDepth := 120) [aRes, Action.enc, Oxm.enc, oxm0, wideZ, uZ_, aF, aK_, bne, *] <;> refine ⟨?_⟩) | (refine RunQ.k rfl rfl rfl rfl rfl ?_ (g2) ?_ ?_ <;> simp (maxDischargeDepth := 120) [aRes, Action.enc, Oxm.enc, oxm0, wideZ, uZ_, aF, aK_, bne, *] <;> refine ⟨?_⟩) | (refine RunQ.k rfl rfl rfl rfl rfl ?_ (kn) ?_ ?_ <;> simp (maxDischargeDepth := 120) [aRes, Action.enc, Oxm.enc, oxm0, wideZ, uZ_, aF, aK_, bne, *] <;> refine ⟨?_⟩) | (refine RunQ.k rfl rfl rfl rfl rfl ?_ (hs) ?_ ?_ <;> simp (maxDischargeDepth := 120) [aRes, Action.enc, Oxm.enc, oxm0, wideZ, uZ_, aF, aK_, bne, *] <;> refine ⟨?_⟩) | (refine WK.t Tryz.func150 ?_ ?_ <;> simp (maxDischargeDepth := 120) [Tryz.results150, aRes, Action.enc, Oxm.enc, oxm0, wideZ, uZ_, aF, aK_, bne, *]))
 have d5 : ((k : Int) == 25) = false := by rw [beq_eq_false_iff_ne]; omega
 have d5' : ¬ (k : Int) = 25 := by omega
 rw [if_neg k5] at hdef
 by_cases k0 : k = 0
 · subst k0
   have hdef' : aDec b = if ¬ n = 16 then aBad 1 else if allZ (B.drop 10) = true then aPlain 0 B else aBad 5 := by rw [hdef, if_neg (by decide)]; rfl
   clear hdef hs
   have z16 : ((n : Int) == 16) = (n == 16) := by rw [Bool.eq_iff_iff, beq_iff_eq, beq_iff_eq]; omega
   by_cases k1 : n = 16
   case neg =>
     rw [if_pos k1] at hdef'
     have z16b : (n == 16) = false := by simpa using k1
     rw [z16b] at z16
     clear k1 hge hdt
     unfold byS at *
     refine FnP.i Tryz.func150 rfl rfl fun G w => ?_
     repeat' (first | apply WK.s | apply WK.k | refine WK.cT rfl ?_ | refine WK.cF rfl ?_ | (refine hQ.h _ _ ?_; clear hQ hA) | (refine WK.rH Tryz.ntmps150 (by kernel_rfl) ?_; intro A hA Q hQ; simp [zA, aF, aK_, bne, *]) | (refine RunQ.g rfl (by rw [hA.h]; rfl) ?_; simp [zA, aF, aK_, bne, *]) | (refine RunQ.k rfl rfl rfl rfl rfl ?_ (g1) ?_ ?_ <;> simp (maxDischargeDepth := 120) [zA, aF, aK_, bne, *] <;> refine ⟨?_⟩) | (refine RunQ.k rfl rfl rfl rfl rfl ?_ (g2) ?_ ?_ <;> simp (maxDischargeDepth := 120) [zA, aF, aK_, bne, *] <;> refine ⟨?_⟩) | (refine RunQ.k rfl rfl rfl rfl rfl ?_ (kn) ?_ ?_ <;> simp (maxDischargeDepth := 120) [zA, aF, aK_, bne, *] <;> refine ⟨?_⟩) | (refine RunQ.k rfl rfl rfl rfl rfl ?_ (b1) ?_ ?_ <;> simp (maxDischargeDepth := 120) [zA, aF, aK_, bne, *] <;> refine ⟨?_⟩) | (refine WK.t Tryz.func150 ?_ ?_ <;> simp (maxDischargeDepth := 120) [Tryz.results150, zA, aF, aK_, bne, *]))
   subst k1
   rw [if_neg (by simp)] at hdef'
   have hz := rnoughts_c (B.drop 10) (by rw [List.length_drop]; omega)
   have hsl := hdt 10 16 rfl
   have e3 := hge 4 4 (by omega) hnb
   have e4 := hge 8 2 (by omega) hnb
   rw [e3] at g3
   rw [e4] at g4
   have hr := raright_c (aOf 0 B)
   unfold byS at *
   rw [List.length_drop, hBl] at hz
   obtain ⟨E5, hE5⟩ : ∃ E5, B.drop 10 = E5 := ⟨_, rfl⟩
   rw [hE5] at hz hsl hdef'
   clear hge hdt hE5 e3 e4 hB z16
   refine FnP.i Tryz.func150 rfl rfl fun G w => ?_
   cases kz : allZ E5
   · rw [kz, if_neg Bool.false_ne_true] at hdef'
     clear hr
     repeat' (first | apply WK.s | apply WK.b | apply WK.k | refine WK.cT rfl ?_ | refine WK.cF rfl ?_ | (refine hQ.h _ _ ?_; clear hQ hA) | (refine WK.c2 rfl (fun h => ?_) (fun h => ?_) <;> (first | (simp [*] at h; done) | (have h2 := h; simp at h2; exfalso; omega) | (have h2 := h; simp at h2; try simp only [Bool.not_eq_true', Bool.not_eq_false'] at h) | skip)) | (refine WK.rH Tryz.ntmps150 (by kernel_rfl) ?_; intro A hA Q hQ; simp [zA, aF, aK_, bne, *]) | (refine RunQ.g rfl (by rw [hA.h]; rfl) ?_; simp [zA, aF, aK_, bne, *]) | (refine RunQ.k rfl rfl rfl rfl rfl ?_ (g1) ?_ ?_ <;> simp (maxDischargeDepth := 120) [zA, aF, aK_, bne, *] <;> refine ⟨?_⟩) | (refine RunQ.k rfl rfl rfl rfl rfl ?_ (g2) ?_ ?_ <;> simp (maxDischargeDepth := 120) [zA, aF, aK_, bne, *] <;> refine ⟨?_⟩) | (refine RunQ.k rfl rfl rfl rfl rfl ?_ (kn) ?_ ?_ <;> simp (maxDischargeDepth := 120) [zA, aF, aK_, bne, *] <;> refine ⟨?_⟩) | (refine RunQ.k rfl rfl rfl rfl rfl ?_ (b5) ?_ ?_ <;> simp (maxDischargeDepth := 120) [zA, aF, aK_, bne, *] <;> refine ⟨?_⟩) | (refine RunQW.k rfl rfl rfl rfl ?_ (hz) ?_ ?_ <;> simp (maxDischargeDepth := 120) [zA, aF, aK_, bne, *] <;> refine ⟨?_⟩) | (refine WK.t Tryz.func150 ?_ ?_ <;> simp (maxDischargeDepth := 120) [Tryz.results150, zA, aF, aK_, bne, *]))
   rw [kz, if_pos rfl] at hdef'
   cases hg : aGoes (getN B 4 4).1
   · have e : aDec b = aBad 4 := by rw [hdef']; unfold aPlain; rw [if_pos ⟨rfl, hg⟩]
     clear hr hdef'
     repeat' (first | apply WK.s | apply WK.b | apply WK.k | refine WK.cT rfl ?_ | refine WK.cF rfl ?_ | (refine hQ.h _ _ ?_; clear hQ hA) | (refine WK.c2 rfl (fun h => ?_) (fun h => ?_) <;> (first | (simp [*] at h; done) | (have h2 := h; simp at h2; exfalso; omega) | (have h2 := h; simp at h2; try simp only [Bool.not_eq_true', Bool.not_eq_false'] at h) | skip)) | (refine WK.rH Tryz.ntmps150 (by kernel_rfl) ?_; intro A hA Q hQ; simp [zA, aF, aK_, bne, *]) | (refine RunQ.g rfl (by rw [hA.h]; rfl) ?_; simp [zA, aF, aK_, bne, *]) | (refine RunQ.k rfl rfl rfl rfl rfl ?_ (g1) ?_ ?_ <;> simp (maxDischargeDepth := 120) [zA, aF, aK_, bne, *] <;> refine ⟨?_⟩) | (refine RunQ.k rfl rfl rfl rfl rfl ?_ (g2) ?_ ?_ <;> simp (maxDischargeDepth := 120) [zA, aF, aK_, bne, *] <;> refine ⟨?_⟩) | (refine RunQ.k rfl rfl rfl rfl rfl ?_ (kn) ?_ ?_ <;> simp (maxDischargeDepth := 120) [zA, aF, aK_, bne, *] <;> refine ⟨?_⟩) | (refine RunQ.k rfl rfl rfl rfl rfl ?_ (g3) ?_ ?_ <;> simp (maxDischargeDepth := 120) [zA, aF, aK_, bne, *] <;> refine ⟨?_⟩) | (refine RunQ.k rfl rfl rfl rfl rfl ?_ (g4) ?_ ?_ <;> simp (maxDischargeDepth := 120) [zA, aF, aK_, bne, *] <;> refine ⟨?_⟩) | (refine RunQ.k rfl rfl rfl rfl rfl ?_ (ragoes_c (getN B 4 4).1) ?_ ?_ <;> simp (maxDischargeDepth := 120) [zA, aF, aK_, bne, *] <;> refine ⟨?_⟩) | (refine RunQ.k rfl rfl rfl rfl rfl ?_ (b4) ?_ ?_ <;> simp (maxDischargeDepth := 120) [zA, aF, aK_, bne, *] <;> refine ⟨?_⟩) | (refine RunQW.k rfl rfl rfl rfl ?_ (hz) ?_ ?_ <;> simp (maxDischargeDepth := 120) [zA, aF, aK_, bne, *] <;> refine ⟨?_⟩) | (refine WK.t Tryz.func150 ?_ ?_ <;> simp (maxDischargeDepth := 120) [Tryz.results150, zA, aF, aK_, bne, *]))
   obtain ⟨q, hre⟩ : ∃ q, Action.right (aOf 0 B) = q := ⟨_, rfl⟩
   have e : aDec b = if q = true then (aOf 0 B, (B.length : Int), none) else aBad 5 := by rw [hdef']; unfold aPlain; rw [if_neg (by simp [hg]), hre]; rfl
   rw [hre] at hr
   simp only [aOf, if_pos rfl, Action.enc, oxm0, wideZ, uZ_] at hr
   clear hre hdef'
   cases q
   · repeat' (first | apply WK.s | apply WK.b | apply WK.n | apply WK.k | refine WK.cT rfl ?_ | refine WK.cF rfl ?_ | (refine hQ.h _ _ ?_; clear hQ hA) | (refine WK.c2 rfl (fun h => ?_) (fun h => ?_) <;> (first | (simp [*] at h; done) | (have h2 := h; simp at h2; exfalso; omega) | (have h2 := h; simp at h2; try simp only [Bool.not_eq_true', Bool.not_eq_false'] at h) | skip)) | (refine WK.rH Tryz.ntmps150 (by kernel_rfl) ?_; intro A hA Q hQ; simp [zA, aF, aK_, bne, *]) | (refine RunQ.g rfl (by rw [hA.h]; rfl) ?_; simp [zA, aF, aK_, bne, *]) | (refine RunQ.k rfl rfl rfl rfl rfl ?_ (g1) ?_ ?_ <;> simp (maxDischargeDepth := 120) [zA, aF, aK_, bne, *] <;> refine ⟨?_⟩) | (refine RunQ.k rfl rfl rfl rfl rfl ?_ (g2) ?_ ?_ <;> simp (maxDischargeDepth := 120) [zA, aF, aK_, bne, *] <;> refine ⟨?_⟩) | (refine RunQ.k rfl rfl rfl rfl rfl ?_ (kn) ?_ ?_ <;> simp (maxDischargeDepth := 120) [zA, aF, aK_, bne, *] <;> refine ⟨?_⟩) | (refine RunQ.k rfl rfl rfl rfl rfl ?_ (g3) ?_ ?_ <;> simp (maxDischargeDepth := 120) [zA, aF, aK_, bne, *] <;> refine ⟨?_⟩) | (refine RunQ.k rfl rfl rfl rfl rfl ?_ (g4) ?_ ?_ <;> simp (maxDischargeDepth := 120) [zA, aF, aK_, bne, *] <;> refine ⟨?_⟩) | (refine RunQ.k rfl rfl rfl rfl rfl ?_ (ragoes_c (getN B 4 4).1) ?_ ?_ <;> simp (maxDischargeDepth := 120) [zA, aF, aK_, bne, *] <;> refine ⟨?_⟩) | (refine RunQ.k rfl rfl rfl rfl rfl ?_ (hr) ?_ ?_ <;> simp (maxDischargeDepth := 120) [zA, aF, aK_, bne, *] <;> refine ⟨?_⟩) | (refine RunQ.k rfl rfl rfl rfl rfl ?_ (b5) ?_ ?_ <;> simp (maxDischargeDepth := 120) [zA, aF, aK_, bne, *] <;> refine ⟨?_⟩) | (refine RunQW.k rfl rfl rfl rfl ?_ (hz) ?_ ?_ <;> simp (maxDischargeDepth := 120) [zA, aF, aK_, bne, *] <;> refine ⟨?_⟩) | (refine WK.t Tryz.func150 ?_ ?_ <;> simp (maxDischargeDepth := 120) [Tryz.results150, zA, aF, aK_, bne, *]))
   · repeat' (first | apply WK.s | apply WK.b | apply WK.n | apply WK.k | refine WK.cT rfl ?_ | refine WK.cF rfl ?_ | (refine hQ.h _ _ ?_; clear hQ hA) | (refine WK.c2 rfl (fun h => ?_) (fun h => ?_) <;> (first | (simp [*] at h; done) | (have h2 := h; simp at h2; exfalso; omega) | (have h2 := h; simp at h2; try simp only [Bool.not_eq_true', Bool.not_eq_false'] at h) | skip)) | (refine WK.rH Tryz.ntmps150 (by kernel_rfl) ?_; intro A hA Q hQ; simp [zA, aF, aK_, bne, *]) | (refine RunQ.g rfl (by rw [hA.h]; rfl) ?_; simp [zA, aF, aK_, bne, *]) | (refine RunQ.k rfl rfl rfl rfl rfl ?_ (g1) ?_ ?_ <;> simp (maxDischargeDepth := 120) [zA, aF, aK_, bne, *] <;> refine ⟨?_⟩) | (refine RunQ.k rfl rfl rfl rfl rfl ?_ (g2) ?_ ?_ <;> simp (maxDischargeDepth := 120) [zA, aF, aK_, bne, *] <;> refine ⟨?_⟩) | (refine RunQ.k rfl rfl rfl rfl rfl ?_ (kn) ?_ ?_ <;> simp (maxDischargeDepth := 120) [zA, aF, aK_, bne, *] <;> refine ⟨?_⟩) | (refine RunQ.k rfl rfl rfl rfl rfl ?_ (g3) ?_ ?_ <;> simp (maxDischargeDepth := 120) [zA, aF, aK_, bne, *] <;> refine ⟨?_⟩) | (refine RunQ.k rfl rfl rfl rfl rfl ?_ (g4) ?_ ?_ <;> simp (maxDischargeDepth := 120) [zA, aF, aK_, bne, *] <;> refine ⟨?_⟩) | (refine RunQ.k rfl rfl rfl rfl rfl ?_ (ragoes_c (getN B 4 4).1) ?_ ?_ <;> simp (maxDischargeDepth := 120) [zA, aF, aK_, bne, *] <;> refine ⟨?_⟩) | (refine RunQ.k rfl rfl rfl rfl rfl ?_ (hr) ?_ ?_ <;> simp (maxDischargeDepth := 120) [zA, aF, aK_, bne, *] <;> refine ⟨?_⟩) | (refine RunQW.k rfl rfl rfl rfl ?_ (hz) ?_ ?_ <;> simp (maxDischargeDepth := 120) [zA, aF, aK_, bne, *] <;> refine ⟨?_⟩) | (refine WK.t Tryz.func150 ?_ ?_ <;> simp (maxDischargeDepth := 120) [Tryz.results150, zA, aF, aK_, bne, aOf, *]))
 have d0 : ((k : Int) == 0) = false := by rw [beq_eq_false_iff_ne]; omega
 have d0' : ¬ (k : Int) = 0 := by omega
 have z8 : ((n : Int) == 8) = (n == 8) := by rw [Bool.eq_iff_iff, beq_iff_eq, beq_iff_eq]; omega
 by_cases hw : (aLength (k : Int)).1 = 8
 case neg =>
   have hkk : ¬ k = 22 ∧ ¬ k = 17 ∧ ¬ k = 18 := by
     refine ⟨?_, ?_, ?_⟩ <;> (intro h; subst h; exact hw rfl)
   have hw0 : (aLength (k : Int)).1 = 0 := by
     unfold aLength; rw [if_neg (by omega), if_neg (by omega), if_neg (by omega), if_neg (by omega)]
   have hkn : aK_ k = false := by
     unfold aK_
     have e1 : ((k : Int) == 22) = false := by rw [beq_eq_false_iff_ne]; omega
     have e2 : ((k : Int) == 17) = false := by rw [beq_eq_false_iff_ne]; omega
     have e3 : ((k : Int) == 18) = false := by rw [beq_eq_false_iff_ne]; omega
     rw [d0, e1, e2, e3, d5]; rfl
   rw [if_pos hw0] at hdef
   rw [hkn] at kn
   clear hge hdt hs hw hw0
   unfold byS at *
   refine FnP.i Tryz.func150 rfl rfl fun G w => ?_
   repeat' (first | apply WK.s | apply WK.k | refine WK.cT rfl ?_ | refine WK.cF rfl ?_ | (refine hQ.h _ _ ?_; clear hQ hA) | (refine WK.rH Tryz.ntmps150 (by kernel_rfl) ?_; intro A hA Q hQ; simp [zA, aF, bne, *]) | (refine RunQ.g rfl (by rw [hA.h]; rfl) ?_; simp [zA, aF, bne, *]) | (refine RunQ.k rfl rfl rfl rfl rfl ?_ (g1) ?_ ?_ <;> simp (maxDischargeDepth := 120) [zA, aF, bne, *] <;> refine ⟨?_⟩) | (refine RunQ.k rfl rfl rfl rfl rfl ?_ (g2) ?_ ?_ <;> simp (maxDischargeDepth := 120) [zA, aF, bne, *] <;> refine ⟨?_⟩) | (refine RunQ.k rfl rfl rfl rfl rfl ?_ (kn) ?_ ?_ <;> simp (maxDischargeDepth := 120) [zA, aF, bne, *] <;> refine ⟨?_⟩) | (refine RunQ.k rfl rfl rfl rfl rfl ?_ (b0) ?_ ?_ <;> simp (maxDischargeDepth := 120) [zA, aF, bne, *] <;> refine ⟨?_⟩) | (refine WK.t Tryz.func150 ?_ ?_ <;> simp (maxDischargeDepth := 120) [Tryz.results150, zA, aF, bne, *]))
 have hkk : k = 22 ∨ k = 17 ∨ k = 18 := by
   unfold aLength at hw
   rw [if_neg (by omega)] at hw
   split at hw
   · omega
   split at hw
   · omega
   split at hw
   · omega
   · cases hw
 rw [hw, if_neg (by decide)] at hdef
 by_cases k1 : n = 8
 case neg =>
   rw [if_pos k1] at hdef
   have z8b : (n == 8) = false := by simpa using k1
   rw [z8b] at z8
   have hkn : aK_ k = true := by rcases hkk with rfl | rfl | rfl <;> rfl
   rw [hkn] at kn
   clear k1 hge hdt hs hw hkk
   unfold byS at *
   refine FnP.i Tryz.func150 rfl rfl fun G w => ?_
   repeat' (first | apply WK.s | apply WK.k | refine WK.cT rfl ?_ | refine WK.cF rfl ?_ | (refine hQ.h _ _ ?_; clear hQ hA) | (refine WK.rH Tryz.ntmps150 (by kernel_rfl) ?_; intro A hA Q hQ; simp [zA, aF, bne, *]) | (refine RunQ.g rfl (by rw [hA.h]; rfl) ?_; simp [zA, aF, bne, *]) | (refine RunQ.k rfl rfl rfl rfl rfl ?_ (g1) ?_ ?_ <;> simp (maxDischargeDepth := 120) [zA, aF, bne, *] <;> refine ⟨?_⟩) | (refine RunQ.k rfl rfl rfl rfl rfl ?_ (g2) ?_ ?_ <;> simp (maxDischargeDepth := 120) [zA, aF, bne, *] <;> refine ⟨?_⟩) | (refine RunQ.k rfl rfl rfl rfl rfl ?_ (kn) ?_ ?_ <;> simp (maxDischargeDepth := 120) [zA, aF, bne, *] <;> refine ⟨?_⟩) | (refine RunQ.k rfl rfl rfl rfl rfl ?_ (b1) ?_ ?_ <;> simp (maxDischargeDepth := 120) [zA, aF, bne, *] <;> refine ⟨?_⟩) | (refine WK.t Tryz.func150 ?_ ?_ <;> simp (maxDischargeDepth := 120) [Tryz.results150, zA, aF, bne, *]))
 subst k1
 rw [if_neg (by simp)] at hdef
 have e3 := hge 4 4 (by omega) hnb
 have e5 := hge 4 2 (by omega) hnb
 rw [e3] at g3
 rw [e5] at g5
 have hr := raright_c (aOf k B)
 obtain ⟨q, hre⟩ : ∃ q, Action.right (aOf k B) = q := ⟨_, rfl⟩
 rw [hre] at hr
 have hgn := getN_nonneg B 4 4
 have s6 := hdt 6 8 rfl
 have s4 := hdt 4 8 rfl
 have hz6 := rnoughts_c (B.drop 6) (by rw [List.length_drop]; omega)
 have hz4 := rnoughts_c (B.drop 4) (by rw [List.length_drop]; omega)
 unfold byS at *
 rw [List.length_drop, hBl] at hz4 hz6
 clear hge hdt hs hw e3 e5 hB z8
 have j8b : (8 : Int) ≤ b.length := by omega
 rcases hkk with rfl | rfl | rfl
 · have hz8 : allZ (B.drop 8) = true := by rw [List.drop_of_length_le (by omega)]; rfl
   have hrg : q = decide ((getN B 4 4).1 ≤ 4294967040) := by rw [← hre]; exact aright_group hgn
   have e : aDec b = if q = true then (aOf 22 B, (B.length : Int), none) else aBad 9 := by
     rw [hdef]
     show (if allZ (B.drop 8) = true then aPlain 22 B else aBad 5) = _
     have hre' : Action.right (aOf 22 B) = q := hre
     rw [hz8, if_pos rfl]; unfold aPlain; rw [if_neg (by simp), hre']; rfl
   simp only [aOf, if_neg k0, if_pos rfl, Action.enc, oxm0, wideZ, uZ_] at hr
   clear hdef hre hz6 hz4 s6 s4 hz8
   refine FnP.i Tryz.func150 rfl rfl fun G w => ?_
   cases q
   · have hgt : 4294967040 < (getN B 4 4).1 := by have := of_decide_eq_false hrg.symm; omega
     clear hrg
     repeat' (first | apply WK.s | apply WK.b | apply WK.k | refine WK.cT rfl ?_ | refine WK.cF rfl ?_ | (refine hQ.h _ _ ?_; clear hQ hA) | (refine WK.rH Tryz.ntmps150 (by kernel_rfl) ?_; intro A hA Q hQ; simp [zA, aF, aK_, bne, *]) | (refine RunQ.g rfl (by rw [hA.h]; rfl) ?_; simp [zA, aF, aK_, bne, *]) | (refine RunQ.k rfl rfl rfl rfl rfl ?_ (g1) ?_ ?_ <;> simp (maxDischargeDepth := 120) [zA, aF, aK_, bne, *] <;> refine ⟨?_⟩) | (refine RunQ.k rfl rfl rfl rfl rfl ?_ (g2) ?_ ?_ <;> simp (maxDischargeDepth := 120) [zA, aF, aK_, bne, *] <;> refine ⟨?_⟩) | (refine RunQ.k rfl rfl rfl rfl rfl ?_ (kn) ?_ ?_ <;> simp (maxDischargeDepth := 120) [zA, aF, aK_, bne, *] <;> refine ⟨?_⟩) | (refine RunQ.k rfl rfl rfl rfl rfl ?_ (g3) ?_ ?_ <;> simp (maxDischargeDepth := 120) [zA, aF, aK_, bne, *] <;> refine ⟨?_⟩) | (refine RunQ.k rfl rfl rfl rfl rfl ?_ (b9) ?_ ?_ <;> simp (maxDischargeDepth := 120) [zA, aF, aK_, bne, *] <;> refine ⟨?_⟩) | (refine WK.t Tryz.func150 ?_ ?_ <;> simp (maxDischargeDepth := 120) [Tryz.results150, zA, aF, aK_, bne, *]))
   · have hgt : ¬ 4294967040 < (getN B 4 4).1 := by have := of_decide_eq_true hrg.symm; omega
     clear hrg
     repeat' (first | apply WK.s | apply WK.b | apply WK.n | apply WK.k | refine WK.cT rfl ?_ | refine WK.cF rfl ?_ | (refine hQ.h _ _ ?_; clear hQ hA) | (refine WK.rH Tryz.ntmps150 (by kernel_rfl) ?_; intro A hA Q hQ; simp [zA, aF, aK_, bne, *]) | (refine RunQ.g rfl (by rw [hA.h]; rfl) ?_; simp [zA, aF, aK_, bne, *]) | (refine RunQ.k rfl rfl rfl rfl rfl ?_ (g1) ?_ ?_ <;> simp (maxDischargeDepth := 120) [zA, aF, aK_, bne, *] <;> refine ⟨?_⟩) | (refine RunQ.k rfl rfl rfl rfl rfl ?_ (g2) ?_ ?_ <;> simp (maxDischargeDepth := 120) [zA, aF, aK_, bne, *] <;> refine ⟨?_⟩) | (refine RunQ.k rfl rfl rfl rfl rfl ?_ (kn) ?_ ?_ <;> simp (maxDischargeDepth := 120) [zA, aF, aK_, bne, *] <;> refine ⟨?_⟩) | (refine RunQ.k rfl rfl rfl rfl rfl ?_ (g3) ?_ ?_ <;> simp (maxDischargeDepth := 120) [zA, aF, aK_, bne, *] <;> refine ⟨?_⟩) | (refine RunQ.k rfl rfl rfl rfl rfl ?_ (hr) ?_ ?_ <;> simp (maxDischargeDepth := 120) [zA, aF, aK_, bne, *] <;> refine ⟨?_⟩) | (refine WK.t Tryz.func150 ?_ ?_ <;> simp (maxDischargeDepth := 120) [Tryz.results150, zA, aF, aK_, bne, aOf, *]))
 · have e : aDec b = if allZ (B.drop 6) = true then (if q = true then (aOf 17 B, (B.length : Int), none) else aBad 5) else aBad 5 := by
     rw [hdef]
     have hre' : Action.right (aOf 17 B) = q := hre
     have hpl : aPlain 17 B = if q = true then (aOf 17 B, (B.length : Int), none) else aBad 5 := by unfold aPlain; rw [if_neg (by simp), hre']; rfl
     show (if allZ (B.drop 6) = true then aPlain 17 B else aBad 5) = _
     rw [hpl]
   simp only [aOf, if_neg k0, if_neg (show ¬ ((17 : Nat) : Int) = 22 by decide), if_pos rfl, Action.enc, oxm0, wideZ, uZ_] at hr
   obtain ⟨E6, hE6⟩ : ∃ E6, B.drop 6 = E6 := ⟨_, rfl⟩
   rw [hE6] at hz6 s6 e
   clear hdef hre hz4 s4 hE6
   refine FnP.i Tryz.func150 rfl rfl fun G w => ?_
   cases kz : allZ E6
   · rw [kz, if_neg Bool.false_ne_true] at e
     repeat' (first | apply WK.s | apply WK.b | apply WK.k | refine WK.cT rfl ?_ | refine WK.cF rfl ?_ | (refine hQ.h _ _ ?_; clear hQ hA) | (refine WK.rH Tryz.ntmps150 (by kernel_rfl) ?_; intro A hA Q hQ; simp [zA, aF, aK_, bne, *]) | (refine RunQ.g rfl (by rw [hA.h]; rfl) ?_; simp [zA, aF, aK_, bne, *]) | (refine RunQ.k rfl rfl rfl rfl rfl ?_ (g1) ?_ ?_ <;> simp (maxDischargeDepth := 120) [zA, aF, aK_, bne, *] <;> refine ⟨?_⟩) | (refine RunQ.k rfl rfl rfl rfl rfl ?_ (g2) ?_ ?_ <;> simp (maxDischargeDepth := 120) [zA, aF, aK_, bne, *] <;> refine ⟨?_⟩) | (refine RunQ.k rfl rfl rfl rfl rfl ?_ (kn) ?_ ?_ <;> simp (maxDischargeDepth := 120) [zA, aF, aK_, bne, *] <;> refine ⟨?_⟩) | (refine RunQ.k rfl rfl rfl rfl rfl ?_ (b5) ?_ ?_ <;> simp (maxDischargeDepth := 120) [zA, aF, aK_, bne, *] <;> refine ⟨?_⟩) | (refine RunQW.k rfl rfl rfl rfl ?_ (hz6) ?_ ?_ <;> simp (maxDischargeDepth := 120) [zA, aF, aK_, bne, *] <;> refine ⟨?_⟩) | (refine WK.t Tryz.func150 ?_ ?_ <;> simp (maxDischargeDepth := 120) [Tryz.results150, zA, aF, aK_, bne, *]))
   rw [kz, if_pos rfl] at e
   cases q
   · repeat' (first | apply WK.s | apply WK.b | apply WK.n | apply WK.k | refine WK.cT rfl ?_ | refine WK.cF rfl ?_ | (refine hQ.h _ _ ?_; clear hQ hA) | (refine WK.rH Tryz.ntmps150 (by kernel_rfl) ?_; intro A hA Q hQ; simp [zA, aF, aK_, bne, *]) | (refine RunQ.g rfl (by rw [hA.h]; rfl) ?_; simp [zA, aF, aK_, bne, *]) | (refine RunQ.k rfl rfl rfl rfl rfl ?_ (g1) ?_ ?_ <;> simp (maxDischargeDepth := 120) [zA, aF, aK_, bne, *] <;> refine ⟨?_⟩) | (refine RunQ.k rfl rfl rfl rfl rfl ?_ (g2) ?_ ?_ <;> simp (maxDischargeDepth := 120) [zA, aF, aK_, bne, *] <;> refine ⟨?_⟩) | (refine RunQ.k rfl rfl rfl rfl rfl ?_ (kn) ?_ ?_ <;> simp (maxDischargeDepth := 120) [zA, aF, aK_, bne, *] <;> refine ⟨?_⟩) | (refine RunQ.k rfl rfl rfl rfl rfl ?_ (g5) ?_ ?_ <;> simp (maxDischargeDepth := 120) [zA, aF, aK_, bne, *] <;> refine ⟨?_⟩) | (refine RunQ.k rfl rfl rfl rfl rfl ?_ (hr) ?_ ?_ <;> simp (maxDischargeDepth := 120) [zA, aF, aK_, bne, *] <;> refine ⟨?_⟩) | (refine RunQ.k rfl rfl rfl rfl rfl ?_ (b5) ?_ ?_ <;> simp (maxDischargeDepth := 120) [zA, aF, aK_, bne, *] <;> refine ⟨?_⟩) | (refine RunQW.k rfl rfl rfl rfl ?_ (hz6) ?_ ?_ <;> simp (maxDischargeDepth := 120) [zA, aF, aK_, bne, *] <;> refine ⟨?_⟩) | (refine WK.t Tryz.func150 ?_ ?_ <;> simp (maxDischargeDepth := 120) [Tryz.results150, zA, aF, aK_, bne, *]))
   · repeat' (first | apply WK.s | apply WK.b | apply WK.n | apply WK.k | refine WK.cT rfl ?_ | refine WK.cF rfl ?_ | (refine hQ.h _ _ ?_; clear hQ hA) | (refine WK.rH Tryz.ntmps150 (by kernel_rfl) ?_; intro A hA Q hQ; simp [zA, aF, aK_, bne, *]) | (refine RunQ.g rfl (by rw [hA.h]; rfl) ?_; simp [zA, aF, aK_, bne, *]) | (refine RunQ.k rfl rfl rfl rfl rfl ?_ (g1) ?_ ?_ <;> simp (maxDischargeDepth := 120) [zA, aF, aK_, bne, *] <;> refine ⟨?_⟩) | (refine RunQ.k rfl rfl rfl rfl rfl ?_ (g2) ?_ ?_ <;> simp (maxDischargeDepth := 120) [zA, aF, aK_, bne, *] <;> refine ⟨?_⟩) | (refine RunQ.k rfl rfl rfl rfl rfl ?_ (kn) ?_ ?_ <;> simp (maxDischargeDepth := 120) [zA, aF, aK_, bne, *] <;> refine ⟨?_⟩) | (refine RunQ.k rfl rfl rfl rfl rfl ?_ (g5) ?_ ?_ <;> simp (maxDischargeDepth := 120) [zA, aF, aK_, bne, *] <;> refine ⟨?_⟩) | (refine RunQ.k rfl rfl rfl rfl rfl ?_ (hr) ?_ ?_ <;> simp (maxDischargeDepth := 120) [zA, aF, aK_, bne, *] <;> refine ⟨?_⟩) | (refine RunQW.k rfl rfl rfl rfl ?_ (hz6) ?_ ?_ <;> simp (maxDischargeDepth := 120) [zA, aF, aK_, bne, *] <;> refine ⟨?_⟩) | (refine WK.t Tryz.func150 ?_ ?_ <;> simp (maxDischargeDepth := 120) [Tryz.results150, zA, aF, aK_, bne, aOf, *]))
 · have e : aDec b = if allZ (B.drop 4) = true then (if q = true then (aOf 18 B, (B.length : Int), none) else aBad 5) else aBad 5 := by
     rw [hdef]
     have hre' : Action.right (aOf 18 B) = q := hre
     have hpl : aPlain 18 B = if q = true then (aOf 18 B, (B.length : Int), none) else aBad 5 := by unfold aPlain; rw [if_neg (by simp), hre']; rfl
     show (if allZ (B.drop 4) = true then aPlain 18 B else aBad 5) = _
     rw [hpl]
   simp only [aOf, if_neg k0, if_neg (show ¬ ((18 : Nat) : Int) = 22 by decide), if_neg (show ¬ ((18 : Nat) : Int) = 17 by decide), Action.enc, oxm0, wideZ, uZ_] at hr
   obtain ⟨E6, hE6⟩ : ∃ E6, B.drop 4 = E6 := ⟨_, rfl⟩
   rw [hE6] at hz4 s4 e
   clear hdef hre hz6 s6 hE6
   refine FnP.i Tryz.func150 rfl rfl fun G w => ?_
   cases kz : allZ E6
   · rw [kz, if_neg Bool.false_ne_true] at e
     repeat' (first | apply WK.s | apply WK.b | apply WK.k | refine WK.cT rfl ?_ | refine WK.cF rfl ?_ | (refine hQ.h _ _ ?_; clear hQ hA) | (refine WK.rH Tryz.ntmps150 (by kernel_rfl) ?_; intro A hA Q hQ; simp [zA, aF, aK_, bne, *]) | (refine RunQ.g rfl (by rw [hA.h]; rfl) ?_; simp [zA, aF, aK_, bne, *]) | (refine RunQ.k rfl rfl rfl rfl rfl ?_ (g1) ?_ ?_ <;> simp (maxDischargeDepth := 120) [zA, aF, aK_, bne, *] <;> refine ⟨?_⟩) | (refine RunQ.k rfl rfl rfl rfl rfl ?_ (g2) ?_ ?_ <;> simp (maxDischargeDepth := 120) [zA, aF, aK_, bne, *] <;> refine ⟨?_⟩) | (refine RunQ.k rfl rfl rfl rfl rfl ?_ (kn) ?_ ?_ <;> simp (maxDischargeDepth := 120) [zA, aF, aK_, bne, *] <;> refine ⟨?_⟩) | (refine RunQ.k rfl rfl rfl rfl rfl ?_ (b5) ?_ ?_ <;> simp (maxDischargeDepth := 120) [zA, aF, aK_, bne, *] <;> refine ⟨?_⟩) | (refine RunQW.k rfl rfl rfl rfl ?_ (hz4) ?_ ?_ <;> simp (maxDischargeDepth := 120) [zA, aF, aK_, bne, *] <;> refine ⟨?_⟩) | (refine WK.t Tryz.func150 ?_ ?_ <;> simp (maxDischargeDepth := 120) [Tryz.results150, zA, aF, aK_, bne, *]))
   rw [kz, if_pos rfl] at e
   cases q
   · repeat' (first | apply WK.s | apply WK.b | apply WK.n | apply WK.k | refine WK.cT rfl ?_ | refine WK.cF rfl ?_ | (refine hQ.h _ _ ?_; clear hQ hA) | (refine WK.rH Tryz.ntmps150 (by kernel_rfl) ?_; intro A hA Q hQ; simp [zA, aF, aK_, bne, *]) | (refine RunQ.g rfl (by rw [hA.h]; rfl) ?_; simp [zA, aF, aK_, bne, *]) | (refine RunQ.k rfl rfl rfl rfl rfl ?_ (g1) ?_ ?_ <;> simp (maxDischargeDepth := 120) [zA, aF, aK_, bne, *] <;> refine ⟨?_⟩) | (refine RunQ.k rfl rfl rfl rfl rfl ?_ (g2) ?_ ?_ <;> simp (maxDischargeDepth := 120) [zA, aF, aK_, bne, *] <;> refine ⟨?_⟩) | (refine RunQ.k rfl rfl rfl rfl rfl ?_ (kn) ?_ ?_ <;> simp (maxDischargeDepth := 120) [zA, aF, aK_, bne, *] <;> refine ⟨?_⟩) | (refine RunQ.k rfl rfl rfl rfl rfl ?_ (hr) ?_ ?_ <;> simp (maxDischargeDepth := 120) [zA, aF, aK_, bne, *] <;> refine ⟨?_⟩) | (refine RunQ.k rfl rfl rfl rfl rfl ?_ (b5) ?_ ?_ <;> simp (maxDischargeDepth := 120) [zA, aF, aK_, bne, *] <;> refine ⟨?_⟩) | (refine RunQW.k rfl rfl rfl rfl ?_ (hz4) ?_ ?_ <;> simp (maxDischargeDepth := 120) [zA, aF, aK_, bne, *] <;> refine ⟨?_⟩) | (refine WK.t Tryz.func150 ?_ ?_ <;> simp (maxDischargeDepth := 120) [Tryz.results150, zA, aF, aK_, bne, *]))
   · repeat' (first | apply WK.s | apply WK.b | apply WK.n | apply WK.k | refine WK.cF rfl ?_ | (refine hQ.h _ _ ?_; clear hQ hA) | (refine WK.rH Tryz.ntmps150 (by kernel_rfl) ?_; intro A hA Q hQ; simp [zA, aF, aK_, bne, *]) | (refine RunQ.g rfl (by rw [hA.h]; rfl) ?_; simp [zA, aF, aK_, bne, *]) | (refine RunQ.k rfl rfl rfl rfl rfl ?_ (g1) ?_ ?_ <;> simp (maxDischargeDepth := 120) [zA, aF, aK_, bne, *] <;> refine ⟨?_⟩) | (refine RunQ.k rfl rfl rfl rfl rfl ?_ (g2) ?_ ?_ <;> simp (maxDischargeDepth := 120) [zA, aF, aK_, bne, *] <;> refine ⟨?_⟩) | (refine RunQ.k rfl rfl rfl rfl rfl ?_ (kn) ?_ ?_ <;> simp (maxDischargeDepth := 120) [zA, aF, aK_, bne, *] <;> refine ⟨?_⟩) | (refine RunQ.k rfl rfl rfl rfl rfl ?_ (hr) ?_ ?_ <;> simp (maxDischargeDepth := 120) [zA, aF, aK_, bne, *] <;> refine ⟨?_⟩) | (refine RunQW.k rfl rfl rfl rfl ?_ (hz4) ?_ ?_ <;> simp (maxDischargeDepth := 120) [zA, aF, aK_, bne, *] <;> refine ⟨?_⟩) | (refine WK.t Tryz.func150 ?_ ?_ <;> simp (maxDischargeDepth := 120) [Tryz.results150, zA, aF, aK_, bne, aOf, *]))

theorem aencP_c (a : Action) : FnP Tryz.prog 243 [.agg a.enc] (.tup [byS (aEnc a).1, .int .i64 (aEnc a).2]) := by
 have h := (aenc_c a).toP (by simp [byL_take]) (by rfl)
 rwa [Nat.mul_one, by_full _ _ rfl] at h
theorem aEnc_len (a : Action) : (aEnc a).1.length ≤ 60 := by
 unfold aEnc
 split
 · have h1 := aPad_len a
   have h2 := aLen_le _ (aBody_len a)
   have l1 := putN_len [] a.kind 2
   have l2 := putN_len (putN [] a.kind 2) (aLen (aBody a).length : Nat) 2
   simp only [List.length_append, List.length_nil] at l1 ⊢
   omega
 · simp
end Go.Proofs.YtcccfbjkcahgfaaGreat

namespace Go.Proofs.YtcccfbjkcahgfaaGreat
open Go Go.AI Go.Proofs
theorem beN_snoc (n : Int) (x : BitVec 8) (s : Nat) : beN (n * 256 + x.toNat) (s + 1) = beN n s ++ [x] := by
 have hx := x.isLt
 unfold beN
 rw [List.range_succ, List.map_append]
 congr 1
 · refine List.map_congr_left fun i hi => ?_
   rw [List.mem_range] at hi
   congr 1
   have e : (2 : Int) ^ (8 * (s + 1 - 1 - i)) = 256 * 2 ^ (8 * (s - 1 - i)) := by
     rw [show 8 * (s + 1 - 1 - i) = 8 + 8 * (s - 1 - i) by omega, Int.pow_add]; rfl
   rw [e, ← Int.ediv_ediv_of_nonneg (by decide)]
   congr 1; omega
 · simp only [List.map_cons, List.map_nil, Nat.add_sub_cancel, Nat.sub_self, Nat.mul_zero, Int.pow_zero, Int.ediv_one]
   congr 1
   apply BitVec.eq_of_toNat_eq
   rw [BitVec.toNat_ofInt]; omega
theorem beN_valN : ∀ (s : Nat) (l : List (BitVec 8)), l.length = s → beN (valN l) s = l
 | 0, l, h => by rw [List.eq_nil_of_length_eq_zero h]; rfl
 | s + 1, l, h => by
   have hne : l ≠ [] := by intro e; subst e; simp at h
   have h1 : valN l = valN l.dropLast * 256 + (l.getLast hne).toNat := by
     rw [← valN_snoc, List.dropLast_concat_getLast hne]
   rw [h1]
   have := beN_snoc (valN l.dropLast) (l.getLast hne) s
   rw [show ((valN l.dropLast * 256 + (l.getLast hne).toNat : Nat) : Int) = (valN l.dropLast : Int) * 256 + ((l.getLast hne).toNat : Int) by omega, this,
     beN_valN s l.dropLast (by rw [List.length_dropLast]; omega), List.dropLast_concat_getLast hne]
theorem valN_beN : ∀ (s : Nat) (n : Int), 0 ≤ n → n < 256 ^ s → (valN (beN n s) : Int) = n
 | 0, n, h0, h => by
   rw [Int.pow_zero] at h
   have : n = 0 := by omega
   subst this; rfl
 | s + 1, n, h0, h => by
   obtain ⟨x, hx⟩ : ∃ x : BitVec 8, (x.toNat : Int) = n % 256 := ⟨BitVec.ofInt 8 n, by rw [BitVec.toNat_ofInt]; omega⟩
   have hn : n = n / 256 * 256 + x.toNat := by omega
   rw [Int.pow_succ] at h
   have h2 : n / 256 < 256 ^ s := by
     apply Int.ediv_lt_of_lt_mul (by decide); exact h
   have := valN_beN s (n / 256) (by omega) h2
   rw [hn, beN_snoc, valN_snoc]; omega
theorem numOk_iff (n : Int) (s : Nat) : numOk n s = true ↔ 0 ≤ n ∧ n < 256 ^ s := by unfold numOk; simp
theorem numOk_valN {l : List (BitVec 8)} {s : Nat} (h : l.length = s) : numOk (valN l) s = true := by
 rw [numOk_iff]
 have := valN_lt s l h
 refine ⟨by omega, ?_⟩
 have h2 : ((256 ^ s : Nat) : Int) = (256 : Int) ^ s := by rw [Int.natCast_pow]; rfl
 omega
theorem putN_valN {b l : List (BitVec 8)} {s : Nat} (h : l.length = s) : putN b (valN l) s = b ++ l := by
 unfold putN; rw [numOk_valN h, if_pos rfl, beN_valN s l h]
theorem beN_at {n : Int} {s i : Nat} (h : i < (beN n s).length) : (beN n s)[i] = BitVec.ofInt 8 (n / 2 ^ (8 * (s - 1 - i))) := by simp [beN]
theorem beN_drop (n : Int) (s t : Nat) (h : s ≤ t) : (beN n t).drop (t - s) = beN n s := by
 refine List.ext_getElem (by simp [beN_len]; omega) fun i h1 h2 => ?_
 rw [beN_len] at h2
 rw [List.getElem_drop, beN_at, beN_at, show t - 1 - (t - s + i) = s - 1 - i by omega]
def wN (a : Wide) : Nat := a.hi.toNat * 18446744073709551616 + a.lo.toNat
theorem wN_inj {a b : Wide} (h : wN a = wN b) : a = b := by
 obtain ⟨ah, al⟩ := a
 obtain ⟨bh, bl⟩ := b
 have h1 := ah.isLt; have h2 := al.isLt; have h3 := bh.isLt; have h4 := bl.isLt
 unfold wN at h
 simp only at h
 have e1 : ah = bh := BitVec.eq_of_toNat_eq (by omega)
 have e2 : al = bl := BitVec.eq_of_toNat_eq (by omega)
 rw [e1, e2]
theorem hb_toNat (x : BitVec 64) (k : Nat) : (hb x k).toNat = x.toNat / 2 ^ k % 256 := by
 unfold hb; rw [BitVec.toNat_setWidth, BitVec.toNat_ushiftRight, Nat.shiftRight_eq_div_pow]
theorem wBytes_beN (a : Wide) : wBytes a = beN (wN a) 16 := by
 have h1 := a.hi.isLt; have h2 := a.lo.isLt
 unfold wBytes beN
 refine List.map_congr_left fun j hj => ?_
 rw [List.mem_range] at hj
 apply BitVec.eq_of_toNat_eq
 rw [BitVec.toNat_ofInt]
 have h16 : j = 0 ∨ j = 1 ∨ j = 2 ∨ j = 3 ∨ j = 4 ∨ j = 5 ∨ j = 6 ∨ j = 7 ∨ j = 8 ∨ j = 9 ∨ j = 10 ∨ j = 11 ∨ j = 12 ∨ j = 13 ∨ j = 14 ∨ j = 15 := by omega
 unfold wN
 rcases h16 with rfl | rfl | rfl | rfl | rfl | rfl | rfl | rfl | rfl | rfl | rfl | rfl | rfl | rfl | rfl | rfl <;>
 · simp only [Nat.reduceLT, if_true, if_false, Nat.reduceMul, Nat.reduceSub, hb_toNat, Nat.reducePow, Int.reducePow]
   omega
theorem wStep_wN {a : Wide} (x : BitVec 8) (h : wN a < 1329227995784915872903807060280344576) : wN (wStep a x) = wN a * 256 + x.toNat := by
 obtain ⟨ah, al⟩ := a
 have h1 := ah.isLt; have h2 := al.isLt; have h3 := x.isLt
 unfold wN at h
 simp only at h
 unfold wStep wN
 simp only [BitVec.toNat_or, BitVec.toNat_shiftLeft, BitVec.toNat_ushiftRight, BitVec.toNat_setWidth]
 have e1 : x.toNat % 2 ^ 64 = x.toNat := by omega
 have e2 : ah.toNat <<< 8 % 2 ^ 64 = (ah.toNat) <<< 8 := by rw [Nat.shiftLeft_eq]; omega
 have e3 : al.toNat <<< 8 % 2 ^ 64 = (al.toNat % 72057594037927936) <<< 8 := by rw [Nat.shiftLeft_eq, Nat.shiftLeft_eq]; omega
 rw [e1, e2, e3, ← Nat.shiftLeft_add_eq_or_of_lt (i := 8) (b := al.toNat >>> 56) (by rw [Nat.shiftRight_eq_div_pow]; omega), ← Nat.shiftLeft_add_eq_or_of_lt (i := 8) (b := x.toNat) h3,
   Nat.shiftLeft_eq, Nat.shiftLeft_eq, Nat.shiftRight_eq_div_pow]
 omega
set_option maxRecDepth 100000 in
theorem wVal_wN : ∀ (s : Nat) (l : List (BitVec 8)), l.length = s → s ≤ 16 → wN (wVal l) = valN l
 | 0, l, h, _ => by rw [List.eq_nil_of_length_eq_zero h]; rfl
 | s + 1, l, h, hs => by
   have hne : l ≠ [] := by intro e; subst e; simp at h
   have hd : l.dropLast.length = s := by rw [List.length_dropLast]; omega
   have ih := wVal_wN s l.dropLast hd (by omega)
   have hlt := valN_lt s l.dropLast hd
   have h15 : 256 ^ s ≤ 1329227995784915872903807060280344576 := by
     have e15 : 256 ^ 15 = 1329227995784915872903807060280344576 := by rfl
     rw [← e15]; exact Nat.pow_le_pow_right (by decide) (by omega)
   have hlt2 : wN (wVal l.dropLast) < 1329227995784915872903807060280344576 := by rw [ih]; exact Nat.lt_of_lt_of_le hlt h15
   rw [← List.dropLast_concat_getLast hne, wVal_snoc, valN_snoc, wStep_wN _ hlt2, ih]
theorem wPut_beN (b : List (BitVec 8)) (a : Wide) (s : Nat) (h : s ≤ 16) : wPut b a s = b ++ beN (wN a) s := by
 unfold wPut; rw [wBytes_beN, beN_drop _ s 16 h]
theorem wGet_beN (a : Wide) (s : Nat) (r : List (BitVec 8)) (h : s ≤ 16) (ha : (wN a : Int) < 256 ^ s) : wGet (beN (wN a) s ++ r) s = (a, true) := by
 unfold wGet
 rw [if_pos (by rw [List.length_append, beN_len]; omega), List.take_append_of_le_length (by rw [beN_len]; omega), List.take_of_length_le (by rw [beN_len]; omega)]
 congr 1
 apply wN_inj
 rw [wVal_wN s _ (beN_len _ _) h]
 have := valN_beN s (wN a) (by omega) ha
 omega
theorem wPut_wGet (b p : List (BitVec 8)) (s : Nat) (h : s ≤ 16) (hb : s ≤ b.length) : wPut p (wGet b s).1 s = p ++ b.take s := by
 have hl : (b.take s).length = s := by rw [List.length_take]; omega
 rw [wPut_beN _ _ _ h]
 unfold wGet
 rw [if_pos hb]
 simp only
 rw [wVal_wN s _ hl h, beN_valN s _ hl]
theorem and_le {n : Nat} {x m : BitVec n} (h : x &&& ~~~m = 0#n) : x.toNat ≤ m.toNat := by
 rw [b_less] at h
 have e : x &&& m = x := by
   apply BitVec.eq_of_getLsbD_eq; intro i hi
   rw [BitVec.getLsbD_and]
   cases hx : x.getLsbD i
   · rfl
   · rw [h i hx]; rfl
 rw [← e, BitVec.toNat_and]; exact Nat.and_le_right
theorem lowW_wN_all : ((List.range 129).all fun n => decide (wN (lowW (n : Int)) + 1 = 2 ^ n)) = true := by kernel_rfl
theorem low_lt {w : Wide} {n : Nat} (hn : n ≤ 128) (h : (w.less (lowW (n : Int))).zero = true) : wN w < 2 ^ n := by
 have h1 := List.all_eq_true.1 lowW_wN_all n (by simp; omega)
 rw [decide_eq_true_eq] at h1
 rw [Wide.zero_iff] at h
 have a1 := and_le h.1
 have a2 := and_le h.2
 unfold wN at h1 ⊢
 have : w.hi.toNat * 18446744073709551616 ≤ (lowW (n : Int)).hi.toNat * 18446744073709551616 := Nat.mul_le_mul_right _ a1
 omega
theorem bits_size (f : Int) : 2 ^ (fBits f).toNat ≤ 256 ^ (fSize f) := by
 rw [show (256 : Nat) = 2 ^ 8 from rfl, ← Nat.pow_mul]
 refine Nat.pow_le_pow_right (by decide) ?_
 unfold fSize; omega
theorem within_size {o : Oxm} {w : Wide} (h : Oxm.beyond o w = false) : (wN w : Int) < 256 ^ (fSize o.field) := by
 unfold Oxm.beyond at h
 rw [Bool.not_eq_false'] at h
 have hr := (fRow_ok o.field).2
 have hb : fBits o.field = ((fBits o.field).toNat : Int) := by unfold fBits; omega
 rw [hb] at h
 have h1 := low_lt (by unfold fBits; omega) h
 have h2 := bits_size o.field
 have h3 : ((256 ^ fSize o.field : Nat) : Int) = (256 : Int) ^ fSize o.field := by rw [Int.natCast_pow]; rfl
 omega

theorem fIndex_all : ((List.range 24).all fun f => decide (fIndex (fID (f : Int)) = ((f : Int), true))) = true := by kernel_rfl
theorem fIndex_ID {f : Int} (h : fRight f = true) : fIndex (fID f) = (f, true) := by
 unfold fRight at h
 rw [Bool.and_eq_true, decide_eq_true_eq, decide_eq_true_eq] at h
 obtain ⟨n, rfl⟩ : ∃ n : Nat, f = n := ⟨f.toNat, by omega⟩
 have := List.all_eq_true.1 fIndex_all n (by simp; omega)
 simpa using this
theorem fIndex_back {id : Int} (h : (fIndex id).2 = true) : fID (fIndex id).1 = id ∧ fRight (fIndex id).1 = true := by
 unfold fIndex at h ⊢
 cases hf : fIndexN id 24 with
 | none => rw [hf] at h; cases h
 | some f =>
   unfold fIndexN at hf
   have h1 := List.find?_some hf
   have h2 := List.mem_of_find?_eq_some hf
   rw [List.mem_range] at h2
   simp only [beq_iff_eq] at h1
   refine ⟨?_, ?_⟩
   · show fID (f : Int) = id
     unfold fID; rw [fRow_nat f h2]; exact h1
   · unfold fRight; simp; omega
theorem putN_one {b : List (BitVec 8)} {n : Int} (h0 : 0 ≤ n) (h : n < 256) : putN b n 1 = b ++ [BitVec.ofInt 8 n] := by
 unfold putN
 rw [if_pos (by rw [numOk_iff]; omega)]
 congr 1
 show [BitVec.ofInt 8 (n / 2 ^ (8 * (1 - 1 - 0)))] = _
 rw [show 8 * (1 - 1 - 0) = 0 from rfl, Int.pow_zero, Int.ediv_one]
theorem fID_range {f : Int} (h : fRight f = true) : 0 ≤ fID f ∧ fID f ≤ 34 := by
 unfold fRight at h
 rw [Bool.and_eq_true, decide_eq_true_eq, decide_eq_true_eq] at h
 unfold fID fRow
 rw [if_pos ⟨h.1, h.2⟩]
 have hl : f.toNat < fRows.length := by show f.toNat < 24; omega
 have : ∀ r, r ∈ fRows → 0 ≤ r.1 ∧ r.1 ≤ 34 := by decide
 exact this _ (nth_mem hl)
theorem oHead_eq {o : Oxm} (h : fRight o.field = true) : oHead o = [128#8, 0#8, BitVec.ofInt 8 (oNum o), BitVec.ofInt 8 (oBody o).length] := by
 have hr := fID_range h
 have hn : 0 ≤ oNum o ∧ oNum o < 256 := by unfold oNum; split <;> omega
 have hb := oBody_len o
 have hs := fSize_le o.field
 have hb2 : (oBody o).length ≤ 32 := by rw [hb]; split <;> omega
 unfold oHead
 rw [putN_one (n := ((oBody o).length : Int)) (by omega) (by omega), putN_one hn.1 hn.2]
 rfl
theorem toNat_ofInt8 {n : Int} (h0 : 0 ≤ n) (h : n < 256) : (BitVec.ofInt 8 n).toNat = n.toNat := by
 rw [BitVec.toNat_ofInt]; omega
theorem ofInt8_nat (x : BitVec 8) : BitVec.ofInt 8 (x.toNat : Int) = x := by
 apply BitVec.eq_of_toNat_eq; have := x.isLt; rw [toNat_ofInt8 (by omega) (by omega)]; omega
theorem zero_wide {w : Wide} (h : w.zero = true) : w = wideZ := by
 rw [Wide.zero_iff] at h
 obtain ⟨a, b⟩ := w
 simp only at h
 rw [h.1, h.2]; rfl
structure ORight (o : Oxm) : Prop where
 field : fRight o.field = true
 masks : o.masked = true → fMasks o.field = true
 mask0 : o.masked = false → o.mask = wideZ
 form : Oxm.form o = 0
 value : Oxm.beyond o o.value = false
 mask : o.masked = true → Oxm.beyond o o.mask = false
theorem oRight_facts {o : Oxm} (h : Oxm.right o = true) : ORight o := by
 unfold Oxm.right at h
 rw [Bool.and_eq_true, Bool.not_eq_true', Bool.or_eq_false_iff, Bool.or_eq_false_iff, Bool.not_eq_false', beq_iff_eq] at h
 obtain ⟨⟨h1, h2, h3⟩, h4⟩ := h
 have hv : Oxm.beyond o o.value = false := by
   cases hb : Oxm.beyond o o.value
   · rfl
   · unfold Oxm.form at h4; rw [hb, if_pos rfl] at h4; cases h4
 refine ⟨h1, fun hm => ?_, fun hm => ?_, h4, hv, fun hm => ?_⟩
 · rw [hm] at h2; simpa using h2
 · rw [hm] at h3; exact zero_wide (by simpa using h3)
 · unfold Oxm.form at h4
   rw [hv, hm] at h4
   cases hb : Oxm.beyond o o.mask
   · rfl
   · rw [hb] at h4; simp at h4
theorem oRight_of {o : Oxm} (h1 : fRight o.field = true) (h2 : o.masked = true → fMasks o.field = true) (h3 : o.masked = false → o.mask = wideZ) (h4 : Oxm.form o = 0) : Oxm.right o = true := by
 unfold Oxm.right
 rw [h1, h4]
 cases hm : o.masked
 · rw [h3 hm]; rfl
 · rw [h2 hm]; rfl
theorem oNum_div (o : Oxm) (h : fRight o.field = true) : (oNum o).toNat / 2 = (fID o.field).toNat ∧ ((oNum o).toNat % 2 == 1) = o.masked ∧ 0 ≤ oNum o ∧ oNum o < 256 := by
 have hr := fID_range h
 unfold oNum
 cases o.masked
 · refine ⟨?_, ?_, ?_, ?_⟩
   · simp only [Bool.false_eq_true, if_false]; omega
   · simp only [Bool.false_eq_true, if_false]; rw [beq_eq_false_iff_ne]; omega
   · simp only [Bool.false_eq_true, if_false]; omega
   · simp only [Bool.false_eq_true, if_false]; omega
 · refine ⟨?_, ?_, ?_, ?_⟩
   · simp only [if_true]; omega
   · simp only [if_true]; rw [beq_iff_eq]; omega
   · simp only [if_true]; omega
   · simp only [if_true]; omega
theorem oEnc_back {o : Oxm} (h : Oxm.right o = true) (r : List (BitVec 8)) : oDec ((oEnc o).1 ++ r) = (o, ((oEnc o).1.length : Int), 0) := by
 have hf := oRight_facts h
 have hs := fSize_le o.field
 have hbl := oBody_len o
 have hb2 : (oBody o).length ≤ 32 := by rw [hbl]; split <;> omega
 have hh := oHead_eq hf.field
 obtain ⟨n1, n2, n3, n4⟩ := oNum_div o hf.field
 have hid := fID_range hf.field
 have e : (oEnc o).1 ++ r = 128#8 :: 0#8 :: BitVec.ofInt 8 (oNum o) :: BitVec.ofInt 8 (oBody o).length :: (oBody o ++ r) := by
   unfold oEnc; rw [if_pos h, hh]; simp
 have hel : (oEnc o).1.length = 4 + (oBody o).length := by unfold oEnc; rw [if_pos h, hh]; simp; omega
 obtain ⟨B, hB⟩ : ∃ B, (oEnc o).1 ++ r = B := ⟨_, rfl⟩
 have hBl : B.length = 4 + (oBody o).length + r.length := by rw [← hB, List.length_append, hel]
 rw [hB] at e ⊢
 rw [hel]
 have b0 : bAt B 0 = 128 := by rw [e]; rfl
 have b1 : bAt B 1 = 0 := by rw [e]; rfl
 have b2 : bAt B 2 = (oNum o).toNat := by
   rw [e]; show (BitVec.ofInt 8 (oNum o)).toNat = _; exact toNat_ofInt8 n3 n4
 have b3 : bAt B 3 = (oBody o).length := by
   rw [e]; show (BitVec.ofInt 8 ((oBody o).length : Int)).toNat = _; rw [toNat_ofInt8 (by omega) (by omega)]; omega
 have d4 : B.drop 4 = oBody o ++ r := by rw [e]; rfl
 clear e hB
 have hF : hField B = (o.field, true) := by
   unfold hField; rw [b2, n1, show (((fID o.field).toNat : Nat) : Int) = fID o.field by omega]; exact fIndex_ID hf.field
 have hM : hMasked B = o.masked := by unfold hMasked; rw [b2]; exact n2
 have hW : hWant B = (oBody o).length := by
   unfold hWant; rw [hM, hF, hbl]; split
   · simp only; omega
   · rfl
 have hC : hCode B = 0 := by
   unfold hCode
   rw [if_neg (by omega), if_neg (by omega), b0, b1, hF, hM, b3, hW]
   have hm : (o.masked && !fMasks o.field) = false := by
     cases hm : o.masked
     · rfl
     · rw [hf.masks hm]; rfl
   simp [hm]
 have hR : oRead B = o := by
   have hv := within_size hf.value
   unfold oRead
   rw [hF, hM, d4]
   simp only
   have hdd : B.drop (4 + fSize o.field) = (oBody o ++ r).drop (fSize o.field) := by rw [← d4, List.drop_drop]
   rw [hdd]
   cases hm : o.masked
   · have hz := hf.mask0 hm
     have hob : oBody o = beN (wN o.value) (fSize o.field) := by unfold oBody; rw [hm]; exact (wPut_beN _ _ _ hs).trans (List.nil_append _)
     rw [hob, wGet_beN _ _ _ hs hv]
     obtain ⟨a1, a2, a3, a4⟩ := o
     simp only at hm hz ⊢
     rw [hm, hz]; rfl
   · have hmk := within_size (hf.mask hm)
     have hob : oBody o = beN (wN o.value) (fSize o.field) ++ beN (wN o.mask) (fSize o.field) := by
       unfold oBody; rw [hm, if_pos rfl, wPut_beN _ _ _ hs, wPut_beN _ _ _ hs, List.nil_append]
     rw [hob, List.append_assoc, wGet_beN _ _ _ hs hv, if_pos rfl, List.drop_append_of_le_length (by rw [beN_len]; omega), List.drop_of_length_le (by rw [beN_len]; omega), List.nil_append, wGet_beN _ _ _ hs hmk]
     obtain ⟨a1, a2, a3, a4⟩ := o
     simp only at hm ⊢
     rw [hm]
 unfold oDec
 rw [if_pos hC, hR, if_pos hf.form, b3]
 congr 1
theorem oDec_back {b : List (BitVec 8)} {o : Oxm} {n : Int} (h : oDec b = (o, n, 0)) : Oxm.right o = true ∧ ∃ k : Nat, n = (k : Int) ∧ 4 ≤ k ∧ k ≤ b.length ∧ oEnc o = (b.take k, 0) := by
 unfold oDec at h
 split at h
 case isFalse hc => simp only [Prod.mk.injEq] at h; exact absurd h.2.2 hc
 rename_i hc
 split at h
 case isFalse hfm => simp only [Prod.mk.injEq] at h; exact absurd h.2.2 hfm
 rename_i hfm
 simp only [Prod.mk.injEq, and_true] at h
 obtain ⟨rfl, rfl⟩ := h
 have l2 := bAt_lt b 2
 have l3 := bAt_lt b 3
 unfold hCode at hc
 split at hc
 · cases hc
 rename_i c1
 split at hc
 · cases hc
 rename_i c2
 split at hc
 · cases hc
 rename_i c3
 split at hc
 · cases hc
 rename_i c4
 split at hc
 · cases hc
 rename_i c5
 simp only [Bool.or_eq_true, bne_iff_ne, ne_eq, Bool.not_eq_true', not_or, Decidable.not_not, Bool.not_eq_false, Bool.and_eq_true, not_and] at c3 c4 c5
 obtain ⟨b0, b1, hF2⟩ := c3
 have hfb := fIndex_back (id := ((bAt b 2 / 2 : Nat) : Int)) hF2
 have hff : (oRead b).field = (hField b).1 := rfl
 have hfm2 : (oRead b).masked = hMasked b := rfl
 have hr : Oxm.right (oRead b) = true := oRight_of hfb.2 (fun hm => c4 hm) (fun hm => by
   have hm' : hMasked b = false := hm
   unfold oRead; simp only [hm']; rfl) hfm
 refine ⟨hr, 4 + bAt b 3, by omega, by omega, by omega, ?_⟩
 have hs := fSize_le (hField b).1
 have hbl := oBody_len (oRead b)
 have hlen : (oBody (oRead b)).length = bAt b 3 := by
   rw [hbl, hff, hfm2, c5]; unfold hWant; split
   · omega
   · rfl
 have hnum : oNum (oRead b) = (bAt b 2 : Int) := by
   have e1 : fID (hField b).1 = ((bAt b 2 / 2 : Nat) : Int) := hfb.1
   unfold oNum; rw [hff, hfm2, e1]
   unfold hMasked
   split
   · rename_i hm; rw [beq_iff_eq] at hm; omega
   · rename_i hm; rw [beq_iff_eq] at hm; omega
 have hbody : oBody (oRead b) = (b.drop 4).take (bAt b 3) := by
   have hdl : (b.drop 4).length = b.length - 4 := List.length_drop
   unfold oBody
   rw [hff, hfm2]
   cases hm : hMasked b
   · have hw : bAt b 3 = fSize (hField b).1 := by rw [c5]; unfold hWant; rw [hm]; rfl
     show wPut [] (wGet (b.drop 4) (fSize (hField b).1)).1 (fSize (hField b).1) = _
     rw [wPut_wGet _ _ _ hs (by rw [hdl]; omega), List.nil_append, hw]
   · have hw : bAt b 3 = fSize (hField b).1 * 2 := by rw [c5]; unfold hWant; rw [hm]; rfl
     have ev : (oRead b).value = (wGet (b.drop 4) (fSize (hField b).1)).1 := rfl
     have em : (oRead b).mask = (wGet (b.drop (4 + fSize (hField b).1)) (fSize (hField b).1)).1 := by unfold oRead; rw [hm]; rfl
     rw [if_pos rfl, ev, em, wPut_wGet _ _ _ hs (by rw [List.length_drop]; omega), wPut_wGet _ _ _ hs (by rw [List.length_drop]; omega), List.nil_append, hw, ← List.drop_drop,
       show fSize (hField b).1 * 2 = fSize (hField b).1 + fSize (hField b).1 by omega, List.take_add]
 have hb4 : b.take 4 = [128#8, 0#8, nth b 2, nth b 3] := by
   match b, c1, b0, b1 with
   | x0 :: x1 :: x2 :: x3 :: r, _, b0, b1 =>
     have e0 : x0 = 128#8 := BitVec.eq_of_toNat_eq b0
     have e1 : x1 = 0#8 := BitVec.eq_of_toNat_eq b1
     rw [e0, e1]; rfl
   | [], c1, _, _ => simp at c1
   | [_], c1, _, _ => simp at c1
   | [_, _], c1, _, _ => simp at c1
   | [_, _, _], c1, _, _ => simp at c1
 unfold oEnc
 rw [if_pos hr, oHead_eq hfb.2, hnum, hlen, hbody, List.take_add, hb4]
 have e2 : BitVec.ofInt 8 (bAt b 2 : Int) = nth b 2 := ofInt8_nat _
 have e3 : BitVec.ofInt 8 (bAt b 3 : Int) = nth b 3 := ofInt8_nat _
 rw [e2, e3]

theorem allZ_iff (l : List (BitVec 8)) : allZ l = true ↔ l = List.replicate l.length 0#8 := by
 unfold allZ
 rw [List.all_eq_true, List.eq_replicate_iff]
 simp
theorem allZ_rep (n : Nat) : allZ (List.replicate n 0#8) = true := by rw [allZ_iff]; simp
theorem putN_beN {b : List (BitVec 8)} {n : Int} {s : Nat} (h : numOk n s = true) : putN b n s = b ++ beN n s := by unfold putN; rw [h, if_pos rfl]
theorem getN_at {E x z : List (BitVec 8)} {v : Int} {p s : Nat} (h : E = x ++ (beN v s ++ z)) (hx : x.length = p) (hv : numOk v s = true) : getN E p s = (v, 0) := by
 rw [numOk_iff] at hv
 unfold getN
 rw [h, if_pos (by simp [beN_len, hx]), List.drop_append_of_le_length (by omega), List.drop_of_length_le (by omega), List.nil_append, List.take_append_of_le_length (by rw [beN_len]; omega),
   List.take_of_length_le (by rw [beN_len]; omega), valN_beN s v hv.1 hv.2]
theorem getN_val {b : List (BitVec 8)} {p s : Nat} (h : p + s ≤ b.length) : getN b p s = ((valN ((b.drop p).take s) : Int), 0) := by unfold getN; rw [if_pos h]
theorem aLen_mod (n : Nat) : aLen n % 8 = 0 := by unfold aLen; split <;> omega
theorem numOk2 {n : Nat} (h : n < 65536) : numOk (n : Int) 2 = true := by rw [numOk_iff]; exact ⟨by omega, by show (n : Int) < 65536; omega⟩
theorem aHead {k n : Nat} {p r : List (BitVec 8)} (hk : k < 65536) (hn : n < 65536) (hp : 4 + p.length = n) (h8 : 8 ≤ n) :
   putN (putN [] (k : Int) 2) (n : Int) 2 = beN k 2 ++ beN n 2 ∧ aK (putN (putN [] (k : Int) 2) (n : Int) 2 ++ p ++ r) = k ∧ aN (putN (putN [] (k : Int) 2) (n : Int) 2 ++ p ++ r) = n ∧
   (putN (putN [] (k : Int) 2) (n : Int) 2 ++ p ++ r).take n = putN (putN [] (k : Int) 2) (n : Int) 2 ++ p := by
 have e : putN (putN [] (k : Int) 2) (n : Int) 2 = beN k 2 ++ beN n 2 := by rw [putN_beN (numOk2 hk), putN_beN (numOk2 hn), List.nil_append]
 have hl : (beN (k : Int) 2 ++ beN (n : Int) 2).length = 4 := by simp [beN_len]
 have hb : 8 ≤ (beN (k : Int) 2 ++ beN (n : Int) 2 ++ p ++ r).length := by rw [List.length_append, List.length_append, hl]; omega
 refine ⟨e, ?_, ?_, ?_⟩
 · rw [e]
   have h1 := aK_get _ hb
   have h0 := getN_at (E := beN (k : Int) 2 ++ beN (n : Int) 2 ++ p ++ r) (x := []) (v := (k : Int)) (p := 0) (s := 2) (z := beN (n : Int) 2 ++ (p ++ r)) (by simp) rfl (numOk2 hk)
   rw [h0] at h1
   simp only [Prod.mk.injEq, and_true] at h1; omega
 · rw [e]
   have h1 := aN_get _ hb
   have h0 := getN_at (E := beN (k : Int) 2 ++ beN (n : Int) 2 ++ p ++ r) (x := beN (k : Int) 2) (v := (n : Int)) (p := 2) (s := 2) (z := p ++ r) (by simp) (beN_len _ _) (numOk2 hn)
   rw [h0] at h1
   simp only [Prod.mk.injEq, and_true] at h1; omega
 · rw [e, List.take_append_of_le_length (by rw [List.length_append, hl]; omega), List.take_of_length_le (by rw [List.length_append, hl]; omega)]
theorem right_bare {a : Action} (h : Action.right a = true) : a = Action.bare a := by
 unfold Action.right at h
 rw [Bool.and_eq_true, beq_iff_eq] at h; exact h.2
theorem right_fine {a : Action} (h : Action.right a = true) : Action.fine a = true := by
 unfold Action.right at h
 rw [Bool.and_eq_true] at h; exact h.1
set_option maxHeartbeats 1000000 in
theorem aEnc_back {a : Action} (h : Action.right a = true) (r : List (BitVec 8)) : aDec ((aEnc a).1 ++ r) = (a, ((aEnc a).1.length : Int), none) := by
 have hcs := right_cases h
 have hk : ∃ k : Nat, a.kind = (k : Int) ∧ k < 65536 := by
   rcases hcs with h | h | h | h | h <;> first | exact ⟨a.kind.toNat, by omega, by omega⟩
 obtain ⟨k, hk, hk2⟩ := hk
 have hbl := aBody_len a
 have hn2 := aLen_le _ hbl
 have hpl := aPad_len a
 have hge := aLen_ge (aBody a).length
 have hmod := aLen_mod (aBody a).length
 have e : (aEnc a).1 = putN (putN [] (k : Int) 2) (aLen (aBody a).length : Nat) 2 ++ aPad a := by unfold aEnc; rw [if_pos h, hk]
 obtain ⟨n, hn⟩ : ∃ n, aLen (aBody a).length = n := ⟨_, rfl⟩
 rw [hn] at e hn2 hpl hge hmod
 obtain ⟨hh, h1, h2, h3⟩ := aHead (k := k) (n := n) (p := aPad a) (r := r) hk2 (by omega) hpl (by omega)
 rw [← e] at h1 h2 h3
 have hEl : (aEnc a).1.length = n := by rw [e, hh]; simp [beN_len]; omega
 have hE : (aEnc a).1 = beN k 2 ++ beN n 2 ++ aPad a := by rw [e, hh]
 have hpad : aPad a = aBody a ++ List.replicate (n - 4 - (aBody a).length) 0#8 := by unfold aPad; rw [hn]
 obtain ⟨E, hEE⟩ : ∃ E, (aEnc a).1 = E := ⟨_, rfl⟩
 rw [hEE] at h1 h2 h3 hEl hE ⊢
 have hd4 : E.drop 4 = aPad a := by rw [hE, List.drop_append_of_le_length (by simp [beN_len]), List.drop_of_length_le (by simp [beN_len]), List.nil_append]
 have hdb : E.drop (4 + (aBody a).length) = List.replicate (n - 4 - (aBody a).length) 0#8 := by
   rw [← List.drop_drop, hd4, hpad, List.drop_append_of_le_length (Nat.le_refl _), List.drop_of_length_le (Nat.le_refl _), List.nil_append]
 rw [aDec, if_neg (by rw [List.length_append]; omega), h2, if_neg (by rw [List.length_append]; omega), h1, h3, hEl]
 have hgo := right_fine h
 have hba := right_bare h
 clear e hEE h1 h2 h3 hh
 obtain ⟨kind, port, max, group, ether, oxm⟩ := a
 simp only at hk hcs
 subst hk
 rcases hcs with ⟨hk, p1, p2⟩ | ⟨hk, p1⟩ | ⟨hk, p1⟩ | hk | ⟨hk, p1⟩
 · have : k = 0 := by omega
   subst this
   have eb : aBody ⟨((0 : Nat) : Int), port, max, group, ether, oxm⟩ = beN port 4 ++ beN max 2 := by
     show putN (putN [] port 4) max 2 = _
     rw [putN_beN p1, putN_beN p2, List.nil_append]
   rw [eb] at hpad hdb hn
   have hl6 : (beN port 4 ++ beN max 2).length = 6 := by simp [beN_len]
   rw [hl6] at hpad hdb hn
   have h16 : n = 16 := by rw [← hn]; rfl
   subst h16
   have g1 : getN E 4 4 = (port, 0) := getN_at (x := beN ((0 : Nat) : Int) 2 ++ beN ((16 : Nat) : Int) 2) (z := beN max 2 ++ List.replicate 6 0#8) (by rw [hE, hpad]; try simp) (by simp [beN_len]) p1
   have g2 : getN E 8 2 = (max, 0) := getN_at (x := beN ((0 : Nat) : Int) 2 ++ beN ((16 : Nat) : Int) 2 ++ beN port 4) (z := List.replicate 6 0#8) (by rw [hE, hpad]; try simp) (by simp [beN_len]) p2
   have hof : aOf ((0 : Nat) : Int) E = ⟨0, port, max, 0, 0, oxm0⟩ := by unfold aOf; rw [if_pos (by decide), g1, g2]
   have hge : aGoes port = true := by
     have : (aGoes port && aMost ⟨((0 : Nat) : Int), port, max, group, ether, oxm⟩) = true := hgo
     rw [Bool.and_eq_true] at this; exact this.1
   have hb' : (⟨((0 : Nat) : Int), port, max, group, ether, oxm⟩ : Action) = ⟨0, port, max, 0, 0, oxm0⟩ := hba
   rw [if_neg (by decide), if_neg (by decide), if_neg (by show ¬ ¬ 16 = 16; decide)]
   rw [if_pos (by show allZ (E.drop 10) = true; rw [hdb]; exact allZ_rep _)]
   unfold aPlain
   rw [if_neg (by rw [g1]; simp [hge]), hof, ← hb', if_pos h, hEl]
 · have : k = 22 := by omega
   subst this
   have eb : aBody ⟨((22 : Nat) : Int), port, max, group, ether, oxm⟩ = beN group 4 := by
     show putN [] group 4 = _
     rw [putN_beN p1, List.nil_append]
   rw [eb] at hpad hdb hn
   rw [beN_len] at hpad hdb hn
   have h16 : n = 8 := by rw [← hn]; rfl
   subst h16
   have g1 : getN E 4 4 = (group, 0) := getN_at (x := beN ((22 : Nat) : Int) 2 ++ beN ((8 : Nat) : Int) 2) (z := []) (by rw [hE, hpad]; try simp) (by simp [beN_len]) p1
   have hof : aOf ((22 : Nat) : Int) E = ⟨22, 0, 0, group, 0, oxm0⟩ := by unfold aOf; rw [if_neg (by decide), if_pos (by decide), g1]
   have hb' : (⟨((22 : Nat) : Int), port, max, group, ether, oxm⟩ : Action) = ⟨22, 0, 0, group, 0, oxm0⟩ := hba
   rw [if_neg (by decide), if_neg (by decide), if_neg (by show ¬ ¬ 8 = 8; decide)]
   rw [if_pos (by show allZ (E.drop 8) = true; rw [hdb]; exact allZ_rep _)]
   unfold aPlain
   rw [if_neg (by simp), hof, ← hb', if_pos h, hEl]
 · have : k = 17 := by omega
   subst this
   have eb : aBody ⟨((17 : Nat) : Int), port, max, group, ether, oxm⟩ = beN ether 2 := by
     show putN [] ether 2 = _
     rw [putN_beN p1, List.nil_append]
   rw [eb] at hpad hdb hn
   rw [beN_len] at hpad hdb hn
   have h16 : n = 8 := by rw [← hn]; rfl
   subst h16
   have g1 : getN E 4 2 = (ether, 0) := getN_at (x := beN ((17 : Nat) : Int) 2 ++ beN ((8 : Nat) : Int) 2) (z := List.replicate 2 0#8) (by rw [hE, hpad]; try simp) (by simp [beN_len]) p1
   have hof : aOf ((17 : Nat) : Int) E = ⟨17, 0, 0, 0, ether, oxm0⟩ := by unfold aOf; rw [if_neg (by decide), if_neg (by decide), if_pos (by decide), g1]
   have hb' : (⟨((17 : Nat) : Int), port, max, group, ether, oxm⟩ : Action) = ⟨17, 0, 0, 0, ether, oxm0⟩ := hba
   rw [if_neg (by decide), if_neg (by decide), if_neg (by show ¬ ¬ 8 = 8; decide)]
   rw [if_pos (by show allZ (E.drop 6) = true; rw [hdb]; exact allZ_rep _)]
   unfold aPlain
   rw [if_neg (by simp), hof, ← hb', if_pos h, hEl]
 · have : k = 18 := by omega
   subst this
   have eb : aBody ⟨((18 : Nat) : Int), port, max, group, ether, oxm⟩ = [] := rfl
   rw [eb] at hpad hdb hn
   have h16 : n = 8 := by rw [← hn]; rfl
   subst h16
   have hof : aOf ((18 : Nat) : Int) E = ⟨18, 0, 0, 0, 0, oxm0⟩ := by unfold aOf; rw [if_neg (by decide), if_neg (by decide), if_neg (by decide)]; rfl
   have hb' : (⟨((18 : Nat) : Int), port, max, group, ether, oxm⟩ : Action) = ⟨18, 0, 0, 0, 0, oxm0⟩ := hba
   rw [if_neg (by decide), if_neg (by decide), if_neg (by show ¬ ¬ 8 = 8; decide)]
   rw [if_pos (by show allZ (E.drop 4) = true; exact (congrArg allZ hdb).trans (allZ_rep _))]
   unfold aPlain
   rw [if_neg (by simp), hof, ← hb', if_pos h, hEl]
 · have : k = 25 := by omega
   subst this
   have eb : aBody ⟨((25 : Nat) : Int), port, max, group, ether, oxm⟩ = (oEnc oxm).1 := rfl
   rw [eb] at hpad hdb hn
   have hob := oEnc_back p1 (List.replicate (n - 4 - (oEnc oxm).1.length) 0#8)
   have ho5 := oEnc_ge p1
   rw [← hpad, ← hd4] at hob
   have hol : oLen (E.drop 4) = (oEnc oxm).1.length := by unfold oLen; rw [hob]; simp
   have hf : (Oxm.right oxm && (!oxm.masked && aSets oxm.field)) = true := hgo
   rw [Bool.and_eq_true, Bool.and_eq_true, Bool.not_eq_true'] at hf
   have hb' : (⟨((25 : Nat) : Int), port, max, group, ether, oxm⟩ : Action) = ⟨25, 0, 0, 0, 0, oxm⟩ := hba
   have hnn : n = (4 + (oEnc oxm).1.length + 7) / 8 * 8 := by rw [← hn]; unfold aLen; split <;> omega
   rw [if_pos rfl]
   unfold aSetD
   rw [hob, hol, hEl, hdb]
   rw [if_neg (by simp), if_neg (by simp), if_pos rfl, if_pos hnn, if_pos (allZ_rep _), if_pos hf.2.2, if_neg (by simp [hf.2.1]), hb']
theorem putN_two {b : List (BitVec 8)} {k n : Nat} (h8 : 4 ≤ b.length) (hk : valN ((b.drop 0).take 2) = k) (hn : valN ((b.drop 2).take 2) = n) : putN (putN [] (k : Int) 2) (n : Int) 2 = b.take 4 := by
 rw [← hk, ← hn, putN_valN (by simp; omega), putN_valN (by simp; omega), List.drop_zero, List.nil_append, show (4 : Nat) = 2 + 2 from rfl, List.take_add]
set_option maxHeartbeats 1000000 in
theorem aDec_back {b : List (BitVec 8)} {y : Action} {n : Int} (h : aDec b = (y, n, none)) : Action.right y = true ∧ ∃ k : Nat, n = (k : Int) ∧ 8 ≤ k ∧ k ≤ b.length ∧ k % 8 = 0 ∧ aEnc y = (b.take k, 0) := by
 rw [aDec] at h
 split at h
 · cases h
 rename_i h8
 split at h
 · cases h
 rename_i c1
 have hNb : aN b ≤ b.length := by omega
 have hNl : (b.take (aN b)).length = aN b := by rw [List.length_take]; omega
 have hN4 : valN (((b.take (aN b)).drop 2).take 2) = aN b := by
   unfold aN at c1 ⊢
   rw [List.drop_take, List.take_take, Nat.min_eq_left (by omega)]
 have hK4 : valN (((b.take (aN b)).drop 0).take 2) = aK b := by
   rw [List.drop_take, List.take_take, Nat.min_eq_left (by omega)]; rfl
 have hlt := aN_lt b (by omega)
 obtain ⟨B, hB⟩ : ∃ B, b.take (aN b) = B := ⟨_, rfl⟩
 obtain ⟨N, hN⟩ : ∃ N, aN b = N := ⟨_, rfl⟩
 obtain ⟨K, hK⟩ : ∃ K, aK b = K := ⟨_, rfl⟩
 rw [hB] at h hNl hN4 hK4
 rw [hN] at h hNl hN4 c1 hNb hlt
 rw [hK] at h hK4
 have hBb : B = b.take N := by rw [← hB, hN]
 have hhead := putN_two (b := B) (k := K) (n := N) (by omega) hK4 hN4
 have fin : ∀ (y : Action), Action.right y = true → y.kind = (K : Int) → (aBody y) ++ List.replicate (N - 4 - (aBody y).length) 0#8 = B.drop 4 → aLen (aBody y).length = N → aEnc y = (b.take N, 0) := by
   intro y hr hk hp hl
   unfold aEnc
   rw [if_pos hr, hk, hl, hhead]
   unfold aPad
   rw [hl, hp, List.take_append_drop, hBb]
 split at h
 · rename_i k25
   subst k25
   unfold aSetD at h
   split at h
   · cases h
   split at h
   · cases h
   split at h
   case isFalse => cases h
   rename_i o1 o6 o0
   split at h
   case isFalse => cases h
   rename_i hl
   split at h
   case isFalse => cases h
   rename_i hz
   split at h
   case isFalse => cases h
   rename_i hs
   split at h
   · cases h
   rename_i hm
   simp only [Prod.mk.injEq, and_true] at h
   obtain ⟨rfl, rfl⟩ := h
   obtain ⟨⟨oo, on, oc⟩, hD⟩ : ∃ D, oDec (B.drop 4) = D := ⟨_, rfl⟩
   rw [hD] at o0 hs hm ⊢
   simp only at o0 hs hm ⊢
   subst o0
   obtain ⟨hor, x, hx, hx4, hxl, hoe⟩ := oDec_back hD
   have hol : oLen (B.drop 4) = x := by unfold oLen; rw [hD]; simp only; omega
   rw [hol] at hl hz
   rw [List.length_drop] at hxl
   have hrr : Action.right ⟨25, 0, 0, 0, 0, oo⟩ = true := by
     have hm' : oo.masked = false := by simpa using hm
     unfold Action.right Action.fine Action.bare
     simp [hor, hm', hs]
   refine ⟨hrr, B.length, rfl, by omega, by omega, by omega, ?_⟩
   rw [hNl]
   have eb : aBody ⟨25, 0, 0, 0, 0, oo⟩ = (B.drop 4).take x := by show (oEnc oo).1 = _; rw [hoe]
   have ebl : (aBody ⟨25, 0, 0, 0, 0, oo⟩).length = x := by rw [eb, List.length_take, List.length_drop]; omega
   refine fin _ hrr rfl ?_ ?_
   · rw [ebl, eb]
     rw [allZ_iff, List.length_drop, hNl] at hz
     rw [show N - 4 - x = N - (4 + x) by omega, ← hz, ← List.drop_drop, List.take_append_drop]
   · rw [ebl]; unfold aLen; split <;> omega
 rename_i k25
 split at h
 · cases h
 rename_i w0
 split at h
 · cases h
 rename_i w1
 split at h
 case isFalse => cases h
 rename_i hz
 unfold aPlain at h
 split at h
 · cases h
 split at h
 case isFalse => cases h
 rename_i hr
 simp only [Prod.mk.injEq, and_true] at h
 obtain ⟨rfl, rfl⟩ := h
 refine ⟨hr, B.length, rfl, by omega, by omega, by omega, ?_⟩
 rw [hNl]
 have hw : N = (aLength (K : Int)).1 := by omega
 have hkk : K = 0 ∨ K = 22 ∨ K = 17 ∨ K = 18 := by
   unfold aLength at w0
   split at w0
   · omega
   split at w0
   · omega
   split at w0
   · omega
   split at w0
   · omega
   · exact absurd rfl w0
 rw [allZ_iff, List.length_drop, hNl] at hz
 rcases hkk with rfl | rfl | rfl | rfl
 · have hN16 : N = 16 := hw
   subst hN16
   have e1 : getN B 4 4 = ((valN ((B.drop 4).take 4) : Int), 0) := getN_val (by omega)
   have e2 : getN B 8 2 = ((valN ((B.drop 8).take 2) : Int), 0) := getN_val (by omega)
   have eb : aBody (aOf ((0 : Nat) : Int) B) = (B.drop 4).take 4 ++ (B.drop 8).take 2 := by
     show putN (putN [] (getN B 4 4).1 4) (getN B 8 2).1 2 = _
     rw [e1, e2, putN_valN (by simp; omega), putN_valN (by simp; omega), List.nil_append]
   have ebl : (aBody (aOf ((0 : Nat) : Int) B)).length = 6 := by rw [eb]; simp; omega
   refine fin _ hr rfl ?_ (by rw [ebl]; rfl)
   have hz' : B.drop 10 = List.replicate 6 0#8 := hz
   have h8 : B.drop 8 = (B.drop 4).drop 4 := by rw [List.drop_drop]
   have h10 : B.drop 10 = ((B.drop 4).drop 4).drop 2 := by rw [List.drop_drop, List.drop_drop]
   rw [ebl, eb]
   show _ ++ List.replicate 6 0#8 = _
   rw [← hz', h10, h8, List.append_assoc, List.take_append_drop, List.take_append_drop]
 · have hN16 : N = 8 := hw
   subst hN16
   have e1 : getN B 4 4 = ((valN ((B.drop 4).take 4) : Int), 0) := getN_val (by omega)
   have eb : aBody (aOf ((22 : Nat) : Int) B) = (B.drop 4).take 4 := by
     show putN [] (getN B 4 4).1 4 = _
     rw [e1, putN_valN (by simp; omega), List.nil_append]
   have ebl : (aBody (aOf ((22 : Nat) : Int) B)).length = 4 := by rw [eb]; simp; omega
   refine fin _ hr rfl ?_ (by rw [ebl]; rfl)
   rw [ebl, eb]
   show _ ++ [] = _
   rw [List.append_nil, List.take_of_length_le (by simp; omega)]
 · have hN16 : N = 8 := hw
   subst hN16
   have e1 : getN B 4 2 = ((valN ((B.drop 4).take 2) : Int), 0) := getN_val (by omega)
   have eb : aBody (aOf ((17 : Nat) : Int) B) = (B.drop 4).take 2 := by
     show putN [] (getN B 4 2).1 2 = _
     rw [e1, putN_valN (by simp; omega), List.nil_append]
   have ebl : (aBody (aOf ((17 : Nat) : Int) B)).length = 2 := by rw [eb]; simp; omega
   refine fin _ hr rfl ?_ (by rw [ebl]; rfl)
   have hz' : B.drop 6 = List.replicate 2 0#8 := hz
   have h10 : B.drop 6 = (B.drop 4).drop 2 := by rw [List.drop_drop]
   rw [ebl, eb]
   show _ ++ List.replicate 2 0#8 = _
   rw [← hz', h10, List.take_append_drop]
 · have hN16 : N = 8 := hw
   subst hN16
   have eb : aBody (aOf ((18 : Nat) : Int) B) = [] := rfl
   refine fin _ hr rfl ?_ (by rw [eb]; rfl)
   have hz' : B.drop 4 = List.replicate 4 0#8 := hz
   rw [eb, hz']; rfl
end Go.Proofs.YtcccfbjkcahgfaaGreat

namespace Go.Proofs.YtcccfbjkcahgfaaGreat
open Go Go.AI Go.Proofs
attribute [local irreducible] FnP FnO FnB FnT FnSeq WK RunQ RunQW RunX RunXW
theorem clone_by (l : List (BitVec 8)) (hl : l.length ≤ 1000000) : FnO Tryz.prog 47 [byS l] l.length 1 (byL l) := by
 have hf := by_full l l.length rfl
 unfold byS
 cases l with
 | nil =>
   refine FnO.intro Tryz.func47 rfl rfl fun G w => ?_
   repeat' (first | apply WK.s | apply WK.b | apply WK.n | apply WK.k | apply WK.label | apply WK.scope | apply WK.inScope | refine WK.exit rfl ?_ | refine WK.cT rfl ?_ | refine WK.cF rfl ?_ | (refine hQ.h _ _ ?_; clear hQ hA) | refine WK.condAny rfl ?_ ?_ | (refine WK.c2 rfl (fun h => ?_) (fun h => ?_) <;> (first | (simp [*] at h; done) | (have h2 := h; simp at h2; exfalso; omega) | (have h2 := h; simp at h2; try simp only [Bool.not_eq_true', Bool.not_eq_false'] at h) | skip)) | (refine WK.rH Tryz.ntmps47 (by kernel_rfl) ?_; intro A hA Q hQ; simp [*]))
   · repeat (first | apply WK.s | apply WK.b | apply WK.n | apply WK.k | apply WK.label | apply WK.scope | apply WK.inScope | refine WK.exit rfl ?_)
     refine WK.ghost (Ghost.own 2 900 1 rfl rfl) ?_
     repeat (first | apply WK.s | apply WK.b | apply WK.n | apply WK.k | apply WK.label | apply WK.scope | apply WK.inScope | refine WK.exit rfl ?_)
     refine WK.retO Tryz.func47 (by rfl) (by rfl) (by simp (maxDischargeDepth := 120) [b0_]) (by simp [b0_])
   · repeat' (first | apply WK.s | apply WK.b | apply WK.n | apply WK.k | apply WK.label | apply WK.scope | apply WK.inScope | refine WK.exit rfl ?_ | refine WK.cT rfl ?_ | refine WK.cF rfl ?_ | (refine hQ.h _ _ ?_; clear hQ hA) | refine WK.condAny rfl ?_ ?_ | (refine WK.c2 rfl (fun h => ?_) (fun h => ?_) <;> (first | (simp [*] at h; done) | (have h2 := h; simp at h2; exfalso; omega) | (have h2 := h; simp at h2; try simp only [Bool.not_eq_true', Bool.not_eq_false'] at h) | skip)) | (refine WK.rH Tryz.ntmps47 (by kernel_rfl) ?_; intro A hA Q hQ; simp [*]) | (refine RunQ.append0 900 901 appByte rfl rfl rfl rfl rfl rfl rfl ?_ rfl ?_ ?_ ?_ ?_ ?_ ?_; (focus (simp [*]; done)); (focus (first | omega | (simp [*]; done); done)); (focus (first | omega | (simp [*]; done); done)); (focus (simp [*]; done)); (focus (simp [*]; done)); (focus (simp [*]; done)); refine RunQ.e ?_; simp [*]) | (refine WK.retO Tryz.func47 rfl rfl ?_ ?_ <;> simp (maxDischargeDepth := 120) [b0_, *]))
 | cons x l =>
   simp only [List.length_cons] at hl hf ⊢
   refine FnO.intro Tryz.func47 rfl rfl fun G w => ?_
   repeat' (first | apply WK.s | apply WK.b | apply WK.n | apply WK.k | apply WK.label | apply WK.scope | apply WK.inScope | refine WK.exit rfl ?_ | refine WK.cT rfl ?_ | refine WK.cF rfl ?_ | (refine hQ.h _ _ ?_; clear hQ hA) | refine WK.condAny rfl ?_ ?_ | (refine WK.c2 rfl (fun h => ?_) (fun h => ?_) <;> (first | (simp [*] at h; done) | (have h2 := h; simp at h2; exfalso; omega) | (have h2 := h; simp at h2; try simp only [Bool.not_eq_true', Bool.not_eq_false'] at h) | skip)) | (refine WK.rH Tryz.ntmps47 (by kernel_rfl) ?_; intro A hA Q hQ; simp [*]) | (refine RunQ.append0 900 901 appByte rfl rfl rfl rfl rfl rfl rfl ?_ rfl ?_ ?_ ?_ ?_ ?_ ?_; (focus (simp [*]; done)); (focus (first | omega | (simp [*]; done); done)); (focus (first | omega | (simp [*]; done); done)); (focus (simp [*]; done)); (focus (simp [*]; done)); (focus (simp [*]; done)); refine RunQ.e ?_; simp [*]) | (refine WK.retO Tryz.func47 rfl rfl ?_ ?_ <;> simp (maxDischargeDepth := 120) [*]))

def acFlat (l : List Action) : List (BitVec 8) := l.flatMap fun a => (aEnc a).1
def acEnc (l : List Action) : List (BitVec 8) × Int := if 100 < l.length then ([], 1) else if l.all Action.right = true then (acFlat l, 0) else ([], 1)
theorem acFlat_len (l : List Action) : (acFlat l).length ≤ l.length * 60 := by
 induction l with
 | nil => simp [acFlat]
 | cons a l ih =>
   have := aEnc_len a
   simp only [acFlat, List.flatMap_cons, List.length_append, List.length_cons] at ih ⊢
   omega
theorem acFlat_succ {l : List Action} {i : Nat} (h : i < l.length) : acFlat (l.take (i + 1)) = acFlat (l.take i) ++ (aEnc (nth l i)).1 := by
 unfold acFlat; rw [take_nth h, List.flatMap_append]; simp
theorem aEnc_code (a : Action) : (aEnc a).2 = if Action.right a = true then 0 else 1 := by unfold aEnc; split <;> rfl
theorem all_false_of {l : List Action} {i : Nat} {p : Action → Bool} (h : i < l.length) (hp : p (nth l i) = false) : l.all p = false := by
 rw [List.all_eq_false]; exact ⟨nth l i, nth_mem h, by rw [hp]; exact Bool.false_ne_true⟩
theorem all_true_of {l : List Action} {p : Action → Bool} (h : ∀ j, j < l.length → p (nth l j) = true) : l.all p = true := by
 rw [List.all_eq_true]; intro x hx
 obtain ⟨j, hj, rfl⟩ := mem_nth hx
 exact h j hj
theorem act_load (l : List Action) (i : Nat) (h : i < l.length) : ((actL l).drop (i * 11)).take 11 = (nth l i).enc ∧ 11 ≤ l.length * 11 - i * 11 := ⟨act_sub l i h, by omega⟩
set_option maxHeartbeats 4000000 in
theorem acenc_c (l : List Action) (hl : l.length ≤ 1000000) : FnT Tryz.prog 242 [actS l] (acEnc l).1.length 1 (byL (acEnc l).1) [.int .i64 (acEnc l).2] := by
 unfold actS
 by_cases h100 : 100 < l.length
 · have e : acEnc l = ([], 1) := by unfold acEnc; rw [if_pos h100]
   have j : (100 : Int) < l.length := by omega
   rw [e]
   refine FnT.intro Tryz.func242 rfl rfl fun G w => ?_
   repeat' (first | apply WK.s | refine WK.cT rfl ?_ | (refine hQ.h _ _ ?_; clear hQ hA) | (refine WK.rH Tryz.ntmps242 (by kernel_rfl) ?_; intro A hA Q hQ; simp [*]))
   refine WK.ghost (Ghost.own 2 900 1 rfl rfl) ?_
   refine WK.retT2 Tryz.func242 ?_ ?_ ?_ <;> simp (maxDischargeDepth := 120) [Tryz.results242, b0_]
 have j : ¬ (100 : Int) < l.length := by omega
 have hdef : acEnc l = if l.all Action.right = true then (acFlat l, 0) else ([], 1) := by unfold acEnc; rw [if_neg h100]
 refine FnT.intro Tryz.func242 rfl rfl fun G w => ?_
 repeat' (first | apply WK.s | apply WK.b | apply WK.k | refine WK.cF rfl ?_ | (refine hQ.h _ _ ?_; clear hQ hA) | (refine WK.rH Tryz.ntmps242 (by kernel_rfl) ?_; intro A hA Q hQ; simp [*]))
 refine WK.ghost (Ghost.own 4 900 1 rfl rfl) ?_
 refine WK.lI (fun n => if n = 1 then 900 else n) (fun i : Nat => (⟨(upd (upd (upd (upd (upd (upd (upd J 0 (.sl false l.length (actL l))) 2 (.sl true 0 [])) 3 (.int .i64 0)) 4 (.msl 1 0 (acFlat (l.take i)).length)) 12 (.sl false l.length (actL l))) 13 (.int .i64 l.length)) 14 (.int .i64 i)), (upd B0 1 (.buf 1 (byL (acFlat (l.take i))))), 0⟩ : St)) (fun i => i ≤ l.length ∧ ∀ j, j < i → Action.right (nth l j) = true) (fun i => l.length - i) (0) (by repeat (first | exact TmW.nil | refine TmW.upd ?_ (by simp (maxDischargeDepth := 120) [acFlat, b0_]))) (by repeat (first | exact BxW.nil | refine BxW.upd ?_ (by simp (maxDischargeDepth := 120) [acFlat, b0_]))) (by first | exact InjW.id | exact InjW.nil | exact InjW.one | exact InjW.two (by simp) | exact InjW.three (by simp) (by simp) (by simp)) (⟨by omega, by simp⟩) (fun i hi IH => ?_)
 have hfl := acFlat_len (l.take i)
 have htl : (l.take i).length ≤ 100 := by rw [List.length_take]; omega
 by_cases h1 : i < l.length
 · obtain ⟨h4, h3⟩ := act_load l i h1
   have h6 : IntKind.i64.wrap ((i : Int) + 1) = i + 1 := wrap_i64 (by omega) (by omega)
   have hc := aencP_c (nth l i)
   have hcd := aEnc_code (nth l i)
   have hel := aEnc_len (nth l i)
   rw [hcd] at hc
   cases hr : Action.right (nth l i)
   · have e : acEnc l = ([], 1) := by rw [hdef, if_neg (by rw [all_false_of h1 hr]; exact Bool.false_ne_true)]
     rw [hr] at hc
     rw [e]
     repeat' (first | apply WK.s | apply WK.b | apply WK.k | refine WK.cT rfl ?_ | (refine hQ.h _ _ ?_; clear hQ hA) | (refine WK.rH Tryz.ntmps242 (by kernel_rfl) ?_; intro A hA Q hQ; simp [bne, *]) | (refine RunQ.k rfl rfl rfl rfl rfl ?_ (hc) ?_ ?_ <;> simp (maxDischargeDepth := 120) [bne, *] <;> refine ⟨?_⟩))
     refine WK.ghost (Ghost.own 2 901 1 rfl rfl) ?_
     refine WK.retT2 Tryz.func242 ?_ ?_ ?_ <;> simp (maxDischargeDepth := 120) [Tryz.results242, b0_]
   · rw [hr] at hc
     have hs := acFlat_succ h1
     obtain ⟨F, hF⟩ : ∃ F, acFlat (l.take i) = F := ⟨_, rfl⟩
     obtain ⟨E, hE⟩ : ∃ E, (aEnc (nth l i)).1 = E := ⟨_, rfl⟩
     rw [hF] at hs hfl ⊢
     rw [hE] at hs hc hel
     have hbd : F.length + E.length ≤ 1000000 := by omega
     have hfull := by_full E E.length rfl
     unfold byS at hc
     clear hE hF
     repeat' (first | apply WK.s | apply WK.b | apply WK.n | apply WK.k | refine WK.cT rfl ?_ | refine WK.cF rfl ?_ | (refine hQ.h _ _ ?_; clear hQ hA) | (refine WK.rH Tryz.ntmps242 (by kernel_rfl) ?_; intro A hA Q hQ; simp [bne, *]) | (refine RunQ.append 902 appByte rfl rfl rfl rfl rfl rfl rfl rfl rfl ?_ ?_ ?_ ?_ ?_; (focus (first | omega | (simp [bne, *]; done); done)); (focus (first | omega | (simp [bne, *]; done); done)); (focus (first | omega | (simp [bne, *]; done); done)); (focus (first | omega | (simp [bne, *]; done); done)); refine RunQ.e ?_; simp [bne, *]) | (refine RunQ.k rfl rfl rfl rfl rfl ?_ (hc) ?_ ?_ <;> simp (maxDischargeDepth := 120) [bne, *] <;> refine ⟨?_⟩))
     refine WK.next (fun n => if n = 1 then 902 else n) (IH (i + 1) (⟨by omega, fun j hj => by by_cases h7 : j = i; (subst h7; exact hr); exact hi.2 j (by omega)⟩) (by first | omega | (dsimp only; omega))) (by repeat (first | exact TmW.nil | refine TmW.upd ?_ (by simp (maxDischargeDepth := 120) [hs, byL_app]))) (by repeat (first | exact BxW.nil | refine BxW.upd ?_ (by simp (maxDischargeDepth := 120) [hs, byL_app]))) (by first | exact InjW.id | exact InjW.nil | exact InjW.one | exact InjW.two (by simp) | exact InjW.three (by simp) (by simp) (by simp))
 · have e : acEnc l = (acFlat l, 0) := by rw [hdef, if_pos (all_true_of fun j hj => hi.2 j (by omega))]
   have hT : l.take i = l := List.take_of_length_le (by omega)
   rw [e, hT]
   repeat' (first | apply WK.s | refine WK.exit rfl ?_ | refine WK.cF rfl ?_ | (refine hQ.h _ _ ?_; clear hQ hA) | (refine WK.rH Tryz.ntmps242 (by kernel_rfl) ?_; intro A hA Q hQ; simp [*]) | (refine WK.retT2 Tryz.func242 ?_ ?_ ?_ <;> simp (maxDischargeDepth := 120) [Tryz.results242, *]))
end Go.Proofs.YtcccfbjkcahgfaaGreat
