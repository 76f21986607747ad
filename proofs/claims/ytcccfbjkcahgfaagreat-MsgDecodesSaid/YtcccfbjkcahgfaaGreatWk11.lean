/- Instructions: the reference, the parts. -/
import Derived.Test.YtcccfbjkcahgfaaGreatAf
import Derived.Test.YtcccfbjkcahgfaaGreatWk8
import Derived.Test.YtcccfbjkcahgfaaGreatWk10
import Derived.Test.YtcccfbjkcahgfaaGreatWk9
set_option linter.all false
set_option linter.unnecessarySimpa false
namespace Go.Proofs.YtcccfbjkcahgfaaGreat
open Go Go.AI Go.Proofs
attribute [local irreducible] FnP FnO FnB FnT FnSeq WK RunQ RunQW RunX RunXW
theorem ribad_c (c : Int) : FnP Tryz.prog 113 [.int .i64 c] (.agg (gF (some (3, c)))) := by
 refine FnP.i Tryz.func113 rfl rfl fun G w => ?_
 repeat' (first | apply WK.s | (refine hQ.h _ _ ?_; clear hQ hA) | (refine WK.rH Tryz.ntmps113 (by kernel_rfl) ?_; intro A hA Q hQ; simp [*]) | (refine WK.t Tryz.func113 ?_ ?_ <;> simp (maxDischargeDepth := 120) [Tryz.results113, gF, *]))
theorem rimeta_c (i : Inst) : FnP Tryz.prog 122 [.agg i.enc] (.bool (inMeta i.value i.mask)) := by
 have l := rless_c i.value i.mask
 have z := rzero_c (i.value.less i.mask)
 have e : inMeta i.value i.mask = (i.value.hi == 0#64 && (i.mask.hi == 0#64 && (i.value.less i.mask).zero)) := rfl
 obtain ⟨r, hr⟩ : ∃ r, (i.value.less i.mask).zero = r := ⟨_, rfl⟩
 rw [hr] at z e
 unfold Wide.enc at l z
 refine FnP.i Tryz.func122 rfl rfl fun G w => ?_
 repeat' (first | apply WK.s | (refine hQ.h _ _ ?_; clear hQ hA) | (refine Fork.mk (fun h => ?_) (fun h => ?_) <;> (first | (simp [*] at h; done) | (have h2 := h; simp at h2; exfalso; omega) | (have h2 := h; simp at h2; try simp only [Bool.not_eq_true', Bool.not_eq_false'] at h) | skip)) | (refine WK.rH Tryz.ntmps122 (by kernel_rfl) ?_; intro A hA Q hQ; simp [Inst.enc, *]) | (refine RunQ.g rfl (by rw [hA.h]; rfl) ?_; simp [Inst.enc, *]) | (refine RunQW.k rfl rfl rfl rfl ?_ (l) ?_ ?_ <;> simp (maxDischargeDepth := 120) [Inst.enc, *] <;> refine ⟨?_⟩) | (refine RunQW.k rfl rfl rfl rfl ?_ (z) ?_ ?_ <;> simp (maxDischargeDepth := 120) [Inst.enc, *] <;> refine ⟨?_⟩) | (refine WK.t Tryz.func122 ?_ ?_ <;> simp (maxDischargeDepth := 120) [Tryz.results122, Inst.enc, *]))
theorem rinoughts_c (b : List (BitVec 8)) (hb : b.length ≤ 9223372036854775807) : FnP Tryz.prog 149 [byS b] (.bool (allZ b)) := by
 unfold byS
 refine FnP.i Tryz.func149 rfl rfl fun G w => ?_
 repeat' (first | apply WK.s | apply WK.b | (refine hQ.h _ _ ?_; clear hQ hA) | (refine WK.rH Tryz.ntmps149 (by kernel_rfl) ?_; intro A hA Q hQ; simp [*]))
 refine WK.lI (fun n => n) (fun i : Nat => (⟨(upd (upd J 0 (.sl false b.length (byL b))) 3 (.int .i64 i)), B0, 0⟩ : St)) (fun i => i ≤ b.length ∧ ∀ j, j < i → nth b j = 0#8) (fun i => b.length - i) (0) (by repeat (first | exact TmW.nil | refine TmW.upd ?_ (by simp (maxDischargeDepth := 120)))) (by repeat (first | exact BxW.nil | refine BxW.upd ?_ (by simp (maxDischargeDepth := 120)))) InjW.id (⟨by omega, by simp⟩) (fun i hi IH => ?_)
 by_cases h1 : i < b.length
 · have h4 := by_get b i h1
   have h6 : IntKind.i64.wrap ((i : Int) + 1) = i + 1 := wrap_i64 (by omega) (by omega)
   have h7 := bI_zero (nth b i)
   cases h5 : nth b i == 0#8
   · have e : allZ b = false := by
       unfold allZ; rw [List.all_eq_false]; exact ⟨nth b i, nth_mem h1, by simp [h5]⟩
     rw [h5] at h7
     repeat' (first | apply WK.s | apply WK.b | apply WK.k | refine WK.cT rfl ?_ | (refine hQ.h _ _ ?_; clear hQ hA) | (refine WK.rH Tryz.ntmps149 (by kernel_rfl) ?_; intro A hA Q hQ; simp [bne, *]) | (refine WK.t Tryz.func149 ?_ ?_ <;> simp (maxDischargeDepth := 120) [Tryz.results149, bne, *]))
   · rw [h5] at h7
     repeat' (first | apply WK.s | apply WK.b | apply WK.n | apply WK.k | refine WK.cT rfl ?_ | refine WK.cF rfl ?_ | (refine hQ.h _ _ ?_; clear hQ hA) | (refine WK.rH Tryz.ntmps149 (by kernel_rfl) ?_; intro A hA Q hQ; simp [bne, *]))
     refine WK.next (fun n => n) (IH (i + 1) (⟨by omega, fun j hj => by by_cases h7 : j = i; (subst h7; simpa using h5); exact hi.2 j (by omega)⟩) (by first | omega | (dsimp only; omega))) (by repeat (first | exact TmW.nil | refine TmW.upd ?_ (by simp (maxDischargeDepth := 120)))) (by repeat (first | exact BxW.nil | refine BxW.upd ?_ (by simp (maxDischargeDepth := 120)))) InjW.id
 · have e : allZ b = true := by
     unfold allZ; rw [List.all_eq_true]; intro x hx
     obtain ⟨j, hj, rfl⟩ := mem_nth hx
     rw [hi.2 j (by omega)]; rfl
   repeat' (first | apply WK.s | refine WK.exit rfl ?_ | refine WK.cF rfl ?_ | (refine hQ.h _ _ ?_; clear hQ hA) | (refine WK.rH Tryz.ntmps149 (by kernel_rfl) ?_; intro A hA Q hQ; simp [*]) | (refine WK.t Tryz.func149 ?_ ?_ <;> simp (maxDischargeDepth := 120) [Tryz.results149, *]))
theorem rilaid_c (k : Int) (b : List (BitVec 8)) (hb : b.length ≤ 1000000) (h8 : 8 ≤ b.length) : FnP Tryz.prog 114 [.int .i64 k, byS b] (.bool (inLaid k b)) := by
 have p5 := rinoughts_c (b.drop 5) (by rw [List.length_drop]; omega)
 have p4 := rinoughts_c (b.drop 4) (by rw [List.length_drop]; omega)
 have p44 := rinoughts_c ((b.drop 4).take 4) (by rw [List.length_take, List.length_drop]; omega)
 have s5 : ((byL b).drop 5).take (b.length - 5) = byL (b.drop 5) := by rw [byL_drop]; exact by_full _ _ (by rw [List.length_drop])
 have s4 : ((byL b).drop 4).take (b.length - 4) = byL (b.drop 4) := by rw [byL_drop]; exact by_full _ _ (by rw [List.length_drop])
 have s44 : ((byL b).drop 4).take 4 = byL ((b.drop 4).take 4) := by rw [byL_drop, byL_take]
 have l44 : ((b.drop 4).take 4).length = 4 := by rw [List.length_take, List.length_drop]; omega
 have u5 : (5 : Int) ≤ b.length := by omega
 have u4 : (4 : Int) ≤ b.length := by omega
 have u8 : (8 : Int) ≤ b.length := by omega
 have z8 : ((b.length : Int) == 8) = (b.length == 8) := by rw [Bool.eq_iff_iff, beq_iff_eq, beq_iff_eq]; omega
 have z24 : ((b.length : Int) == 24) = (b.length == 24) := by rw [Bool.eq_iff_iff, beq_iff_eq, beq_iff_eq]; omega
 obtain ⟨q8, hq8⟩ : ∃ q, (b.length == 8) = q := ⟨_, rfl⟩
 obtain ⟨q24, hq24⟩ : ∃ q, (b.length == 24) = q := ⟨_, rfl⟩
 have hdef : inLaid k b = if k = 1 then q8 && allZ (b.drop 5) else if k = 2 then q24 && allZ ((b.drop 4).take 4) else if k = 5 then q8 && allZ (b.drop 4) else allZ ((b.drop 4).take 4) := by
   unfold inLaid; rw [hq8, hq24]
 rw [hq8] at z8
 rw [hq24] at z24
 simp only [byS, List.length_drop, l44] at p5 p4 p44 ⊢
 obtain ⟨a5, ha5⟩ : ∃ q, allZ (b.drop 5) = q := ⟨_, rfl⟩
 obtain ⟨a4, ha4⟩ : ∃ q, allZ (b.drop 4) = q := ⟨_, rfl⟩
 obtain ⟨a44, ha44⟩ : ∃ q, allZ ((b.drop 4).take 4) = q := ⟨_, rfl⟩
 rw [ha5] at p5 hdef
 rw [ha4] at p4 hdef
 rw [ha44] at p44 hdef
 obtain ⟨B5, hB5⟩ : ∃ q, b.drop 5 = q := ⟨_, rfl⟩
 obtain ⟨B44, hB44⟩ : ∃ q, (b.drop 4).take 4 = q := ⟨_, rfl⟩
 rw [hB44] at p44 s44
 obtain ⟨B4, hB4⟩ : ∃ q, b.drop 4 = q := ⟨_, rfl⟩
 rw [hB5] at p5 s5
 rw [hB4] at p4 s4
 rw [hdef]
 clear ha5 ha4 ha44 hdef l44 hq8 hq24 hB5 hB4 hB44
 refine FnP.i Tryz.func114 rfl rfl fun G w => ?_
 by_cases k1 : k = 1
 · subst k1
   repeat' (first | apply WK.s | apply WK.b | refine WK.cT rfl ?_ | (refine hQ.h _ _ ?_; clear hQ hA) | (refine Fork.mk (fun h => ?_) (fun h => ?_) <;> (first | (simp [*] at h; done) | (have h2 := h; simp at h2; exfalso; omega) | (have h2 := h; simp at h2; try simp only [Bool.not_eq_true', Bool.not_eq_false'] at h) | skip)) | (refine WK.rH Tryz.ntmps114 (by kernel_rfl) ?_; intro A hA Q hQ; simp [*]) | (refine RunQ.g rfl (by rw [hA.h]; rfl) ?_; simp [*]) | (refine RunQW.k rfl rfl rfl rfl ?_ (p5) ?_ ?_ <;> simp (maxDischargeDepth := 120) [*] <;> refine ⟨?_⟩) | (refine WK.t Tryz.func114 ?_ ?_ <;> simp (maxDischargeDepth := 120) [Tryz.results114, *]))
 have j1 : (k == 1) = false := by simpa using k1
 by_cases k2 : k = 2
 · subst k2
   repeat' (first | apply WK.s | apply WK.b | refine WK.cT rfl ?_ | refine WK.cF rfl ?_ | (refine hQ.h _ _ ?_; clear hQ hA) | (refine Fork.mk (fun h => ?_) (fun h => ?_) <;> (first | (simp [*] at h; done) | (have h2 := h; simp at h2; exfalso; omega) | (have h2 := h; simp at h2; try simp only [Bool.not_eq_true', Bool.not_eq_false'] at h) | skip)) | (refine WK.rH Tryz.ntmps114 (by kernel_rfl) ?_; intro A hA Q hQ; simp [*]) | (refine RunQ.g rfl (by rw [hA.h]; rfl) ?_; simp [*]) | (refine RunQW.k rfl rfl rfl rfl ?_ (p44) ?_ ?_ <;> simp (maxDischargeDepth := 120) [*] <;> refine ⟨?_⟩) | (refine WK.t Tryz.func114 ?_ ?_ <;> simp (maxDischargeDepth := 120) [Tryz.results114, *]))
 have j2 : (k == 2) = false := by simpa using k2
 by_cases k5 : k = 5
 · subst k5
   repeat' (first | apply WK.s | apply WK.b | refine WK.cT rfl ?_ | refine WK.cF rfl ?_ | (refine hQ.h _ _ ?_; clear hQ hA) | (refine Fork.mk (fun h => ?_) (fun h => ?_) <;> (first | (simp [*] at h; done) | (have h2 := h; simp at h2; exfalso; omega) | (have h2 := h; simp at h2; try simp only [Bool.not_eq_true', Bool.not_eq_false'] at h) | skip)) | (refine WK.rH Tryz.ntmps114 (by kernel_rfl) ?_; intro A hA Q hQ; simp [*]) | (refine RunQ.g rfl (by rw [hA.h]; rfl) ?_; simp [*]) | (refine RunQW.k rfl rfl rfl rfl ?_ (p4) ?_ ?_ <;> simp (maxDischargeDepth := 120) [*] <;> refine ⟨?_⟩) | (refine WK.t Tryz.func114 ?_ ?_ <;> simp (maxDischargeDepth := 120) [Tryz.results114, *]))
 have j5 : (k == 5) = false := by simpa using k5
 repeat' (first | apply WK.s | apply WK.b | apply WK.n | apply WK.k | refine WK.cF rfl ?_ | (refine hQ.h _ _ ?_; clear hQ hA) | (refine WK.rH Tryz.ntmps114 (by kernel_rfl) ?_; intro A hA Q hQ; simp [*]) | (refine RunQ.k rfl rfl rfl rfl rfl ?_ (p44) ?_ ?_ <;> simp (maxDischargeDepth := 120) [*] <;> refine ⟨?_⟩) | (refine WK.t Tryz.func114 ?_ ?_ <;> simp (maxDischargeDepth := 120) [Tryz.results114, *]))
def inOf0 (k : Int) (b : List (BitVec 8)) : Inst × Option (Int × Int) := match (inOf k b).2 with | some c => (inst0, some c) | none => inOf k b
theorem inOf0_some {k : Int} {b : List (BitVec 8)} {y : Inst} {c : Int × Int} (h : inOf k b = (y, some c)) : inOf0 k b = (inst0, some c) := by unfold inOf0; rw [h]
theorem inOf0_none {k : Int} {b : List (BitVec 8)} {y : Inst} (h : inOf k b = (y, none)) : inOf0 k b = (y, none) := by unfold inOf0; rw [h]
set_option maxHeartbeats 4000000 in
theorem rione_c (k : Int) (b : List (BitVec 8)) (hb : b.length ≤ 1000000) (h8 : 8 ≤ b.length) (h2 : k = 2 → 24 ≤ b.length) : FnP Tryz.prog 115 [.int .i64 k, byS b] (.tup [.agg (inOf0 k b).1.enc, .agg (gF (inOf0 k b).2)]) := by
 have b2 := ribad_c 2
 have b4 := ribad_c 4
 by_cases k1 : k = 1
 · subst k1
   have x4 := by_get b 4 (by omega)
   have w4 := u8_i64 (nth b 4)
   have u4 : (4 : Int) < b.length := by omega
   have v4 : 4 < b.length := by omega
   have e : inOf 1 b = (⟨1, (nth b 4).toNat, wideZ, wideZ, []⟩, if (nth b 4).toNat = 255 then some (3, 2) else none) := by unfold inOf; rw [if_pos rfl]
   have eb : bI (nth b 4) = ((nth b 4).toNat : Int) := rfl
   by_cases h255 : (nth b 4).toNat = 255
   · have j : (bI (nth b 4) == 255) = true := by rw [eb, h255]; rfl
     rw [inOf0_some (by rw [e, if_pos h255])]
     obtain ⟨z, hz⟩ : ∃ z, bI (nth b 4) = z := ⟨_, rfl⟩
     rw [hz] at x4 w4 j
     unfold byS
     clear hz eb e h255 b4
     refine FnP.i Tryz.func115 rfl rfl fun G w => ?_
     repeat' (first | apply WK.s | apply WK.b | refine WK.cT rfl ?_ | (refine hQ.h _ _ ?_; clear hQ hA) | (refine WK.rH Tryz.ntmps115 (by kernel_rfl) ?_; intro A hA Q hQ; simp [gF, Inst.enc, inst0, wideZ, uZ_, *]) | (refine RunQ.k rfl rfl rfl rfl rfl ?_ (b2) ?_ ?_ <;> simp (maxDischargeDepth := 120) [gF, Inst.enc, inst0, wideZ, uZ_, *] <;> refine ⟨?_⟩) | (refine WK.t Tryz.func115 ?_ ?_ <;> simp (maxDischargeDepth := 120) [Tryz.results115, gF, Inst.enc, inst0, wideZ, uZ_, *]))
   · have j : (bI (nth b 4) == 255) = false := by rw [eb, beq_eq_false_iff_ne]; omega
     rw [inOf0_none (by rw [e, if_neg h255]), ← eb]
     obtain ⟨z, hz⟩ : ∃ z, bI (nth b 4) = z := ⟨_, rfl⟩
     rw [hz] at x4 w4 j ⊢
     unfold byS
     clear hz eb e h255 b4
     refine FnP.i Tryz.func115 rfl rfl fun G w => ?_
     repeat' (first | apply WK.s | apply WK.b | apply WK.n | apply WK.k | refine WK.cT rfl ?_ | refine WK.cF rfl ?_ | (refine hQ.h _ _ ?_; clear hQ hA) | (refine WK.rH Tryz.ntmps115 (by kernel_rfl) ?_; intro A hA Q hQ; simp [gF, Inst.enc, wideZ, uZ_, *]) | (refine WK.t Tryz.func115 ?_ ?_ <;> simp (maxDischargeDepth := 120) [Tryz.results115, gF, Inst.enc, wideZ, uZ_, *]))
 have j1 : (k == 1) = false := by simpa using k1
 by_cases k2 : k = 2
 · subst k2
   have hb24 := h2 rfl
   have e : inOf 2 b = (⟨2, 0, (wGet (b.drop 8) 8).1, (wGet (b.drop 16) 8).1, []⟩, if inMeta (wGet (b.drop 8) 8).1 (wGet (b.drop 16) 8).1 = true then none else some (3, 4)) := by unfold inOf; rw [if_neg (by decide), if_pos rfl]
   have g1 := rwget_c (b.drop 8) 8 (by omega) (by rw [List.length_drop]; omega)
   have g2 := rwget_c (b.drop 16) 8 (by omega) (by rw [List.length_drop]; omega)
   have s8 : ((byL b).drop 8).take (b.length - 8) = byL (b.drop 8) := by rw [byL_drop]; exact by_full _ _ (by rw [List.length_drop])
   have s16 : ((byL b).drop 16).take (b.length - 16) = byL (b.drop 16) := by rw [byL_drop]; exact by_full _ _ (by rw [List.length_drop])
   have u8 : (8 : Int) ≤ b.length := by omega
   have u16 : (16 : Int) ≤ b.length := by omega
   obtain ⟨v, hv⟩ : ∃ v, wGet (b.drop 8) 8 = v := ⟨_, rfl⟩
   obtain ⟨m, hm⟩ : ∃ v, wGet (b.drop 16) 8 = v := ⟨_, rfl⟩
   obtain ⟨B8, h8'⟩ : ∃ v, b.drop 8 = v := ⟨_, rfl⟩
   obtain ⟨B16, h16'⟩ : ∃ v, b.drop 16 = v := ⟨_, rfl⟩
   rw [hv] at g1 e
   rw [hm] at g2 e
   rw [h8'] at g1 s8
   rw [h16'] at g2 s16
   have l8 : B8.length = b.length - 8 := by rw [← h8', List.length_drop]
   have l16 : B16.length = b.length - 16 := by rw [← h16', List.length_drop]
   have hme := rimeta_c ⟨2, 0, v.1, m.1, []⟩
   obtain ⟨v, vb⟩ := v
   obtain ⟨m, mb⟩ := m
   simp only at hme g1 g2 e
   obtain ⟨z, hz⟩ : ∃ z, inMeta v m = z := ⟨_, rfl⟩
   rw [hz] at hme e
   unfold Wide.enc at g1 g2
   unfold byS at *
   rw [l8] at g1
   rw [l16] at g2
   simp only [Inst.enc, List.length_nil, actL_nil] at hme
   clear hz hv hm h8' h16' l8 l16
   cases z
   · rw [inOf0_some (by rw [e, if_neg Bool.false_ne_true])]
     clear e
     refine FnP.i Tryz.func115 rfl rfl fun G w => ?_
     repeat' (first | apply WK.s | apply WK.b | refine WK.cT rfl ?_ | refine WK.cF rfl ?_ | (refine hQ.h _ _ ?_; clear hQ hA) | (refine WK.rH Tryz.ntmps115 (by kernel_rfl) ?_; intro A hA Q hQ; simp [gF, Inst.enc, inst0, wideZ, uZ_, *]) | (refine RunQ.k rfl rfl rfl rfl rfl ?_ (g1) ?_ ?_ <;> simp (maxDischargeDepth := 120) [gF, Inst.enc, inst0, wideZ, uZ_, *] <;> refine ⟨?_⟩) | (refine RunQ.k rfl rfl rfl rfl rfl ?_ (g2) ?_ ?_ <;> simp (maxDischargeDepth := 120) [gF, Inst.enc, inst0, wideZ, uZ_, *] <;> refine ⟨?_⟩) | (refine RunQ.k rfl rfl rfl rfl rfl ?_ (hme) ?_ ?_ <;> simp (maxDischargeDepth := 120) [gF, Inst.enc, inst0, wideZ, uZ_, *] <;> refine ⟨?_⟩) | (refine RunQ.k rfl rfl rfl rfl rfl ?_ (b4) ?_ ?_ <;> simp (maxDischargeDepth := 120) [gF, Inst.enc, inst0, wideZ, uZ_, *] <;> refine ⟨?_⟩) | (refine WK.t Tryz.func115 ?_ ?_ <;> simp (maxDischargeDepth := 120) [Tryz.results115, gF, Inst.enc, inst0, wideZ, uZ_, *]))
   · rw [inOf0_none (by rw [e, if_pos rfl])]
     clear e
     refine FnP.i Tryz.func115 rfl rfl fun G w => ?_
     repeat' (first | apply WK.s | apply WK.b | apply WK.n | apply WK.k | refine WK.cT rfl ?_ | refine WK.cF rfl ?_ | (refine hQ.h _ _ ?_; clear hQ hA) | (refine WK.rH Tryz.ntmps115 (by kernel_rfl) ?_; intro A hA Q hQ; simp [gF, Inst.enc, *]) | (refine RunQ.k rfl rfl rfl rfl rfl ?_ (g1) ?_ ?_ <;> simp (maxDischargeDepth := 120) [gF, Inst.enc, *] <;> refine ⟨?_⟩) | (refine RunQ.k rfl rfl rfl rfl rfl ?_ (g2) ?_ ?_ <;> simp (maxDischargeDepth := 120) [gF, Inst.enc, *] <;> refine ⟨?_⟩) | (refine RunQ.k rfl rfl rfl rfl rfl ?_ (hme) ?_ ?_ <;> simp (maxDischargeDepth := 120) [gF, Inst.enc, *] <;> refine ⟨?_⟩) | (refine WK.t Tryz.func115 ?_ ?_ <;> simp (maxDischargeDepth := 120) [Tryz.results115, gF, Inst.enc, *]))
 have j2 : (k == 2) = false := by simpa using k2
 have ha := racdecP_c (b.drop 8) (by rw [List.length_drop]; omega)
 have s8 : ((byL b).drop 8).take (b.length - 8) = byL (b.drop 8) := by rw [byL_drop]; exact by_full _ _ (by rw [List.length_drop])
 have u8 : (8 : Int) ≤ b.length := by omega
 have l8 : (b.drop 8).length = b.length - 8 := by rw [List.length_drop]
 have e34 : k = 3 ∨ k = 4 → inOf k b = (⟨k, 0, wideZ, wideZ, (acDec (b.drop 8)).1⟩, (acDec (b.drop 8)).2.map fun c => (2, c)) := fun h => by unfold inOf; rw [if_neg k1, if_neg k2, if_pos h]
 have e5 : ¬ (k = 3 ∨ k = 4) → inOf k b = (⟨k, 0, wideZ, wideZ, []⟩, none) := fun h => by unfold inOf; rw [if_neg k1, if_neg k2, if_neg h]
 obtain ⟨B8, h8'⟩ : ∃ v, b.drop 8 = v := ⟨_, rfl⟩
 obtain ⟨R, hR⟩ : ∃ R, acDec (b.drop 8) = R := ⟨_, rfl⟩
 rw [hR] at ha e34
 rw [h8'] at ha s8 l8
 obtain ⟨l, f⟩ := R
 rw [aFault_g] at ha
 simp only [byS, actS, l8] at ha ⊢
 clear hR h8' l8 b2 b4
 by_cases k3 : k = 3
 · subst k3
   have e := e34 (.inl rfl)
   clear e34 e5
   cases f with
   | some c =>
     rw [inOf0_some e]
     clear e
     refine FnP.i Tryz.func115 rfl rfl fun G w => ?_
     repeat' (first | apply WK.s | apply WK.b | apply WK.k | refine WK.cT rfl ?_ | refine WK.cF rfl ?_ | (refine hQ.h _ _ ?_; clear hQ hA) | (refine WK.rH Tryz.ntmps115 (by kernel_rfl) ?_; intro A hA Q hQ; simp [gF, Inst.enc, inst0, wideZ, uZ_, *]) | (refine WK.rX (by kernel_rfl) Tryz.ntmps115 (by kernel_rfl) ?_; intro A hA Q hQ; simp [gF, Inst.enc, inst0, wideZ, uZ_, *]) | (refine hQ.h _ _ _ (by decide +kernel) ?_; clear hQ hA) | (refine RunQ.k rfl rfl rfl rfl rfl ?_ (ha) ?_ ?_ <;> simp (maxDischargeDepth := 120) [gF, Inst.enc, inst0, wideZ, uZ_, *] <;> refine ⟨?_⟩) | (refine WK.t Tryz.func115 ?_ ?_ <;> simp (maxDischargeDepth := 120) [Tryz.results115, gF, Inst.enc, inst0, wideZ, uZ_, *]))
   | none =>
     rw [inOf0_none e]
     clear e
     refine FnP.i Tryz.func115 rfl rfl fun G w => ?_
     repeat' (first | apply WK.s | apply WK.b | apply WK.n | apply WK.k | refine WK.cT rfl ?_ | refine WK.cF rfl ?_ | (refine hQ.h _ _ ?_; clear hQ hA) | (refine WK.rH Tryz.ntmps115 (by kernel_rfl) ?_; intro A hA Q hQ; simp [gF, Inst.enc, wideZ, uZ_, *]) | (refine RunQ.k rfl rfl rfl rfl rfl ?_ (ha) ?_ ?_ <;> simp (maxDischargeDepth := 120) [gF, Inst.enc, wideZ, uZ_, *] <;> refine ⟨?_⟩) | (refine WK.t Tryz.func115 ?_ ?_ <;> simp (maxDischargeDepth := 120) [Tryz.results115, gF, Inst.enc, wideZ, uZ_, *]))
 have j3 : (k == 3) = false := by simpa using k3
 by_cases k4 : k = 4
 · subst k4
   have e := e34 (.inr rfl)
   clear e34 e5
   cases f with
   | some c =>
     rw [inOf0_some e]
     clear e
     refine FnP.i Tryz.func115 rfl rfl fun G w => ?_
     repeat' (first | apply WK.s | apply WK.b | refine WK.cT rfl ?_ | refine WK.cF rfl ?_ | (refine hQ.h _ _ ?_; clear hQ hA) | (refine WK.rH Tryz.ntmps115 (by kernel_rfl) ?_; intro A hA Q hQ; simp [gF, Inst.enc, inst0, wideZ, uZ_, *]) | (refine WK.rX (by kernel_rfl) Tryz.ntmps115 (by kernel_rfl) ?_; intro A hA Q hQ; simp [gF, Inst.enc, inst0, wideZ, uZ_, *]) | (refine hQ.h _ _ _ (by decide +kernel) ?_; clear hQ hA) | (refine RunQ.k rfl rfl rfl rfl rfl ?_ (ha) ?_ ?_ <;> simp (maxDischargeDepth := 120) [gF, Inst.enc, inst0, wideZ, uZ_, *] <;> refine ⟨?_⟩) | (refine WK.t Tryz.func115 ?_ ?_ <;> simp (maxDischargeDepth := 120) [Tryz.results115, gF, Inst.enc, inst0, wideZ, uZ_, *]))
   | none =>
     rw [inOf0_none e]
     clear e
     refine FnP.i Tryz.func115 rfl rfl fun G w => ?_
     repeat' (first | apply WK.s | apply WK.b | apply WK.n | apply WK.k | refine WK.cT rfl ?_ | refine WK.cF rfl ?_ | (refine hQ.h _ _ ?_; clear hQ hA) | (refine WK.rH Tryz.ntmps115 (by kernel_rfl) ?_; intro A hA Q hQ; simp [gF, Inst.enc, wideZ, uZ_, *]) | (refine RunQ.k rfl rfl rfl rfl rfl ?_ (ha) ?_ ?_ <;> simp (maxDischargeDepth := 120) [gF, Inst.enc, wideZ, uZ_, *] <;> refine ⟨?_⟩) | (refine WK.t Tryz.func115 ?_ ?_ <;> simp (maxDischargeDepth := 120) [Tryz.results115, gF, Inst.enc, wideZ, uZ_, *]))
 have j4 : (k == 4) = false := by simpa using k4
 rw [inOf0_none (e5 (by omega))]
 clear e34 e5 ha s8
 refine FnP.i Tryz.func115 rfl rfl fun G w => ?_
 repeat' (first | apply WK.s | apply WK.b | apply WK.n | apply WK.k | refine WK.cF rfl ?_ | (refine hQ.h _ _ ?_; clear hQ hA) | (refine WK.rH Tryz.ntmps115 (by kernel_rfl) ?_; intro A hA Q hQ; simp [gF, Inst.enc, wideZ, uZ_, *]) | (refine WK.t Tryz.func115 ?_ ?_ <;> simp (maxDischargeDepth := 120) [Tryz.results115, gF, Inst.enc, wideZ, uZ_, *]))
theorem inFind_hit {l : List Inst} {k : Int} {i : Nat} (h : i < l.length) (hk : (nth l i).kind = k) (hn : ∀ j, j < i → ¬ (nth l j).kind = k) : inFind l k = (nth l i, true) := by
 unfold inFind
 have : l.find? (fun i => i.kind == k) = some (nth l i) := by
   rw [List.find?_eq_some_iff_getElem]
   refine ⟨by simpa using hk, i, h, by rw [nth_eq h], fun j hj => ?_⟩
   have := hn j hj
   rw [nth_eq (by omega)] at this
   simpa using this
 rw [this]
theorem inFind_miss {l : List Inst} {k : Int} (hn : ∀ j, j < l.length → ¬ (nth l j).kind = k) : inFind l k = (inst0, false) := by
 unfold inFind
 have : l.find? (fun i => i.kind == k) = none := by
   rw [List.find?_eq_none]
   intro x hx
   obtain ⟨j, hj, rfl⟩ := mem_nth hx
   simpa using hn j hj
 rw [this]

theorem inFind_snd (l : List Inst) (k : Int) : (inFind l k).2 = decide (k ∈ inKinds l) := by
 unfold inFind
 cases h : l.find? (fun i => i.kind == k) with
 | none =>
   rw [List.find?_eq_none] at h
   have : k ∉ inKinds l := by
     intro hk
     unfold inKinds at hk
     obtain ⟨x, hx, rfl⟩ := List.mem_map.1 hk
     exact h x hx (by simp)
   simp [this]
 | some i =>
   have hm := List.mem_of_find?_eq_some h
   have hp := List.find?_some h
   have : k ∈ inKinds l := List.mem_map.2 ⟨i, hm, by simpa using hp⟩
   simp [this]

theorem riofB_c (L : List Inst) (k : Int) (hl : L.length ≤ 1000000) : FnB Tryz.prog 87 [.msl 0 0 L.length, .int .i64 k] (.buf 7 (instL L)) (.tup [.agg (inFind L k).1.enc, .bool (inFind L k).2]) (.buf 7 (instL L)) := by
 refine FnB.intro Tryz.func87 rfl rfl fun G w l => ?_
 refine WK.anyNx (n := 1000) ?_
 repeat' (first | apply WK.s | apply WK.b | (refine hQ.h _ _ ?_; clear hQ hA) | (refine WK.rH Tryz.ntmps87 (by kernel_rfl) ?_; intro A hA Q hQ; simp [*]))
 refine WK.lI (fun n => n) (fun i : Nat => (⟨(upd (upd (upd (upd (upd J 0 (.msl 0 0 L.length)) 1 (.int .i64 k)) 4 (.ptr 1000 0)) 5 (.bool false)) 6 (.int .i64 i)), (upd (upd B0 0 (.buf 7 (instL L))) 1000 (.var inst0.enc)), 0⟩ : St)) (fun i => i ≤ L.length ∧ ∀ j, j < i → ¬ (nth L j).kind = k) (fun i => L.length - i) (0) (by repeat (first | exact TmW.nil | refine TmW.upd ?_ (by simp (maxDischargeDepth := 120) [inst0, Inst.enc, wideZ, uZ_]))) (by repeat (first | exact BxW.nil | refine BxW.upd ?_ (by simp (maxDischargeDepth := 120) [inst0, Inst.enc, wideZ, uZ_]))) InjW.id (⟨by omega, by simp⟩) (fun i hi IH => ?_)
 by_cases h1 : i < L.length
 · have h4 := inst_sub L i h1
   have h3 : 7 ≤ L.length * 7 - i * 7 := by omega
   have h0 := inst_get0 L i h1
   have h6 : IntKind.i64.wrap ((i : Int) + 1) = i + 1 := wrap_i64 (by omega) (by omega)
   have l0 : i * 7 < L.length * 7 := by omega
   have l7 : i * 7 + 7 ≤ L.length * 7 := by omega
   by_cases hk : (nth L i).kind = k
   · have e := inFind_hit h1 hk hi.2
     have jk : ((nth L i).kind == k) = true := by simpa using hk
     rw [e]
     obtain ⟨x, hx⟩ : ∃ x, nth L i = x := ⟨_, rfl⟩
     rw [hx] at h4 h0 jk ⊢
     clear hx hk e hi IH
     simp only [Inst.enc] at h4
     repeat' (first | apply WK.s | apply WK.b | apply WK.k | refine WK.cT rfl ?_ | (refine hQ.h _ _ ?_; clear hQ hA) | (refine WK.rH Tryz.ntmps87 (by kernel_rfl) ?_; intro A hA Q hQ; simp [Inst.enc, inst0, wideZ, uZ_, *]))
     refine WK.retB Tryz.func87 (by simp (maxDischargeDepth := 120) [Tryz.results87, Inst.enc]) (by simp [Inst.enc]) rfl (.inr ⟨_, rfl⟩)
   · have jk : ((nth L i).kind == k) = false := by simpa using hk
     have hj : ∀ j, j < i + 1 → ¬ (nth L j).kind = k := fun j hj => by
       by_cases h7 : j = i
       · subst h7; exact hk
       · exact hi.2 j (by omega)
     obtain ⟨x, hx⟩ : ∃ x, nth L i = x := ⟨_, rfl⟩
     rw [hx] at h4 h0 jk
     clear hx hk hi
     simp only [Inst.enc] at h4
     repeat' (first | apply WK.s | apply WK.b | apply WK.n | apply WK.k | refine WK.cT rfl ?_ | refine WK.cF rfl ?_ | (refine hQ.h _ _ ?_; clear hQ hA) | (refine WK.rH Tryz.ntmps87 (by kernel_rfl) ?_; intro A hA Q hQ; simp [Inst.enc, inst0, wideZ, uZ_, *]))
     refine WK.next (fun n => n) (IH (i + 1) (⟨by omega, hj⟩) (by first | omega | (dsimp only; omega))) (by repeat (first | exact TmW.nil | refine TmW.upd ?_ (by simp (maxDischargeDepth := 120) [inst0, Inst.enc, wideZ, uZ_]))) (by repeat (first | exact BxW.nil | refine BxW.upd ?_ (by simp (maxDischargeDepth := 120) [inst0, Inst.enc, wideZ, uZ_]))) InjW.id
 · have e := inFind_miss (k := k) (l := L) (fun j hj => hi.2 j (by omega))
   rw [e]
   clear hi IH e
   repeat' (first | apply WK.s | refine WK.exit rfl ?_ | refine WK.cF rfl ?_ | (refine hQ.h _ _ ?_; clear hQ hA) | (refine WK.rH Tryz.ntmps87 (by kernel_rfl) ?_; intro A hA Q hQ; simp [inst0, Inst.enc, wideZ, uZ_, *]))
   refine WK.retB Tryz.func87 (by simp (maxDischargeDepth := 120) [Tryz.results87, inst0, Inst.enc, wideZ, uZ_]) (by simp [inst0, Inst.enc, wideZ, uZ_]) rfl (.inr ⟨_, rfl⟩)
theorem inCut_at {b : List (BitVec 8)} {p kn n : Nat} (h : p + 8 ≤ b.length) (hk : getN b p 2 = ((kn : Int), 0)) (hn : getN b (p + 2) 2 = ((n : Int), 0)) : inCut (b.drop p) =
   if n < 8 ∨ ¬ n % 8 = 0 ∨ b.length - p < n then (0, 0, some (3, 7)) else if kn = 6 then (0, 0, some (3, 1)) else if kn < 1 ∨ 5 < kn then (0, 0, some (3, 0))
   else if inLaid kn ((b.drop p).take n) = false then (0, 0, some (3, 7)) else ((kn : Int), n, none) := by
 rw [getN_val (by omega)] at hk hn
 simp only [Prod.mk.injEq, and_true] at hk hn
 have h1 : valN (((b.drop p).drop 0).take 2) = kn := by rw [List.drop_drop, Nat.add_zero]; omega
 have h2 : valN (((b.drop p).drop 2).take 2) = n := by rw [List.drop_drop]; omega
 unfold inCut
 rw [if_neg (by rw [List.length_drop]; omega), h1, h2, List.length_drop]
set_option maxHeartbeats 8000000 in
theorem ridec_c (b : List (BitVec 8)) (hb : b.length ≤ 100000) : FnT Tryz.prog 74 [byS b] (inDec b).1.length 7 (instL (inDec b).1) [.agg (gF (inDec b).2)] := by
 have b7 := ribad_c 7
 have b1 := ribad_c 1
 have b0 := ribad_c 0
 have b9 := ribad_c 9
 unfold byS
 refine FnT.intro Tryz.func74 rfl rfl fun G w => ?_
 repeat' (first | apply WK.s | apply WK.b | (refine hQ.h _ _ ?_; clear hQ hA) | (refine WK.rH Tryz.ntmps74 (by kernel_rfl) ?_; intro A hA Q hQ; simp [*]))
 refine WK.ghost (Ghost.own 4 900 7 rfl rfl) ?_
 refine WK.lI (fun n => if n = 60 then 900 else n) (fun x : Nat × Nat × List Inst => (⟨(upd (upd (upd (upd (upd J 0 (.sl false b.length (byL b))) 2 (.sl true 0 [])) 3 (.ptr 1 0)) 4 (.msl 60 0 x.2.2.length)) 5 (.int .i64 x.2.1)), (upd (upd B0 1 (.var (gF none))) 60 (.buf 7 (instL x.2.2))), 0⟩ : St)) (fun x => InAt b x) (fun x => b.length - x.2.1) ((b.length, 0, [])) (by repeat (first | exact TmW.nil | refine TmW.upd ?_ (by simp (maxDischargeDepth := 120) [gF]))) (by repeat (first | exact BxW.nil | refine BxW.upd ?_ (by simp (maxDischargeDepth := 120) [gF]))) (by first | exact InjW.id | exact InjW.nil | exact InjW.one | exact InjW.two (by simp) | exact InjW.three (by simp) (by simp) (by simp)) (InAt.start b) (fun i hi IH => ?_)
 obtain ⟨f, p, acc⟩ := i
 have hsm := hi.small
 have hle := hi.le
 have hnd := hi.once
 simp only at hsm hle hi hnd ⊢
 by_cases h1 : p < b.length
 · have h1' : (p : Int) < b.length := by omega
   have w1 : IntKind.i64.wrap ((b.length : Int) - (p : Int)) = (b.length : Int) - (p : Int) := wrap_i64 (by omega) (by omega)
   by_cases c0 : b.length - p < 8
   · have hd : inCut (b.drop p) = (0, 0, some (3, 7)) := by unfold inCut; rw [if_pos (by rw [List.length_drop]; exact c0)]
     have e := InAt.bad hi h1 (inStep_cut hd)
     have c0' : (b.length : Int) - p < 8 := by omega
     rw [e]
     clear b1 b0 b9 hd c0
     repeat' (first | apply WK.s | apply WK.b | apply WK.k | refine WK.cT rfl ?_ | (refine hQ.h _ _ ?_; clear hQ hA) | (refine WK.rH Tryz.ntmps74 (by kernel_rfl) ?_; intro A hA Q hQ; simp [gF, *]) | (refine RunQ.k rfl rfl rfl rfl rfl ?_ (b7) ?_ ?_ <;> simp (maxDischargeDepth := 120) [gF, *] <;> refine ⟨?_⟩))
     refine WK.ghost (Ghost.own 2 901 7 rfl rfl) ?_
     refine WK.retT2 Tryz.func74 ?_ ?_ ?_ <;> simp (maxDischargeDepth := 120) [Tryz.results74, iN_, gF]
   have c0' : ¬ (b.length : Int) - p < 8 := by omega
   have g0 := rget_c b p 2 Sz2 (by omega) (by omega)
   have g1 := rget_c b (p + 2) 2 Sz2 (by omega) (by omega)
   have hk0 : getN b p 2 = ((valN ((b.drop p).take 2) : Int), 0) := getN_val (by omega)
   have hn0 : getN b (p + 2) 2 = ((valN ((b.drop (p + 2)).take 2) : Int), 0) := getN_val (by omega)
   have hlk : valN ((b.drop p).take 2) < 65536 := valN_lt 2 _ (by rw [List.length_take, List.length_drop]; omega)
   have hln : valN ((b.drop (p + 2)).take 2) < 65536 := valN_lt 2 _ (by rw [List.length_take, List.length_drop]; omega)
   have hd := inCut_at (by omega) hk0 hn0
   rw [hk0] at g0
   rw [hn0] at g1
   obtain ⟨n, hn⟩ : ∃ n, valN ((b.drop (p + 2)).take 2) = n := ⟨_, rfl⟩
   obtain ⟨k, hk⟩ : ∃ k, valN ((b.drop p).take 2) = k := ⟨_, rfl⟩
   rw [hn] at g1 hd hln
   rw [hk] at g0 hd hlk
   unfold byS at g0 g1
   clear hn hk hk0 hn0
   have pw_p2 : IntKind.i64.wrap ((p : Int) + 2) = (p : Int) + 2 := wrap_i64 (by omega) (by omega)
   have z7 : ((n : Int).tmod 8 == 0) = (n % 8 == 0) := by rw [Int.tmod_eq_emod_of_nonneg (by omega), Bool.eq_iff_iff, beq_iff_eq, beq_iff_eq]; omega
   by_cases c1 : n < 8
   · rw [if_pos (.inl c1)] at hd
     have e := InAt.bad hi h1 (inStep_cut hd)
     have d1 : (n : Int) < 8 := by omega
     rw [e]
     clear b1 b0 b9 hd c0
     repeat' (first | apply WK.s | apply WK.b | apply WK.k | refine WK.cT rfl ?_ | refine WK.cF rfl ?_ | (refine hQ.h _ _ ?_; clear hQ hA) | (refine WK.rH Tryz.ntmps74 (by kernel_rfl) ?_; intro A hA Q hQ; simp [gF, *]) | (refine RunQ.g rfl (by rw [hA.h]; rfl) ?_; simp [gF, *]) | (refine RunQ.k rfl rfl rfl rfl rfl ?_ (g0) ?_ ?_ <;> simp (maxDischargeDepth := 120) [gF, *] <;> refine ⟨?_⟩) | (refine RunQ.k rfl rfl rfl rfl rfl ?_ (g1) ?_ ?_ <;> simp (maxDischargeDepth := 120) [gF, *] <;> refine ⟨?_⟩) | (refine RunQ.k rfl rfl rfl rfl rfl ?_ (b7) ?_ ?_ <;> simp (maxDischargeDepth := 120) [gF, *] <;> refine ⟨?_⟩))
     refine WK.ghost (Ghost.own 2 901 7 rfl rfl) ?_
     refine WK.retT2 Tryz.func74 ?_ ?_ ?_ <;> simp (maxDischargeDepth := 120) [Tryz.results74, iN_, gF]
   have d1 : ¬ (n : Int) < 8 := by omega
   by_cases c2 : n % 8 = 0
   case neg =>
     rw [if_pos (.inr (.inl c2))] at hd
     have e := InAt.bad hi h1 (inStep_cut hd)
     have d2 : (n % 8 == 0) = false := by simpa using c2
     rw [d2] at z7
     rw [e]
     clear b1 b0 b9 hd c0 c2 d2
     repeat' (first | apply WK.s | apply WK.b | apply WK.k | refine WK.cT rfl ?_ | refine WK.cF rfl ?_ | (refine hQ.h _ _ ?_; clear hQ hA) | (refine WK.rH Tryz.ntmps74 (by kernel_rfl) ?_; intro A hA Q hQ; simp [gF, bne, *]) | (refine RunQ.g rfl (by rw [hA.h]; rfl) ?_; simp [gF, bne, *]) | (refine RunQ.k rfl rfl rfl rfl rfl ?_ (g0) ?_ ?_ <;> simp (maxDischargeDepth := 120) [gF, bne, *] <;> refine ⟨?_⟩) | (refine RunQ.k rfl rfl rfl rfl rfl ?_ (g1) ?_ ?_ <;> simp (maxDischargeDepth := 120) [gF, bne, *] <;> refine ⟨?_⟩) | (refine RunQ.k rfl rfl rfl rfl rfl ?_ (b7) ?_ ?_ <;> simp (maxDischargeDepth := 120) [gF, bne, *] <;> refine ⟨?_⟩))
     refine WK.ghost (Ghost.own 2 901 7 rfl rfl) ?_
     refine WK.retT2 Tryz.func74 ?_ ?_ ?_ <;> simp (maxDischargeDepth := 120) [Tryz.results74, iN_, gF]
   have d2 : (n % 8 == 0) = true := by simpa using c2
   rw [d2] at z7
   by_cases c3 : b.length - p < n
   · rw [if_pos (.inr (.inr c3))] at hd
     have e := InAt.bad hi h1 (inStep_cut hd)
     have d3 : (b.length : Int) - p < n := by omega
     rw [e]
     clear b1 b0 b9 hd c0 c2 d2
     repeat' (first | apply WK.s | apply WK.b | apply WK.k | refine WK.cT rfl ?_ | refine WK.cF rfl ?_ | (refine hQ.h _ _ ?_; clear hQ hA) | (refine WK.rH Tryz.ntmps74 (by kernel_rfl) ?_; intro A hA Q hQ; simp [gF, bne, *]) | (refine RunQ.g rfl (by rw [hA.h]; rfl) ?_; simp [gF, bne, *]) | (refine RunQ.k rfl rfl rfl rfl rfl ?_ (g0) ?_ ?_ <;> simp (maxDischargeDepth := 120) [gF, bne, *] <;> refine ⟨?_⟩) | (refine RunQ.k rfl rfl rfl rfl rfl ?_ (g1) ?_ ?_ <;> simp (maxDischargeDepth := 120) [gF, bne, *] <;> refine ⟨?_⟩) | (refine RunQ.k rfl rfl rfl rfl rfl ?_ (b7) ?_ ?_ <;> simp (maxDischargeDepth := 120) [gF, bne, *] <;> refine ⟨?_⟩))
     refine WK.ghost (Ghost.own 2 901 7 rfl rfl) ?_
     refine WK.retT2 Tryz.func74 ?_ ?_ ?_ <;> simp (maxDischargeDepth := 120) [Tryz.results74, iN_, gF]
   have d3 : ¬ (b.length : Int) - p < n := by omega
   rw [if_neg (by rintro (h | h | h); omega; exact h c2; omega)] at hd
   by_cases k6 : k = 6
   · rw [if_pos k6] at hd
     subst k6
     have e := InAt.bad hi h1 (inStep_cut hd)
     rw [e]
     clear b7 b0 b9 hd c0 c2 d2
     repeat' (first | apply WK.s | apply WK.b | apply WK.k | refine WK.cT rfl ?_ | refine WK.cF rfl ?_ | (refine hQ.h _ _ ?_; clear hQ hA) | (refine WK.rH Tryz.ntmps74 (by kernel_rfl) ?_; intro A hA Q hQ; simp [gF, bne, *]) | (refine RunQ.g rfl (by rw [hA.h]; rfl) ?_; simp [gF, bne, *]) | (refine RunQ.k rfl rfl rfl rfl rfl ?_ (g0) ?_ ?_ <;> simp (maxDischargeDepth := 120) [gF, bne, *] <;> refine ⟨?_⟩) | (refine RunQ.k rfl rfl rfl rfl rfl ?_ (g1) ?_ ?_ <;> simp (maxDischargeDepth := 120) [gF, bne, *] <;> refine ⟨?_⟩) | (refine RunQ.k rfl rfl rfl rfl rfl ?_ (b1) ?_ ?_ <;> simp (maxDischargeDepth := 120) [gF, bne, *] <;> refine ⟨?_⟩))
     refine WK.ghost (Ghost.own 2 901 7 rfl rfl) ?_
     refine WK.retT2 Tryz.func74 ?_ ?_ ?_ <;> simp (maxDischargeDepth := 120) [Tryz.results74, iN_, gF]
   have j6 : ((k : Int) == 6) = false := by rw [beq_eq_false_iff_ne]; omega
   rw [if_neg k6] at hd
   by_cases k0 : k < 1
   · rw [if_pos (.inl k0)] at hd
     have e := InAt.bad hi h1 (inStep_cut hd)
     have j0 : (k : Int) < 1 := by omega
     rw [e]
     clear b7 b1 b9 hd c0 c2 d2 k6
     repeat' (first | apply WK.s | apply WK.b | apply WK.k | refine WK.cT rfl ?_ | refine WK.cF rfl ?_ | (refine hQ.h _ _ ?_; clear hQ hA) | (refine WK.rH Tryz.ntmps74 (by kernel_rfl) ?_; intro A hA Q hQ; simp [gF, bne, *]) | (refine RunQ.g rfl (by rw [hA.h]; rfl) ?_; simp [gF, bne, *]) | (refine RunQ.k rfl rfl rfl rfl rfl ?_ (g0) ?_ ?_ <;> simp (maxDischargeDepth := 120) [gF, bne, *] <;> refine ⟨?_⟩) | (refine RunQ.k rfl rfl rfl rfl rfl ?_ (g1) ?_ ?_ <;> simp (maxDischargeDepth := 120) [gF, bne, *] <;> refine ⟨?_⟩) | (refine RunQ.k rfl rfl rfl rfl rfl ?_ (b0) ?_ ?_ <;> simp (maxDischargeDepth := 120) [gF, bne, *] <;> refine ⟨?_⟩))
     refine WK.ghost (Ghost.own 2 901 7 rfl rfl) ?_
     refine WK.retT2 Tryz.func74 ?_ ?_ ?_ <;> simp (maxDischargeDepth := 120) [Tryz.results74, iN_, gF]
   have j0 : ¬ (k : Int) < 1 := by omega
   by_cases k5 : 5 < k
   · rw [if_pos (.inr k5)] at hd
     have e := InAt.bad hi h1 (inStep_cut hd)
     have j5 : (5 : Int) < k := by omega
     rw [e]
     clear b7 b1 b9 hd c0 c2 d2 k6
     repeat' (first | apply WK.s | apply WK.b | apply WK.k | refine WK.cT rfl ?_ | refine WK.cF rfl ?_ | (refine hQ.h _ _ ?_; clear hQ hA) | (refine WK.rH Tryz.ntmps74 (by kernel_rfl) ?_; intro A hA Q hQ; simp [gF, bne, *]) | (refine RunQ.g rfl (by rw [hA.h]; rfl) ?_; simp [gF, bne, *]) | (refine RunQ.k rfl rfl rfl rfl rfl ?_ (g0) ?_ ?_ <;> simp (maxDischargeDepth := 120) [gF, bne, *] <;> refine ⟨?_⟩) | (refine RunQ.k rfl rfl rfl rfl rfl ?_ (g1) ?_ ?_ <;> simp (maxDischargeDepth := 120) [gF, bne, *] <;> refine ⟨?_⟩) | (refine RunQ.k rfl rfl rfl rfl rfl ?_ (b0) ?_ ?_ <;> simp (maxDischargeDepth := 120) [gF, bne, *] <;> refine ⟨?_⟩))
     refine WK.ghost (Ghost.own 2 901 7 rfl rfl) ?_
     refine WK.retT2 Tryz.func74 ?_ ?_ ?_ <;> simp (maxDischargeDepth := 120) [Tryz.results74, iN_, gF]
   have j5 : ¬ (5 : Int) < k := by omega
   rw [if_neg (by omega)] at hd
   have hBl : ((b.drop p).take n).length = n := by rw [List.length_take, List.length_drop]; omega
   have hl := rilaid_c k ((b.drop p).take n) (by omega) (by omega)
   have hs : ((byL b).drop p).take n = byL ((b.drop p).take n) := by rw [byL_drop, byL_take]
   have wn : IntKind.i64.wrap ((p : Int) + (n : Int)) = (p : Int) + (n : Int) := wrap_i64 (by omega) (by omega)
   have d4 : (p : Int) + n ≤ b.length := by omega
   have d6 : (p : Int) ≤ (p : Int) + n := by omega
   have d7 : p + n - p = n := by omega
   obtain ⟨q, hq⟩ : ∃ q, inLaid k ((b.drop p).take n) = q := ⟨_, rfl⟩
   rw [hq] at hl hd
   simp only [byS, hBl] at hl
   clear b1 b0 c0 c2 d2 k6
   cases q
   · rw [if_pos rfl] at hd
     have e := InAt.bad hi h1 (inStep_cut hd)
     rw [e]
     obtain ⟨B, hB⟩ : ∃ B, (b.drop p).take n = B := ⟨_, rfl⟩
     rw [hB] at hl hs
     clear hd hB hq hBl b9
     repeat' (first | apply WK.s | apply WK.b | apply WK.k | refine WK.cT rfl ?_ | refine WK.cF rfl ?_ | (refine hQ.h _ _ ?_; clear hQ hA) | (refine WK.rH Tryz.ntmps74 (by kernel_rfl) ?_; intro A hA Q hQ; simp [gF, bne, *]) | (refine RunQ.g rfl (by rw [hA.h]; rfl) ?_; simp [gF, bne, *]) | (refine RunQ.k rfl rfl rfl rfl rfl ?_ (g0) ?_ ?_ <;> simp (maxDischargeDepth := 120) [gF, bne, *] <;> refine ⟨?_⟩) | (refine RunQ.k rfl rfl rfl rfl rfl ?_ (g1) ?_ ?_ <;> simp (maxDischargeDepth := 120) [gF, bne, *] <;> refine ⟨?_⟩) | (refine RunQ.k rfl rfl rfl rfl rfl ?_ (hl) ?_ ?_ <;> simp (maxDischargeDepth := 120) [gF, bne, *] <;> refine ⟨?_⟩) | (refine RunQ.k rfl rfl rfl rfl rfl ?_ (b7) ?_ ?_ <;> simp (maxDischargeDepth := 120) [gF, bne, *] <;> refine ⟨?_⟩))
     refine WK.ghost (Ghost.own 2 901 7 rfl rfl) ?_
     refine WK.retT2 Tryz.func74 ?_ ?_ ?_ <;> simp (maxDischargeDepth := 120) [Tryz.results74, iN_, gF]
   rw [if_neg (by simp)] at hd
   have hofB := riofB_c acc k (by omega)
   have hfs := inFind_snd acc k
   obtain ⟨yy, bo, hyb⟩ : ∃ y bo, inFind acc k = (y, bo) := ⟨_, _, rfl⟩
   rw [hyb] at hofB hfs
   simp only at hofB hfs
   simp only [Inst.enc] at hofB
   clear hyb b7
   cases bo
   case true =>
     have e := InAt.bad hi h1 (inStep_two hd (of_decide_eq_true hfs.symm))
     rw [e]
     obtain ⟨B, hB⟩ : ∃ B, (b.drop p).take n = B := ⟨_, rfl⟩
     rw [hB] at hl hs
     clear hd hB hq hBl hfs
     repeat' (first | apply WK.s | apply WK.b | apply WK.n | apply WK.k | refine WK.cT rfl ?_ | refine WK.cF rfl ?_ | (refine hQ.h _ _ ?_; clear hQ hA) | (refine WK.rH Tryz.ntmps74 (by kernel_rfl) ?_; intro A hA Q hQ; simp [gF, bne, *]) | (refine RunQ.g rfl (by rw [hA.h]; rfl) ?_; simp [gF, bne, *]) | (refine RunQ.callB 60 rfl rfl rfl rfl rfl (hofB) ?_ ?_ rfl rfl ?_ ?_ ?_; (focus (simp (maxDischargeDepth := 120) [gF, bne, *]; done)); (focus (simp (maxDischargeDepth := 120) [gF, bne, *]; done)); (focus (simp [gF, bne, *]; done)); (focus (simp [gF, bne, *]; done)); refine RunQ.e ?_; simp [gF, bne, *]) | (refine RunQ.k rfl rfl rfl rfl rfl ?_ (g0) ?_ ?_ <;> simp (maxDischargeDepth := 120) [gF, bne, *] <;> refine ⟨?_⟩) | (refine RunQ.k rfl rfl rfl rfl rfl ?_ (g1) ?_ ?_ <;> simp (maxDischargeDepth := 120) [gF, bne, *] <;> refine ⟨?_⟩) | (refine RunQ.k rfl rfl rfl rfl rfl ?_ (hl) ?_ ?_ <;> simp (maxDischargeDepth := 120) [gF, bne, *] <;> refine ⟨?_⟩) | (refine RunQ.k rfl rfl rfl rfl rfl ?_ (b9) ?_ ?_ <;> simp (maxDischargeDepth := 120) [gF, bne, *] <;> refine ⟨?_⟩))
     refine WK.ghost (Ghost.own 2 901 7 rfl rfl) ?_
     refine WK.retT2 Tryz.func74 ?_ ?_ ?_ <;> simp (maxDischargeDepth := 120) [Tryz.results74, iN_, gF]
   have hnk := of_decide_eq_false hfs.symm
   have ho := rione_c k ((b.drop p).take n) (by omega) (by omega) (fun h => by
     have hkk : k = 2 := by omega
     unfold inLaid at hq; rw [hkk, if_neg (by decide), if_pos (by decide)] at hq
     simp only [Bool.and_eq_true, beq_iff_eq] at hq; omega)
   obtain ⟨y, c, hy⟩ : ∃ y c, inOf k ((b.drop p).take n) = (y, c) := ⟨_, _, rfl⟩
   unfold byS at ho
   rw [hBl] at ho
   clear b9 hfs
   cases c with
   | some c =>
     have e := InAt.bad hi h1 (inStep_some hd hnk hy)
     rw [inOf0_some hy] at ho
     rw [e]
     obtain ⟨B, hB⟩ : ∃ B, (b.drop p).take n = B := ⟨_, rfl⟩
     rw [hB] at hl hs ho
     clear hd hB hq hBl hnk hy
     repeat' (first | apply WK.s | apply WK.b | apply WK.n | apply WK.k | refine WK.cT rfl ?_ | refine WK.cF rfl ?_ | (refine hQ.h _ _ ?_; clear hQ hA) | (refine WK.rH Tryz.ntmps74 (by kernel_rfl) ?_; intro A hA Q hQ; simp [gF, bne, Inst.enc, inst0, wideZ, uZ_, *]) | (refine WK.rX (by kernel_rfl) Tryz.ntmps74 (by kernel_rfl) ?_; intro A hA Q hQ; simp [gF, bne, Inst.enc, inst0, wideZ, uZ_, *]) | (refine hQ.h _ _ _ (by decide +kernel) ?_; clear hQ hA) | (refine RunQ.g rfl (by rw [hA.h]; rfl) ?_; simp [gF, bne, Inst.enc, inst0, wideZ, uZ_, *]) | (refine RunQ.callB 60 rfl rfl rfl rfl rfl (hofB) ?_ ?_ rfl rfl ?_ ?_ ?_; (focus (simp (maxDischargeDepth := 120) [gF, bne, Inst.enc, inst0, wideZ, uZ_, *]; done)); (focus (simp (maxDischargeDepth := 120) [gF, bne, Inst.enc, inst0, wideZ, uZ_, *]; done)); (focus (simp [gF, bne, Inst.enc, inst0, wideZ, uZ_, *]; done)); (focus (simp [gF, bne, Inst.enc, inst0, wideZ, uZ_, *]; done)); refine RunQ.e ?_; simp [gF, bne, Inst.enc, inst0, wideZ, uZ_, *]) | (refine RunQ.k rfl rfl rfl rfl rfl ?_ (g0) ?_ ?_ <;> simp (maxDischargeDepth := 120) [gF, bne, Inst.enc, inst0, wideZ, uZ_, *] <;> refine ⟨?_⟩) | (refine RunQ.k rfl rfl rfl rfl rfl ?_ (g1) ?_ ?_ <;> simp (maxDischargeDepth := 120) [gF, bne, Inst.enc, inst0, wideZ, uZ_, *] <;> refine ⟨?_⟩) | (refine RunQ.k rfl rfl rfl rfl rfl ?_ (hl) ?_ ?_ <;> simp (maxDischargeDepth := 120) [gF, bne, Inst.enc, inst0, wideZ, uZ_, *] <;> refine ⟨?_⟩) | (refine RunQ.k rfl rfl rfl rfl rfl ?_ (ho) ?_ ?_ <;> simp (maxDischargeDepth := 120) [gF, bne, Inst.enc, inst0, wideZ, uZ_, *] <;> refine ⟨?_⟩))
     refine WK.ghost (Ghost.own 2 901 7 rfl rfl) ?_
     refine WK.retT2 Tryz.func74 ?_ ?_ ?_ <;> simp (maxDischargeDepth := 120) [Tryz.results74, iN_, gF]
   | none =>
     have hst := inStep_none hd hnk hy
     obtain ⟨hk1, hk2, hn⟩ := InAt.next hi h1 hst
     simp only at hk1 hn
     rw [inOf0_none hy] at ho
     have hbd : (acc.length + 1) * 72 ≤ 140737488355328 := by omega
     have hsq := instL_snoc acc y
     obtain ⟨B, hB⟩ : ∃ B, (b.drop p).take n = B := ⟨_, rfl⟩
     rw [hB] at hl hs ho
     simp only [Inst.enc] at hsq ho
     clear hd hB hq hBl hnk hy hst hk2
     repeat' (first | apply WK.s | apply WK.b | apply WK.n | apply WK.k | refine WK.cT rfl ?_ | refine WK.cF rfl ?_ | (refine hQ.h _ _ ?_; clear hQ hA) | (refine WK.rH Tryz.ntmps74 (by kernel_rfl) ?_; intro A hA Q hQ; simp [gF, bne, *]) | (refine RunQ.g rfl (by rw [hA.h]; rfl) ?_; simp [gF, bne, *]) | (refine RunQ.callB 60 rfl rfl rfl rfl rfl (hofB) ?_ ?_ rfl rfl ?_ ?_ ?_; (focus (simp (maxDischargeDepth := 120) [gF, bne, *]; done)); (focus (simp (maxDischargeDepth := 120) [gF, bne, *]; done)); (focus (simp [gF, bne, *]; done)); (focus (simp [gF, bne, *]; done)); refine RunQ.e ?_; simp [gF, bne, *]) | (refine RunQ.append 902 appInst rfl rfl rfl rfl rfl rfl rfl rfl rfl ?_ ?_ ?_ ?_ ?_; (focus (first | omega | (simp [gF, bne, *]; done); done)); (focus (first | omega | (simp [gF, bne, *]; done); done)); (focus (first | omega | (simp [gF, bne, *]; done); done)); (focus (first | omega | (simp [gF, bne, *]; done); done)); refine RunQ.e ?_; simp [gF, bne, *]) | (refine RunQ.k rfl rfl rfl rfl rfl ?_ (g0) ?_ ?_ <;> simp (maxDischargeDepth := 120) [gF, bne, *] <;> refine ⟨?_⟩) | (refine RunQ.k rfl rfl rfl rfl rfl ?_ (g1) ?_ ?_ <;> simp (maxDischargeDepth := 120) [gF, bne, *] <;> refine ⟨?_⟩) | (refine RunQ.k rfl rfl rfl rfl rfl ?_ (hl) ?_ ?_ <;> simp (maxDischargeDepth := 120) [gF, bne, *] <;> refine ⟨?_⟩) | (refine RunQ.k rfl rfl rfl rfl rfl ?_ (ho) ?_ ?_ <;> simp (maxDischargeDepth := 120) [gF, bne, *] <;> refine ⟨?_⟩))
     refine WK.next (fun n => if n = 60 then 902 else n) (IH ((f - 1, p + n, acc ++ [y])) (hn) (by first | omega | (dsimp only; omega))) (by repeat (first | exact TmW.nil | refine TmW.upd ?_ (by simp (maxDischargeDepth := 120) [hsq, gF]))) (by repeat (first | exact BxW.nil | refine BxW.upd ?_ (by simp (maxDischargeDepth := 120) [hsq, gF]))) (by first | exact InjW.id | exact InjW.nil | exact InjW.one | exact InjW.two (by simp) | exact InjW.three (by simp) (by simp) (by simp))
 · have hstop := InAt.stop hi h1
   simp only at hstop
   have h1' : ¬ (p : Int) < b.length := by omega
   rw [hstop]
   clear b7 b1 b0 b9
   repeat' (first | apply WK.s | refine WK.exit rfl ?_ | refine WK.cF rfl ?_ | (refine hQ.h _ _ ?_; clear hQ hA) | (refine WK.rH Tryz.ntmps74 (by kernel_rfl) ?_; intro A hA Q hQ; simp [gF, *]) | (refine WK.retT2 Tryz.func74 ?_ ?_ ?_ <;> simp (maxDischargeDepth := 120) [Tryz.results74, gF, *]))
theorem ridecP_c (b : List (BitVec 8)) (hb : b.length ≤ 100000) : FnP Tryz.prog 74 [byS b] (.tup [instS (inDec b).1, .agg (gF (inDec b).2)]) := by
 have h := (ridec_c b hb).toP (by simp) (by simp [ClL, Cl])
 rwa [instL_take] at h
theorem inDec_small {b : List (BitVec 8)} {l : List Inst} {c : Option (Int × Int)} (h : inDec b = (l, c)) : l.length * 8 ≤ b.length ∧ ∀ x, x ∈ l → x.acts.length * 8 ≤ b.length := by
 cases c with
 | some c => rw [inDec_bad h]; simp
 | none =>
   have d := inDec_done h
   exact ⟨d.small, fun x hx => (d.right x hx).2⟩

theorem mencP_c (l : List Oxm) (hl : l.length ≤ 10000) : FnP Tryz.prog 236 [oxmS l] (.tup [byS (mEnc l).1, .int .i64 (mEnc l).2]) := by
 have h := (menc_c l hl).toP (by simp [byL_take]) (by rfl)
 rwa [Nat.mul_one, by_full _ _ rfl] at h
structure FmB (m : FlowMod) : Prop where
 mat : m.mat.length ≤ 10000
 insts : m.insts.length ≤ 100
 acts : ∀ x, x ∈ m.insts → x.acts.length ≤ 1000000
def fmSizesI : List Int := [1, 1, 2, 2, 2, 4, 4, 4, 2]
theorem fsizes_c : FnP Tryz.prog 103 [] (.agg (intL fmSizesI)) := by
 refine FnP.i Tryz.func103 rfl rfl fun G w => ?_
 repeat' (first | apply WK.s | (refine hQ.h _ _ ?_; clear hQ hA) | (refine WK.rH Tryz.ntmps103 (by kernel_rfl) ?_; intro A hA Q hQ; simp [*]) | (refine WK.t Tryz.func103 ?_ ?_ <;> simp (maxDischargeDepth := 120) [Tryz.results103, fmSizesI, intL, *]))
theorem fnumbers_c (m : FlowMod) : FnP Tryz.prog 59 [.iptr m.enc] (.agg (intL (fmNums m))) := by
 unfold FlowMod.enc
 refine FnP.i Tryz.func59 rfl rfl fun G w => ?_
 repeat' (first | apply WK.s | (refine hQ.h _ _ ?_; clear hQ hA) | (refine WK.rH Tryz.ntmps59 (by kernel_rfl) ?_; intro A hA Q hQ; simp [*]) | (refine WK.rX (by kernel_rfl) Tryz.ntmps59 (by kernel_rfl) ?_; intro A hA Q hQ; simp [*]) | (refine hQ.h _ _ _ (by decide +kernel) ?_; clear hQ hA) | (refine WK.t Tryz.func59 ?_ ?_ <;> simp (maxDischargeDepth := 120) [Tryz.results59, fmNums, intL, *]))
theorem fmakes_c (m : FlowMod) : FnP Tryz.prog 138 [.iptr m.enc] (.bool (decide (0 ≤ m.command) && decide (m.command ≤ 2))) := by
 unfold FlowMod.enc
 by_cases h1 : 0 ≤ m.command
 · refine FnP.i Tryz.func138 rfl rfl fun G w => ?_
   repeat' (first | apply WK.s | (refine hQ.h _ _ ?_; clear hQ hA) | (refine WK.rH Tryz.ntmps138 (by kernel_rfl) ?_; intro A hA Q hQ; simp [*]) | (refine RunQ.g rfl (by rw [hA.h]; rfl) ?_; simp [*]) | (refine WK.t Tryz.func138 ?_ ?_ <;> simp (maxDischargeDepth := 120) [Tryz.results138, *]))
 · refine FnP.i Tryz.func138 rfl rfl fun G w => ?_
   repeat' (first | apply WK.s | (refine hQ.h _ _ ?_; clear hQ hA) | (refine WK.rH Tryz.ntmps138 (by kernel_rfl) ?_; intro A hA Q hQ; simp [*]) | (refine RunQ.g rfl (by rw [hA.h]; rfl) ?_; simp [*]) | (refine WK.t Tryz.func138 ?_ ?_ <;> simp (maxDischargeDepth := 120) [Tryz.results138, *]))
def actOff (mat : List Oxm) (a : Action) : Bool := a.kind == 25 && !mMet mat a.oxm.field
theorem fmeets_c (m : FlowMod) (l : List Action) (hl : l.length ≤ 1000000) (hm : m.mat.length ≤ 1000000) : FnP Tryz.prog 139 [.iptr m.enc, actS l] (.bool (!l.any (actOff m.mat))) := by
 have mc : ∀ f, FnP Tryz.prog 164 [oxmS m.mat, .int .i64 f] (.bool (mMet m.mat f)) := fun f => met_c m.mat f hm
 unfold actS FlowMod.enc
 refine FnP.i Tryz.func139 rfl rfl fun G w => ?_
 repeat' (first | apply WK.s | apply WK.b | (refine hQ.h _ _ ?_; clear hQ hA) | (refine WK.rH Tryz.ntmps139 (by kernel_rfl) ?_; intro A hA Q hQ; simp [*]))
 refine WK.lI (fun n => n) (fun i : Nat => (⟨(upd (upd (upd (upd J 0 (.iptr m.enc)) 7 (.sl false l.length (actL l))) 8 (.int .i64 l.length)) 9 (.int .i64 i)), B0, 0⟩ : St)) (fun i => i ≤ l.length ∧ ∀ j, j < i → actOff m.mat (nth l j) = false) (fun i => l.length - i) (0) (by repeat (first | exact TmW.nil | refine TmW.upd ?_ (by simp (maxDischargeDepth := 120) [FlowMod.enc]))) (by repeat (first | exact BxW.nil | refine BxW.upd ?_ (by simp (maxDischargeDepth := 120) [FlowMod.enc]))) InjW.id (⟨by omega, by simp⟩) (fun i hi IH => ?_)
 by_cases h1 : i < l.length
 · obtain ⟨h4, h3⟩ := act_load l i h1
   have h6 : IntKind.i64.wrap ((i : Int) + 1) = i + 1 := wrap_i64 (by omega) (by omega)
   have c := mc (nth l i).oxm.field
   have hF : actOff m.mat (nth l i) = true → l.any (actOff m.mat) = true := fun h => any_true' h1 h
   have hN : actOff m.mat (nth l i) = false → ∀ j, j < i + 1 → actOff m.mat (nth l j) = false := fun h j hj => by
     by_cases h7 : j = i
     · subst h7; exact h
     · exact hi.2 j (by omega)
   obtain ⟨a, ha⟩ : ∃ a, nth l i = a := ⟨_, rfl⟩
   rw [ha] at h4 c hF hN
   have e : actOff m.mat a = (a.kind == 25 && !mMet m.mat a.oxm.field) := rfl
   unfold Action.enc at h4
   unfold FlowMod.enc oxmS at *
   clear ha hi mc
   cases k1 : a.kind == 25
   · rw [k1] at e
     have hn := hN e
     clear hF hN e c
     repeat' (first | apply WK.s | apply WK.b | apply WK.n | apply WK.k | refine WK.cT rfl ?_ | refine WK.cF rfl ?_ | (refine hQ.h _ _ ?_; clear hQ hA) | (refine WK.rH Tryz.ntmps139 (by kernel_rfl) ?_; intro A hA Q hQ; simp [*]) | (refine WK.rX (by kernel_rfl) Tryz.ntmps139 (by kernel_rfl) ?_; intro A hA Q hQ; simp [*]) | (refine hQ.h _ _ _ (by decide +kernel) ?_; clear hQ hA) | (refine RunX.gd rfl (by rw [hA.h]; rfl) ?_; simp [*]))
     refine WK.next (fun n => n) (IH (i + 1) (⟨by omega, hn⟩) (by first | omega | (dsimp only; omega))) (by repeat (first | exact TmW.nil | refine TmW.upd ?_ (by simp (maxDischargeDepth := 120)))) (by repeat (first | exact BxW.nil | refine BxW.upd ?_ (by simp (maxDischargeDepth := 120)))) InjW.id
   cases k2 : mMet m.mat a.oxm.field
   · rw [k1, k2] at e
     rw [k2] at c
     have hf := hF e
     clear hF hN e
     repeat' (first | apply WK.s | apply WK.b | apply WK.k | refine WK.cT rfl ?_ | (refine hQ.h _ _ ?_; clear hQ hA) | (refine WK.rH Tryz.ntmps139 (by kernel_rfl) ?_; intro A hA Q hQ; simp [*]) | (refine WK.rX (by kernel_rfl) Tryz.ntmps139 (by kernel_rfl) ?_; intro A hA Q hQ; simp [*]) | (refine hQ.h _ _ _ (by decide +kernel) ?_; clear hQ hA) | (refine RunX.gd rfl (by rw [hA.h]; rfl) ?_; simp [*]) | (refine RunXW.call rfl rfl rfl ?_ (c) ?_ ?_; (focus (simp (maxDischargeDepth := 120) [*]; done)); (focus (simp [*]; done)); refine RunX.e ?_; simp [*]) | (refine WK.t Tryz.func139 ?_ ?_ <;> simp (maxDischargeDepth := 120) [Tryz.results139, *]))
   · rw [k1, k2] at e
     rw [k2] at c
     have hn := hN e
     clear hF hN e
     repeat' (first | apply WK.s | apply WK.b | apply WK.n | apply WK.k | refine WK.cT rfl ?_ | refine WK.cF rfl ?_ | (refine hQ.h _ _ ?_; clear hQ hA) | (refine WK.rH Tryz.ntmps139 (by kernel_rfl) ?_; intro A hA Q hQ; simp [*]) | (refine WK.rX (by kernel_rfl) Tryz.ntmps139 (by kernel_rfl) ?_; intro A hA Q hQ; simp [*]) | (refine hQ.h _ _ _ (by decide +kernel) ?_; clear hQ hA) | (refine RunX.gd rfl (by rw [hA.h]; rfl) ?_; simp [*]) | (refine RunXW.call rfl rfl rfl ?_ (c) ?_ ?_; (focus (simp (maxDischargeDepth := 120) [*]; done)); (focus (simp [*]; done)); refine RunX.e ?_; simp [*]))
     refine WK.next (fun n => n) (IH (i + 1) (⟨by omega, hn⟩) (by first | omega | (dsimp only; omega))) (by repeat (first | exact TmW.nil | refine TmW.upd ?_ (by simp (maxDischargeDepth := 120)))) (by repeat (first | exact BxW.nil | refine BxW.upd ?_ (by simp (maxDischargeDepth := 120)))) InjW.id
 · have e := any_false' (p := actOff m.mat) (l := l) fun j hj => hi.2 j (by omega)
   unfold FlowMod.enc
   repeat' (first | apply WK.s | refine WK.exit rfl ?_ | refine WK.cF rfl ?_ | (refine hQ.h _ _ ?_; clear hQ hA) | (refine WK.rH Tryz.ntmps139 (by kernel_rfl) ?_; intro A hA Q hQ; simp [*]) | (refine WK.t Tryz.func139 ?_ ?_ <;> simp (maxDischargeDepth := 120) [Tryz.results139, *]))
theorem fmbad_c (k n : Int) : FnP Tryz.prog 101 [.int .i64 k, .int .i64 n] (.agg (gF (some (k, n)))) := by
 refine FnP.i Tryz.func101 rfl rfl fun G w => ?_
 repeat' (first | apply WK.s | (refine hQ.h _ _ ?_; clear hQ hA) | (refine WK.rH Tryz.ntmps101 (by kernel_rfl) ?_; intro A hA Q hQ; simp [*]) | (refine WK.t Tryz.func101 ?_ ?_ <;> simp (maxDischargeDepth := 120) [Tryz.results101, gF, *]))
theorem fmWrong_eq (m : FlowMod) : fmWrong m = m.insts.any fun i => i.acts.any (actOff m.mat) := rfl
set_option maxHeartbeats 4000000 in
theorem fmcheck_c (m : FlowMod) (hm : FmB m) : FnP Tryz.prog 107 [.agg m.enc] (.agg (gF (fmCheck m))) := by
 have b6 := fmbad_c 5 6
 have b7 := fmbad_c 5 7
 have b10 := fmbad_c 2 10
 have mk := fmakes_c m
 have me : ∀ l : List Action, l.length ≤ 1000000 → FnP Tryz.prog 139 [.iptr m.enc, actS l] (.bool (!l.any (actOff m.mat))) := fun l hl => fmeets_c m l hl (by have := hm.mat; omega)
 have e : fmCheck m = if m.command < 0 ∨ 4 < m.command then some (5, 6) else if 31 < m.flags then some (5, 7) else if 2 < m.command then none else if fmWrong m = true then some (2, 10) else none := rfl
 have hl := hm.insts
 unfold FlowMod.enc at *
 refine FnP.i Tryz.func107 rfl rfl fun G w => ?_
 repeat' (first | apply WK.s | apply WK.b | (refine hQ.h _ _ ?_; clear hQ hA) | (refine WK.rH (id := 0) Tryz.ntmps107 (by kernel_rfl) ?_; intro A hA Q hQ; simp [*]) | (refine WK.rH (id := 1) Tryz.ntmps107 (by kernel_rfl) ?_; intro A hA Q hQ; simp [*]))
 refine WK.ghost (Ghost.frzVar 3 rfl rfl) ?_
 by_cases c1 : m.command < 0
 · rw [if_pos (.inl c1)] at e
   rw [e]
   clear e b7 b10 mk me
   repeat' (first | apply WK.s | refine WK.cT rfl ?_ | (refine hQ.h _ _ ?_; clear hQ hA) | (refine WK.rH Tryz.ntmps107 (by kernel_rfl) ?_; intro A hA Q hQ; simp [gF, *]) | (refine RunQ.g rfl (by rw [hA.h]; rfl) ?_; simp [gF, *]) | (refine RunQ.k rfl rfl rfl rfl rfl ?_ (b6) ?_ ?_ <;> simp (maxDischargeDepth := 120) [gF, *] <;> refine ⟨?_⟩) | (refine WK.t Tryz.func107 ?_ ?_ <;> simp (maxDischargeDepth := 120) [Tryz.results107, gF, *]))
 by_cases c2 : 4 < m.command
 · rw [if_pos (.inr c2)] at e
   rw [e]
   clear e b7 b10 mk me
   repeat' (first | apply WK.s | refine WK.cT rfl ?_ | (refine hQ.h _ _ ?_; clear hQ hA) | (refine WK.rH Tryz.ntmps107 (by kernel_rfl) ?_; intro A hA Q hQ; simp [gF, *]) | (refine RunQ.g rfl (by rw [hA.h]; rfl) ?_; simp [gF, *]) | (refine RunQ.k rfl rfl rfl rfl rfl ?_ (b6) ?_ ?_ <;> simp (maxDischargeDepth := 120) [gF, *] <;> refine ⟨?_⟩) | (refine WK.t Tryz.func107 ?_ ?_ <;> simp (maxDischargeDepth := 120) [Tryz.results107, gF, *]))
 rw [if_neg (by omega)] at e
 by_cases c3 : 31 < m.flags
 · rw [if_pos c3] at e
   rw [e]
   clear e b6 b10 mk me
   repeat' (first | apply WK.s | refine WK.cT rfl ?_ | refine WK.cF rfl ?_ | (refine hQ.h _ _ ?_; clear hQ hA) | (refine WK.rH Tryz.ntmps107 (by kernel_rfl) ?_; intro A hA Q hQ; simp [gF, *]) | (refine RunQ.g rfl (by rw [hA.h]; rfl) ?_; simp [gF, *]) | (refine RunQ.k rfl rfl rfl rfl rfl ?_ (b7) ?_ ?_ <;> simp (maxDischargeDepth := 120) [gF, *] <;> refine ⟨?_⟩) | (refine WK.t Tryz.func107 ?_ ?_ <;> simp (maxDischargeDepth := 120) [Tryz.results107, gF, *]))
 rw [if_neg c3] at e
 by_cases c4 : 2 < m.command
 · rw [if_pos c4] at e
   rw [e]
   have d : (decide (0 ≤ m.command) && decide (m.command ≤ 2)) = false := by rw [Bool.and_eq_false_iff, decide_eq_false_iff_not, decide_eq_false_iff_not]; omega
   rw [d] at mk
   clear e b6 b7 b10 me d
   repeat' (first | apply WK.s | refine WK.cT rfl ?_ | refine WK.cF rfl ?_ | (refine hQ.h _ _ ?_; clear hQ hA) | (refine WK.rH Tryz.ntmps107 (by kernel_rfl) ?_; intro A hA Q hQ; simp [gF, *]) | (refine RunQ.g rfl (by rw [hA.h]; rfl) ?_; simp [gF, *]) | (refine RunQ.k rfl rfl rfl rfl rfl ?_ (mk) ?_ ?_ <;> simp (maxDischargeDepth := 120) [gF, *] <;> refine ⟨?_⟩) | (refine WK.t Tryz.func107 ?_ ?_ <;> simp (maxDischargeDepth := 120) [Tryz.results107, gF, *]))
 rw [if_neg c4] at e
 have d : (decide (0 ≤ m.command) && decide (m.command ≤ 2)) = true := by rw [Bool.and_eq_true, decide_eq_true_eq, decide_eq_true_eq]; omega
 rw [d] at mk
 rw [fmWrong_eq] at e
 clear b6 b7 d
 repeat' (first | apply WK.s | apply WK.b | apply WK.n | apply WK.k | refine WK.cF rfl ?_ | (refine hQ.h _ _ ?_; clear hQ hA) | (refine WK.rH Tryz.ntmps107 (by kernel_rfl) ?_; intro A hA Q hQ; simp [*]) | (refine RunQ.g rfl (by rw [hA.h]; rfl) ?_; simp [*]) | (refine RunQ.k rfl rfl rfl rfl rfl ?_ (mk) ?_ ?_ <;> simp (maxDischargeDepth := 120) [*] <;> refine ⟨?_⟩))
 refine WK.lI (fun n => if n = 0 then 1 else n) (fun i : Nat => (⟨(upd (upd (upd (upd (upd J 2 (.ptr 0 0)) 3 (.iptr m.enc)) 42 (.sl false m.insts.length (instL m.insts))) 43 (.int .i64 m.insts.length)) 44 (.int .i64 i)), (upd B0 0 (.var [.junk, .junk, .junk])), 0⟩ : St)) (fun i => i ≤ m.insts.length ∧ ∀ j, j < i → (nth m.insts j).acts.any (actOff m.mat) = false) (fun i => m.insts.length - i) (0) (by repeat (first | exact TmW.nil | refine TmW.upd ?_ (by simp (maxDischargeDepth := 120) [FlowMod.enc]))) (by repeat (first | exact BxW.nil | refine BxW.upd ?_ (by simp (maxDischargeDepth := 120) [FlowMod.enc]))) (by first | exact InjW.id | exact InjW.nil | exact InjW.one | exact InjW.two (by simp) | exact InjW.three (by simp) (by simp) (by simp)) (⟨by omega, by simp⟩) (fun i hi IH => ?_)
 clear mk c1 c2 c3 c4
 by_cases h1 : i < m.insts.length
 · have h4 := inst_sub m.insts i h1
   have h3 : 7 ≤ m.insts.length * 7 - i * 7 := by omega
   have h6 : IntKind.i64.wrap ((i : Int) + 1) = i + 1 := wrap_i64 (by omega) (by omega)
   have c := me (nth m.insts i).acts (hm.acts _ (nth_mem h1))
   have hF : (nth m.insts i).acts.any (actOff m.mat) = true → (m.insts.any fun i => i.acts.any (actOff m.mat)) = true := fun h => any_true' (p := fun i : Inst => i.acts.any (actOff m.mat)) h1 h
   have hN : (nth m.insts i).acts.any (actOff m.mat) = false → ∀ j, j < i + 1 → (nth m.insts j).acts.any (actOff m.mat) = false := fun h j hj => by
     by_cases h7 : j = i
     · subst h7; exact h
     · exact hi.2 j (by omega)
   obtain ⟨a, ha⟩ : ∃ a, nth m.insts i = a := ⟨_, rfl⟩
   rw [ha] at h4 c hF hN
   obtain ⟨z, hz⟩ : ∃ z, a.acts.any (actOff m.mat) = z := ⟨_, rfl⟩
   rw [hz] at c hF hN
   unfold Inst.enc at h4
   unfold actS at c
   unfold FlowMod.enc at *
   clear ha hi me hz hm
   cases z
   · have hn := hN rfl
     clear hF hN e b10
     repeat' (first | apply WK.s | apply WK.b | apply WK.n | apply WK.k | refine WK.cT rfl ?_ | refine WK.cF rfl ?_ | (refine hQ.h _ _ ?_; clear hQ hA) | (refine WK.rH Tryz.ntmps107 (by kernel_rfl) ?_; intro A hA Q hQ; simp [*]) | (refine RunQ.k rfl rfl rfl rfl rfl ?_ (c) ?_ ?_ <;> simp (maxDischargeDepth := 120) [*] <;> refine ⟨?_⟩))
     refine WK.next (fun n => n) (IH (i + 1) (⟨by omega, hn⟩) (by first | omega | (dsimp only; omega))) (by repeat (first | exact TmW.nil | refine TmW.upd ?_ (by simp (maxDischargeDepth := 120)))) (by repeat (first | exact BxW.nil | refine BxW.upd ?_ (by simp (maxDischargeDepth := 120)))) InjW.id
   · rw [if_pos (hF rfl)] at e
     rw [e]
     clear hF hN e
     repeat' (first | apply WK.s | apply WK.b | apply WK.k | refine WK.cT rfl ?_ | (refine hQ.h _ _ ?_; clear hQ hA) | (refine WK.rH Tryz.ntmps107 (by kernel_rfl) ?_; intro A hA Q hQ; simp [gF, *]) | (refine RunQ.k rfl rfl rfl rfl rfl ?_ (c) ?_ ?_ <;> simp (maxDischargeDepth := 120) [gF, *] <;> refine ⟨?_⟩) | (refine RunQ.k rfl rfl rfl rfl rfl ?_ (b10) ?_ ?_ <;> simp (maxDischargeDepth := 120) [gF, *] <;> refine ⟨?_⟩) | (refine WK.t Tryz.func107 ?_ ?_ <;> simp (maxDischargeDepth := 120) [Tryz.results107, gF, *]))
 · have ef := any_false' (p := fun i : Inst => i.acts.any (actOff m.mat)) (l := m.insts) fun j hj => hi.2 j (by omega)
   rw [if_neg (by rw [ef]; simp)] at e
   rw [e]
   clear e me b10 ef
   unfold FlowMod.enc at *
   repeat' (first | apply WK.s | refine WK.exit rfl ?_ | refine WK.cF rfl ?_ | (refine hQ.h _ _ ?_; clear hQ hA) | (refine WK.rH Tryz.ntmps107 (by kernel_rfl) ?_; intro A hA Q hQ; simp [gF, *]) | (refine WK.t Tryz.func107 ?_ ?_ <;> simp (maxDischargeDepth := 120) [Tryz.results107, gF, *]))
theorem fmNums_len (m : FlowMod) : (fmNums m).length = 9 := rfl
theorem fmSize_at : ∀ i : Nat, i < 9 → nth fmSizesI i = ((nth fmSizes i : Nat) : Int) ∧ Sz (nth fmSizes i) ∧ nth fmSizes i ≤ 4 := by
 intro i hi
 have : i = 0 ∨ i = 1 ∨ i = 2 ∨ i = 3 ∨ i = 4 ∨ i = 5 ∨ i = 6 ∨ i = 7 ∨ i = 8 := by omega
 rcases this with rfl | rfl | rfl | rfl | rfl | rfl | rfl | rfl | rfl <;> refine ⟨by rfl, ?_, by decide⟩ <;> unfold Sz <;> decide
theorem nth_zip {α β : Type} [Inhabited α] [Inhabited β] {l : List α} {k : List β} {i : Nat} (h1 : i < l.length) (h2 : i < k.length) : nth (l.zip k) i = (nth l i, nth k i) := by
 rw [nth_eq (l := l.zip k) (i := i) (by rw [List.length_zip]; omega), List.getElem_zip, nth_eq h1, nth_eq h2]
theorem fmZip_at (m : FlowMod) {i : Nat} (h : i < 9) : nth (fmZip m) i = (nth (fmNums m) i, nth fmSizes i) := nth_zip (by rw [fmNums_len]; exact h) h
theorem fmAll_false {m : FlowMod} {i : Nat} (h : i < 9) (hp : numOk (nth (fmNums m) i) (nth fmSizes i) = false) : fmRight m = false := by
 have : (fmZip m).all (fun x => numOk x.1 x.2) = false := all_false (i := i) h (by rw [fmZip_at m h]; exact hp)
 unfold fmRight
 rw [this]; rfl
theorem fmAll_true {m : FlowMod} (h : ∀ j, j < 9 → numOk (nth (fmNums m) j) (nth fmSizes j) = true) : fmRight m = ((mEnc m.mat).2 == 0 && ((inEnc m.insts).2 == 0 && (fmCheck m).isNone)) := by
 have : (fmZip m).all (fun x => numOk x.1 x.2) = true := all_true fun j hj => by rw [fmZip_at m hj]; exact h j hj
 unfold fmRight
 rw [this]; rfl
set_option maxHeartbeats 4000000 in
theorem fmright_c (m : FlowMod) (hm : FmB m) : FnP Tryz.prog 234 [.agg m.enc] (.bool (fmRight m)) := by
 have sz := fsizes_c
 have nm := fnumbers_c m
 have me := mencP_c m.mat hm.mat
 have ie := iencP_c m.insts hm.insts hm.acts
 have ck := fmcheck_c m hm
 have hF : ∀ i, i < 9 → numOk (nth (fmNums m) i) (nth fmSizes i) = false → fmRight m = false := fun i h hp => fmAll_false h hp
 have hT : (∀ j, j < 9 → numOk (nth (fmNums m) j) (nth fmSizes j) = true) → fmRight m = ((mEnc m.mat).2 == 0 && ((inEnc m.insts).2 == 0 && (fmCheck m).isNone)) := fmAll_true
 obtain ⟨N, hN⟩ : ∃ N, fmNums m = N := ⟨_, rfl⟩
 have hNl : N.length = 9 := by rw [← hN]; rfl
 rw [hN] at nm hF hT
 obtain ⟨M, hM⟩ : ∃ M, mEnc m.mat = M := ⟨_, rfl⟩
 obtain ⟨I, hI⟩ : ∃ I, inEnc m.insts = I := ⟨_, rfl⟩
 obtain ⟨C, hC⟩ : ∃ C, fmCheck m = C := ⟨_, rfl⟩
 rw [hM] at me hT
 rw [hI] at ie hT
 rw [hC] at ck hT
 simp only [byS, oxmS, instS] at me ie
 have hnl : (intL N).length = 9 := by rw [intL_len, hNl]
 have hsl : (intL fmSizesI).length = 9 := rfl
 clear hN hM hI hC hm
 unfold FlowMod.enc at *
 refine FnP.i Tryz.func234 rfl rfl fun G w => ?_
 repeat' (first | apply WK.s | (refine hQ.h _ _ ?_; clear hQ hA) | (refine WK.rH (id := 0) Tryz.ntmps234 (by kernel_rfl) ?_; intro A hA Q hQ; simp [*]) | (refine WK.rH (id := 1) Tryz.ntmps234 (by kernel_rfl) ?_; intro A hA Q hQ; simp [*]))
 refine WK.ghost (Ghost.frzVar 3 rfl rfl) ?_
 repeat' (first | apply WK.s | apply WK.b | (refine hQ.h _ _ ?_; clear hQ hA) | (refine WK.rH Tryz.ntmps234 (by kernel_rfl) ?_; intro A hA Q hQ; simp [*]) | (refine RunQ.k rfl rfl rfl rfl rfl ?_ (sz) ?_ ?_ <;> simp (maxDischargeDepth := 120) [*] <;> refine ⟨?_⟩) | (refine RunQ.k rfl rfl rfl rfl rfl ?_ (nm) ?_ ?_ <;> simp (maxDischargeDepth := 120) [*] <;> refine ⟨?_⟩))
 refine WK.lI (fun n => if n = 1 then 201 else n) (fun i : Nat => (⟨(upd (upd (upd (upd (upd J 1 (.ptr 0 0)) 3 (.iptr m.enc)) 4 (.ptr 1 0)) 16 (.agg (intL N))) 17 (.int .i64 i)), (upd (upd B0 0 (.var m.enc)) 1 (.var (intL fmSizesI))), 0⟩ : St)) (fun i => i ≤ 9 ∧ ∀ j, j < i → numOk (nth N j) (nth fmSizes j) = true) (fun i => 9 - i) (0) (by repeat (first | exact TmW.nil | refine TmW.upd ?_ (by simp (maxDischargeDepth := 120) [FlowMod.enc]))) (by repeat (first | exact BxW.nil | refine BxW.upd ?_ (by simp (maxDischargeDepth := 120) [FlowMod.enc]))) (by first | exact InjW.id | exact InjW.nil | exact InjW.one | exact InjW.two (by simp) | exact InjW.three (by simp) (by simp) (by simp)) (⟨by omega, by simp⟩) (fun i hi IH => ?_)
 clear sz nm
 unfold FlowMod.enc
 by_cases h1 : i < 9
 · obtain ⟨s1, s2, s3⟩ := fmSize_at i h1
   have h1' : (i : Int) < 9 := by omega
   have h6 : IntKind.i64.wrap ((i : Int) + 1) = i + 1 := wrap_i64 (by omega) (by omega)
   have c := nright_c (nth N i) (nth fmSizes i) s2
   have g1 := intL_get' N i (by omega)
   have g2 := intL_get' fmSizesI i h1
   rw [s1] at g2
   have hFi := hF i h1
   have hNi : numOk (nth N i) (nth fmSizes i) = true → ∀ j, j < i + 1 → numOk (nth N j) (nth fmSizes j) = true := fun h j hj => by
     by_cases h7 : j = i
     · subst h7; exact h
     · exact hi.2 j (by omega)
   obtain ⟨x, hx⟩ : ∃ x, nth N i = x := ⟨_, rfl⟩
   obtain ⟨s, hs⟩ : ∃ x, nth fmSizes i = x := ⟨_, rfl⟩
   rw [hx, hs] at c hFi hNi
   rw [hx] at g1
   rw [hs] at g2
   obtain ⟨z, hz⟩ : ∃ z, numOk x s = z := ⟨_, rfl⟩
   rw [hz] at c hFi hNi
   clear hx hs hz hi hF hT me ie ck s1 s2 s3
   cases z
   · have e := hFi rfl
     clear hNi hFi
     repeat' (first | apply WK.s | apply WK.b | apply WK.k | refine WK.cT rfl ?_ | (refine hQ.h _ _ ?_; clear hQ hA) | (refine WK.rH Tryz.ntmps234 (by kernel_rfl) ?_; intro A hA Q hQ; simp [*]) | (refine RunQ.k rfl rfl rfl rfl rfl ?_ (c) ?_ ?_ <;> simp (maxDischargeDepth := 120) [*] <;> refine ⟨?_⟩) | (refine WK.t Tryz.func234 ?_ ?_ <;> simp (maxDischargeDepth := 120) [Tryz.results234, *]))
   · have hn := hNi rfl
     clear hNi hFi
     repeat' (first | apply WK.s | apply WK.b | apply WK.n | apply WK.k | refine WK.cT rfl ?_ | refine WK.cF rfl ?_ | (refine hQ.h _ _ ?_; clear hQ hA) | (refine WK.rH Tryz.ntmps234 (by kernel_rfl) ?_; intro A hA Q hQ; simp [*]) | (refine RunQ.k rfl rfl rfl rfl rfl ?_ (c) ?_ ?_ <;> simp (maxDischargeDepth := 120) [*] <;> refine ⟨?_⟩))
     refine WK.next (fun n => n) (IH (i + 1) (⟨by omega, hn⟩) (by first | omega | (dsimp only; omega))) (by repeat (first | exact TmW.nil | refine TmW.upd ?_ (by simp (maxDischargeDepth := 120) [FlowMod.enc]))) (by repeat (first | exact BxW.nil | refine BxW.upd ?_ (by simp (maxDischargeDepth := 120) [FlowMod.enc]))) InjW.id
 · have e := hT fun j hj => hi.2 j (by omega)
   have h1' : ¬ (i : Int) < 9 := by omega
   clear hF hT hi
   obtain ⟨M1, M2⟩ := M
   obtain ⟨I1, I2⟩ := I
   simp only at me ie e
   cases k1 : M2 == 0
   · rw [k1] at e
     repeat' (first | apply WK.s | refine WK.exit rfl ?_ | refine WK.cF rfl ?_ | (refine hQ.h _ _ ?_; clear hQ hA) | (refine WK.rH Tryz.ntmps234 (by kernel_rfl) ?_; intro A hA Q hQ; simp [*]) | (refine RunQ.g rfl (by rw [hA.h]; rfl) ?_; simp [*]) | (refine RunQ.k rfl rfl rfl rfl rfl ?_ (me) ?_ ?_ <;> simp (maxDischargeDepth := 120) [*] <;> refine ⟨?_⟩) | (refine RunQ.k rfl rfl rfl rfl rfl ?_ (ie) ?_ ?_ <;> simp (maxDischargeDepth := 120) [*] <;> refine ⟨?_⟩) | (refine WK.t Tryz.func234 ?_ ?_ <;> simp (maxDischargeDepth := 120) [Tryz.results234, *]))
   cases k2 : I2 == 0
   · rw [k1, k2] at e
     repeat' (first | apply WK.s | refine WK.exit rfl ?_ | refine WK.cF rfl ?_ | (refine hQ.h _ _ ?_; clear hQ hA) | (refine WK.rH Tryz.ntmps234 (by kernel_rfl) ?_; intro A hA Q hQ; simp [*]) | (refine RunQ.g rfl (by rw [hA.h]; rfl) ?_; simp [*]) | (refine RunQ.k rfl rfl rfl rfl rfl ?_ (me) ?_ ?_ <;> simp (maxDischargeDepth := 120) [*] <;> refine ⟨?_⟩) | (refine RunQ.k rfl rfl rfl rfl rfl ?_ (ie) ?_ ?_ <;> simp (maxDischargeDepth := 120) [*] <;> refine ⟨?_⟩) | (refine WK.t Tryz.func234 ?_ ?_ <;> simp (maxDischargeDepth := 120) [Tryz.results234, *]))
   rw [k1, k2] at e
   cases C <;>
   · repeat' (first | apply WK.s | refine WK.exit rfl ?_ | refine WK.cF rfl ?_ | (refine hQ.h _ _ ?_; clear hQ hA) | (refine WK.rH Tryz.ntmps234 (by kernel_rfl) ?_; intro A hA Q hQ; simp [gF, *]) | (refine RunQ.g rfl (by rw [hA.h]; rfl) ?_; simp [gF, *]) | (refine RunQ.k rfl rfl rfl rfl rfl ?_ (me) ?_ ?_ <;> simp (maxDischargeDepth := 120) [gF, *] <;> refine ⟨?_⟩) | (refine RunQ.k rfl rfl rfl rfl rfl ?_ (ie) ?_ ?_ <;> simp (maxDischargeDepth := 120) [gF, *] <;> refine ⟨?_⟩) | (refine RunQW.k rfl rfl rfl rfl ?_ (ck) ?_ ?_ <;> simp (maxDischargeDepth := 120) [gF, *] <;> refine ⟨?_⟩) | (refine WK.t Tryz.func234 ?_ ?_ <;> simp (maxDischargeDepth := 120) [Tryz.results234, gF, *]))
theorem fmNums_eq (a b : FlowMod) : (fmNums a == fmNums b) = (a.table == b.table && (a.command == b.command && (a.idle == b.idle && (a.hard == b.hard && (a.prio == b.prio && (a.buffer == b.buffer && (a.outPort == b.outPort && (a.outGroup == b.outGroup && a.flags == b.flags)))))))) := by
 unfold fmNums
 rw [Bool.eq_iff_iff]
 simp only [beq_iff_eq, Bool.and_eq_true, List.cons.injEq, and_true]
theorem fmsame_c (a b : FlowMod) (ha : FmB a) : FnP Tryz.prog 32 [.agg a.enc, .agg b.enc] (.bool (FlowMod.same a b)) := by
 have na := fnumbers_c a
 have nb := fnumbers_c b
 have ms := msame_c a.mat b.mat (by have := ha.mat; omega)
 have is := insame_c a.insts b.insts (by have := ha.insts; omega) ha.acts
 have e : FlowMod.same a b = ((fmNums a == fmNums b) && (a.cookie == b.cookie && (a.cookieMask == b.cookieMask && (eqBy (fun x y : Oxm => x == y) a.mat b.mat && eqBy Inst.same a.insts b.insts)))) := rfl
 obtain ⟨z1, hz1⟩ : ∃ z, eqBy (fun x y : Oxm => x == y) a.mat b.mat = z := ⟨_, rfl⟩
 obtain ⟨z2, hz2⟩ : ∃ z, eqBy Inst.same a.insts b.insts = z := ⟨_, rfl⟩
 rw [hz1] at ms e
 rw [hz2] at is e
 rw [fmNums_eq] at e
 simp only [fmNums, intL, List.map_cons, List.map_nil] at na nb
 unfold oxmS instS at *
 unfold FlowMod.enc at *
 clear hz1 hz2
 refine FnP.i Tryz.func32 rfl rfl fun G w => ?_
 repeat' (first | apply WK.s | (refine hQ.h _ _ ?_; clear hQ hA) | (refine WK.rH (id := 0) Tryz.ntmps32 (by kernel_rfl) ?_; intro A hA Q hQ; simp [*]) | (refine WK.rH (id := 1) Tryz.ntmps32 (by kernel_rfl) ?_; intro A hA Q hQ; simp [*]) | (refine WK.rX (id := 0) (by kernel_rfl) Tryz.ntmps32 (by kernel_rfl) ?_; intro A hA Q hQ; simp [*]) | (refine WK.rX (id := 1) (by kernel_rfl) Tryz.ntmps32 (by kernel_rfl) ?_; intro A hA Q hQ; simp [*]) | (refine hQ.h _ _ _ (by decide +kernel) ?_; clear hQ hA))
 refine WK.ghost (Ghost.frzVar 5 rfl rfl) ?_
 refine WK.ghost (Ghost.frzVar 6 rfl rfl) ?_
 repeat' (first | (refine hQ.h _ _ ?_; clear hQ hA) | (refine Fork.mk (fun h => ?_) (fun h => ?_) <;> (first | (simp [*] at h; done) | (have h2 := h; simp at h2; exfalso; omega) | (have h2 := h; simp at h2; try simp only [Bool.not_eq_true', Bool.not_eq_false'] at h) | skip)) | (refine WK.rH Tryz.ntmps32 (by kernel_rfl) ?_; intro A hA Q hQ; simp [*]) | (refine RunQ.g rfl (by rw [hA.h]; rfl) ?_; simp [*]) | (refine RunQ.k rfl rfl rfl rfl rfl ?_ (na) ?_ ?_ <;> simp (maxDischargeDepth := 120) [*] <;> refine ⟨?_⟩) | (refine RunQ.k rfl rfl rfl rfl rfl ?_ (nb) ?_ ?_ <;> simp (maxDischargeDepth := 120) [*] <;> refine ⟨?_⟩) | (refine RunQW.k rfl rfl rfl rfl ?_ (ms) ?_ ?_ <;> simp (maxDischargeDepth := 120) [*] <;> refine ⟨?_⟩) | (refine RunQW.k rfl rfl rfl rfl ?_ (is) ?_ ?_ <;> simp (maxDischargeDepth := 120) [*] <;> refine ⟨?_⟩) | (refine WK.t Tryz.func32 ?_ ?_ <;> simp (maxDischargeDepth := 120) [Tryz.results32, *]))

theorem wN_lo (x : BitVec 64) : (wN ⟨0#64, x⟩ : Nat) = x.toNat := by unfold wN; simp
theorem nsEnc_succ {l : List (Int × Nat)} {i : Nat} (h : i < l.length) : nsEnc (l.take (i + 1)) = nsEnc (l.take i) ++ beN (nth l i).1 (nth l i).2 := by
 unfold nsEnc; rw [take_nth h, List.flatMap_append]; simp
def fmFront (m : FlowMod) : List (BitVec 8) := beN m.cookie.toNat 8 ++ beN m.cookieMask.toNat 8
def fmAcc (m : FlowMod) (i : Nat) : List (BitVec 8) := fmFront m ++ nsEnc ((fmZip m).take i)
theorem fmAcc_succ (m : FlowMod) {i : Nat} (h : i < 9) : fmAcc m (i + 1) = fmAcc m i ++ beN (nth (fmNums m) i) (nth fmSizes i) := by
 unfold fmAcc; rw [nsEnc_succ h, List.append_assoc, fmZip_at m h]
theorem fmAcc_len (m : FlowMod) (i : Nat) : (fmAcc m i).length ≤ 16 + i * 4 := by
 induction i with
 | zero => unfold fmAcc fmFront nsEnc; simp [beN_len]
 | succ i ih =>
   by_cases h : i < 9
   · rw [fmAcc_succ m h, List.length_append, beN_len]
     have := (fmSize_at i h).2.2
     omega
   · have e : fmAcc m (i + 1) = fmAcc m i := by
       unfold fmAcc
       rw [List.take_of_length_le (by show 9 ≤ i + 1; omega), List.take_of_length_le (by show 9 ≤ i; omega)]
     rw [e]; omega
theorem fmAcc_all (m : FlowMod) : fmAcc m 9 ++ [0#8, 0#8] = fmHead m ∧ (fmAcc m 9).length = 38 := by
 have e : fmAcc m 9 ++ [0#8, 0#8] = fmHead m := by
   unfold fmAcc fmFront fmHead
   rw [List.take_of_length_le (by show 9 ≤ 9; omega)]
   simp only [List.append_assoc]; rfl
 refine ⟨e, ?_⟩
 have h := fmHead_len m
 rw [← e, List.length_append] at h
 simp only [List.length_cons, List.length_nil] at h
 omega
theorem z2L : byL [0#8, 0#8] = [.int .u8 0, .int .u8 0] := rfl
set_option maxHeartbeats 4000000 in
theorem fmenc_c (m : FlowMod) (hm : FmB m) : FnT Tryz.prog 233 [.agg m.enc] (fmEnc m).1.length 1 (byL (fmEnc m).1) [.int .i64 (fmEnc m).2] := by
 have r := fmright_c m hm
 cases hr : fmRight m
 · have e := fmEnc_bad hr
   rw [hr] at r
   rw [e]
   unfold FlowMod.enc at *
   clear e hr
   refine FnT.intro Tryz.func233 rfl rfl fun G w => ?_
   repeat' (first | apply WK.s | refine WK.cT rfl ?_ | (refine hQ.h _ _ ?_; clear hQ hA) | (refine WK.rH Tryz.ntmps233 (by kernel_rfl) ?_; intro A hA Q hQ; simp [*]) | (refine RunQ.k rfl rfl rfl rfl rfl ?_ (r) ?_ ?_ <;> simp (maxDischargeDepth := 120) [*] <;> refine ⟨?_⟩))
   refine WK.ghost (Ghost.own 2 900 1 rfl rfl) ?_
   refine WK.retT2 Tryz.func233 ?_ ?_ ?_ <;> simp (maxDischargeDepth := 120) [Tryz.results233, b0_]
 obtain ⟨hn, hM, hI, _⟩ := fmRight_facts hr
 have e : (fmEnc m) = (fmHead m ++ ((mEnc m.mat).1 ++ (inEnc m.insts).1), 0) := by unfold fmEnc; rw [if_pos hr]
 rw [hr] at r
 have sz := fsizes_c
 have nm := fnumbers_c m
 have me := mencP_c m.mat hm.mat
 have ie := iencP_c m.insts hm.insts hm.acts
 have hMl := mEnc_len m.mat
 have hIl := inEnc_len m.insts
 rw [hM] at me
 rw [hI] at ie
 have w1 := wput_c [] ⟨0#64, m.cookie⟩ 8 (by omega) (by simp)
 rw [wPut_beN _ _ _ (by omega), wN_lo, List.nil_append] at w1
 have w2 := wput_c (beN m.cookie.toNat 8) ⟨0#64, m.cookieMask⟩ 8 (by omega) (by simp [beN_len])
 rw [wPut_beN _ _ _ (by omega), wN_lo] at w2
 have hA0 : fmAcc m 0 = beN m.cookie.toNat 8 ++ beN m.cookieMask.toNat 8 := by unfold fmAcc fmFront nsEnc; simp
 rw [← hA0] at w2
 have h0l : (fmAcc m 0).length = 16 := by rw [hA0, List.length_append, beN_len, beN_len]
 have hcl : (beN m.cookie.toNat 8).length = 8 := beN_len _ _
 have hok : ∀ i, i < 9 → numOk (nth (fmNums m) i) (nth fmSizes i) = true := fun i hi => by
   have := hn _ (nth_mem (l := fmZip m) (i := i) hi)
   rw [fmZip_at m hi] at this; exact this
 have hsuc : ∀ i, i < 9 → fmAcc m (i + 1) = fmAcc m i ++ beN (nth (fmNums m) i) (nth fmSizes i) := fun i hi => fmAcc_succ m hi
 have hlen : ∀ i, (fmAcc m i).length ≤ 16 + i * 4 := fmAcc_len m
 obtain ⟨hAll, hAl⟩ := fmAcc_all m
 obtain ⟨N, hN⟩ : ∃ N, fmNums m = N := ⟨_, rfl⟩
 have hNl : N.length = 9 := by rw [← hN]; rfl
 rw [hN] at nm hok hsuc
 obtain ⟨C8, hC8⟩ : ∃ C, beN m.cookie.toNat 8 = C := ⟨_, rfl⟩
 rw [hC8] at w1 w2 hcl
 have hcf : (byL C8).take 8 = byL C8 := by_full _ _ hcl.symm
 simp only [byS, oxmS, instS, Wide.enc, uZ_, hcl, h0l, b0_, List.length_nil] at w1 w2 me ie
 obtain ⟨M, hMM⟩ : ∃ M, (mEnc m.mat).1 = M := ⟨_, rfl⟩
 obtain ⟨I, hII⟩ : ∃ I, (inEnc m.insts).1 = I := ⟨_, rfl⟩
 rw [hMM] at me e hMl
 rw [hII] at ie e hIl
 rw [← hAll] at e
 have hsl : (intL fmSizesI).length = 9 := rfl
 clear hN hm hr hn hM hI hA0 hC8 hAll hMM hII
 unfold FlowMod.enc at *
 refine FnT.intro Tryz.func233 rfl rfl fun G w => ?_
 repeat' (first | apply WK.s | apply WK.k | refine WK.cF rfl ?_ | (refine hQ.h _ _ ?_; clear hQ hA) | (refine WK.rH (id := 0) Tryz.ntmps233 (by kernel_rfl) ?_; intro A hA Q hQ; simp [*]) | (refine WK.rH (id := 1) Tryz.ntmps233 (by kernel_rfl) ?_; intro A hA Q hQ; simp [*]) | (refine WK.rH (id := 2) Tryz.ntmps233 (by kernel_rfl) ?_; intro A hA Q hQ; simp [*]) | (refine WK.rH (id := 3) Tryz.ntmps233 (by kernel_rfl) ?_; intro A hA Q hQ; simp [*]) | (refine RunQ.k rfl rfl rfl rfl rfl ?_ (r) ?_ ?_ <;> simp (maxDischargeDepth := 120) [*] <;> refine ⟨?_⟩))
 refine WK.ghost (Ghost.frzVar 4 rfl rfl) ?_
 repeat' (first | apply WK.s | apply WK.b | (refine hQ.h _ _ ?_; clear hQ hA) | (refine WK.rH Tryz.ntmps233 (by kernel_rfl) ?_; intro A hA Q hQ; simp [*]) | (refine WK.rX (by kernel_rfl) Tryz.ntmps233 (by kernel_rfl) ?_; intro A hA Q hQ; simp [*]) | (refine hQ.h _ _ _ (by decide +kernel) ?_; clear hQ hA) | (refine RunX.callO 900 rfl rfl rfl rfl ?_ (w1) ?_ ?_ ?_ ?_; (focus (simp (maxDischargeDepth := 120) [*]; done)); (focus (simp [*]; done)); (focus (simp [*]; done)); (focus (simp [*]; done)); refine RunX.e ?_; simp [*]) | (refine RunX.callOz 901 25 1 rfl rfl rfl rfl rfl rfl ?_ (w2) ?_ ?_ (by simp) (by decide) ?_; (focus (simp (maxDischargeDepth := 120) [*]; done)); (focus (simp [*]; done)); (focus (simp [*]; done)); refine RunX.e ?_; simp [*]) | (refine RunQ.k rfl rfl rfl rfl rfl ?_ (sz) ?_ ?_ <;> simp (maxDischargeDepth := 120) [*] <;> refine ⟨?_⟩) | (refine RunQ.k rfl rfl rfl rfl rfl ?_ (nm) ?_ ?_ <;> simp (maxDischargeDepth := 120) [*] <;> refine ⟨?_⟩))
 refine WK.lI (fun n => if n = 1 then 901 else if n = 2 then 401 else n) (fun i : Nat => (⟨(upd (upd (upd (upd (upd J 4 (.iptr m.enc)) 5 (.msl 1 0 (fmAcc m i).length)) 6 (.ptr 2 0)) 35 (.agg (intL N))) 36 (.int .i64 i)), (upd (upd B0 1 (.buf 1 (byL (fmAcc m i)))) 2 (.var (intL fmSizesI))), 0⟩ : St)) (fun i => i ≤ 9) (fun i => 9 - i) (0) (by repeat (first | exact TmW.nil | refine TmW.upd ?_ (by simp (maxDischargeDepth := 120) [FlowMod.enc, h0l]))) (by repeat (first | exact BxW.nil | refine BxW.upd ?_ (by simp (maxDischargeDepth := 120) [FlowMod.enc, h0l]))) (by first | exact InjW.id | exact InjW.nil | exact InjW.one | exact InjW.two (by simp) | exact InjW.three (by simp) (by simp) (by simp)) (Nat.zero_le _) (fun i hi IH => ?_)
 clear r sz nm w1 w2
 unfold FlowMod.enc
 by_cases h1 : i < 9
 · obtain ⟨s1, s2, s3⟩ := fmSize_at i h1
   have h1' : (i : Int) < 9 := by omega
   have h6 : IntKind.i64.wrap ((i : Int) + 1) = i + 1 := wrap_i64 (by omega) (by omega)
   have hl := hlen i
   have c := nput_c (fmAcc m i) (nth N i) (nth fmSizes i) s2 (by omega)
   rw [putN_beN (hok i h1), ← hsuc i h1] at c
   have g1 := intL_get' N i (by omega)
   have g2 := intL_get' fmSizesI i h1
   rw [s1] at g2
   obtain ⟨x, hx⟩ : ∃ x, nth N i = x := ⟨_, rfl⟩
   obtain ⟨s, hs⟩ : ∃ x, nth fmSizes i = x := ⟨_, rfl⟩
   rw [hx, hs] at c
   rw [hx] at g1
   rw [hs] at g2
   obtain ⟨F, hF⟩ : ∃ F, fmAcc m i = F := ⟨_, rfl⟩
   rw [hF] at c ⊢
   have hfu := by_full F F.length rfl
   have hnl : (intL N).length = 9 := by rw [intL_len, hNl]
   unfold byS at c
   clear hx hs hF hok hsuc hlen s1 s2 s3 me ie e hAl
   repeat' (first | apply WK.s | apply WK.b | apply WK.n | apply WK.k | refine WK.cT rfl ?_ | (refine hQ.h _ _ ?_; clear hQ hA) | (refine WK.rH Tryz.ntmps233 (by kernel_rfl) ?_; intro A hA Q hQ; simp [*]) | (refine RunQ.callOz 902 40 1 rfl rfl rfl rfl rfl rfl rfl ?_ (c) ?_ ?_ (by simp) (by decide) ?_; (focus (simp (maxDischargeDepth := 120) [*]; done)); (focus (simp [*]; done)); (focus (simp [*]; done)); refine RunQ.e ?_; simp [*]))
   refine WK.next (fun n => if n = 1 then 902 else n) (IH (i + 1) (by omega) (by first | omega | (dsimp only; omega))) (by repeat (first | exact TmW.nil | refine TmW.upd ?_ (by simp (maxDischargeDepth := 120) [FlowMod.enc]))) (by repeat (first | exact BxW.nil | refine BxW.upd ?_ (by simp (maxDischargeDepth := 120) [FlowMod.enc]))) (by first | exact InjW.id | exact InjW.nil | exact InjW.one | exact InjW.two (by simp) | exact InjW.three (by simp) (by simp) (by simp))
 · have hi9 : i = 9 := by omega
   subst hi9
   rw [e]
   obtain ⟨F, hF⟩ : ∃ F, fmAcc m 9 = F := ⟨_, rfl⟩
   rw [hF] at hAl ⊢
   have hA2 : byL F ++ [AV.int .u8 0, AV.int .u8 0] = byL (F ++ [0#8, 0#8]) := by rw [byL_app, z2L]
   have hA2l : (F ++ [0#8, 0#8]).length = 40 := by rw [List.length_append, hAl]; rfl
   obtain ⟨H, hH⟩ : ∃ H, F ++ [0#8, 0#8] = H := ⟨_, rfl⟩
   rw [hH] at hA2 hA2l ⊢
   have hA3 : byL H ++ byL M = byL (H ++ M) := (byL_app _ _).symm
   have hA3l : (H ++ M).length = 40 + M.length := by rw [List.length_append, hA2l]
   have hE : H ++ (M ++ I) = (H ++ M) ++ I := (List.append_assoc _ _ _).symm
   rw [hE]
   obtain ⟨K, hK⟩ : ∃ K, H ++ M = K := ⟨_, rfl⟩
   rw [hK] at hA3 hA3l ⊢
   have hA4 : byL K ++ byL I = byL (K ++ I) := (byL_app _ _).symm
   have hA4l : (K ++ I).length = 40 + M.length + I.length := by rw [List.length_append, hA3l]
   obtain ⟨E, hEE⟩ : ∃ E, K ++ I = E := ⟨_, rfl⟩
   rw [hEE] at hA4 hA4l ⊢
   have hfM := by_full M M.length rfl
   have hfI := by_full I I.length rfl
   have hb1 : 40 + M.length ≤ 140737488355328 := by omega
   have hb2 : 40 + M.length + I.length ≤ 140737488355328 := by omega
   rw [hAl]
   simp only
   rw [hA4l]
   clear hok hsuc hlen e hF hH hE hK hEE hMl hIl hA4l h1 h0l hcl hcf hNl hsl
   repeat' (first | apply WK.s | refine WK.exit rfl ?_ | refine WK.cF rfl ?_ | (refine hQ.h _ _ ?_; clear hQ hA) | (refine WK.rH Tryz.ntmps233 (by kernel_rfl) ?_; intro A hA Q hQ; simp [*]) | (refine RunQ.append 903 appByte rfl rfl rfl rfl rfl rfl rfl rfl rfl ?_ ?_ ?_ ?_ ?_; (focus (first | omega | (simp [*]; done); done)); (focus (first | omega | (simp [*]; done); done)); (focus (first | omega | (simp [*]; done); done)); (focus (first | omega | (simp [*]; done); done)); refine RunQ.e ?_; simp [*]) | (refine RunQ.append 904 appByte rfl rfl rfl rfl rfl rfl rfl rfl rfl ?_ ?_ ?_ ?_ ?_; (focus (first | omega | (simp [*]; done); done)); (focus (first | omega | (simp [*]; done); done)); (focus (first | omega | (simp [*]; done); done)); (focus (first | omega | (simp [*]; done); done)); refine RunQ.e ?_; simp [*]) | (refine RunQ.append 905 appByte rfl rfl rfl rfl rfl rfl rfl rfl rfl ?_ ?_ ?_ ?_ ?_; (focus (first | omega | (simp [*]; done); done)); (focus (first | omega | (simp [*]; done); done)); (focus (first | omega | (simp [*]; done); done)); (focus (first | omega | (simp [*]; done); done)); refine RunQ.e ?_; simp [*]) | (refine RunQ.k rfl rfl rfl rfl rfl ?_ (me) ?_ ?_ <;> simp (maxDischargeDepth := 120) [*] <;> refine ⟨?_⟩) | (refine RunQ.k rfl rfl rfl rfl rfl ?_ (ie) ?_ ?_ <;> simp (maxDischargeDepth := 120) [*] <;> refine ⟨?_⟩) | (refine WK.retT2 Tryz.func233 ?_ ?_ ?_ <;> simp (maxDischargeDepth := 120) [Tryz.results233, *]))
theorem fmencP_c (m : FlowMod) (hm : FmB m) : FnP Tryz.prog 233 [.agg m.enc] (.tup [byS (fmEnc m).1, .int .i64 (fmEnc m).2]) := by
 have h := (fmenc_c m hm).toP (by simp [byL_take]) (by rfl)
 rwa [Nat.mul_one, by_full _ _ rfl] at h
end Go.Proofs.YtcccfbjkcahgfaaGreat
