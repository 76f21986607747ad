/- Changes of groups: the reference, and the laws. -/
import Derived.Test.YtcccfbjkcahgfaaGreatAf
import Derived.Test.YtcccfbjkcahgfaaGreatWk9
import Derived.Test.YtcccfbjkcahgfaaGreatWk8
import Derived.Test.YtcccfbjkcahgfaaGreatWk10
set_option linter.all false
set_option linter.unnecessarySimpa false
namespace Go.Proofs.YtcccfbjkcahgfaaGreat
open Go Go.AI Go.Proofs
attribute [local irreducible] FnP FnO FnB FnT FnSeq WK RunQ RunQW RunX RunXW
theorem rgright_c (g : GroupMod) (hg : GmFit g) : FnP Tryz.prog 31 [.agg g.enc] (.bool (gmRight g)) := by
 have p := rbkencP_c g.buckets hg.len hg.acts
 have n3 := rright_c g.id 4 Sz4
 have e : gmRight g = ((bkEnc g.buckets).2 == 0 && ((decide (0 ≤ g.command) && decide (g.command ≤ 2)) && ((decide (0 ≤ g.kind) && decide (g.kind ≤ 3)) && numOk g.id 4))) := rfl
 obtain ⟨R, hR⟩ : ∃ R, bkEnc g.buckets = R := ⟨_, rfl⟩
 rw [hR] at p e
 simp only [byS, bukS] at p
 refine FnP.intro Tryz.func31 rfl rfl fun G w => ?_
 repeat' (first | apply WK.seq | (refine hQ.h _ _ ?_; clear hQ hA) | (refine Fork.mk (fun h => ?_) (fun h => ?_) <;> (first | (simp [*] at h; done) | (have h2 := h; simp at h2; exfalso; omega) | (have h2 := h; simp at h2; try simp only [Bool.not_eq_true', Bool.not_eq_false'] at h) | skip)) | (refine WK.rH Tryz.ntmps31 (by kernel_rfl) ?_; intro A hA Q hQ; simp [GroupMod.enc, *]) | (refine RunQ.gd rfl (by rw [hA.h]; rfl) ?_; simp [GroupMod.enc, *]) | (refine RunQ.k rfl rfl rfl rfl rfl ?_ (p) ?_ ?_ <;> simp (maxDischargeDepth := 120) [GroupMod.enc, *] <;> refine ⟨?_⟩) | (refine RunQW.k rfl rfl rfl rfl ?_ (n3) ?_ ?_ <;> simp (maxDischargeDepth := 120) [GroupMod.enc, *] <;> refine ⟨?_⟩) | (refine WK.ret Tryz.func31 ?_ ?_ <;> simp (maxDischargeDepth := 120) [Tryz.results31, GroupMod.enc, *]))
theorem rgsame_c (a b : GroupMod) (ha : GmFit a) : FnP Tryz.prog 36 [.agg a.enc, .agg b.enc] (.bool (GroupMod.same a b)) := by
 have hsa := rbsameL_c a.buckets b.buckets ha.len ha.acts
 have e : GroupMod.same a b = ((a.command == b.command && (a.kind == b.kind && a.id == b.id)) && eqBy Bucket.same a.buckets b.buckets) := rfl
 obtain ⟨s, hs⟩ : ∃ s, eqBy Bucket.same a.buckets b.buckets = s := ⟨_, rfl⟩
 rw [hs] at hsa e
 unfold bukS at hsa
 refine FnP.intro Tryz.func36 rfl rfl fun G w => ?_
 repeat' (first | apply WK.seq | (refine hQ.h _ _ ?_; clear hQ hA) | (refine Fork.mk (fun h => ?_) (fun h => ?_) <;> (first | (simp [*] at h; done) | (have h2 := h; simp at h2; exfalso; omega) | (have h2 := h; simp at h2; try simp only [Bool.not_eq_true', Bool.not_eq_false'] at h) | skip)) | (refine WK.rH Tryz.ntmps36 (by kernel_rfl) ?_; intro A hA Q hQ; simp [GroupMod.enc, *]) | (refine RunQ.gd rfl (by rw [hA.h]; rfl) ?_; simp [GroupMod.enc, *]) | (refine RunQW.k rfl rfl rfl rfl ?_ (hsa) ?_ ?_ <;> simp (maxDischargeDepth := 120) [GroupMod.enc, *] <;> refine ⟨?_⟩) | (refine WK.ret Tryz.func36 ?_ ?_ <;> simp (maxDischargeDepth := 120) [Tryz.results36, GroupMod.enc, *]))
set_option maxHeartbeats 4000000 in
theorem rgenc_c (g : GroupMod) (hg : GmFit g) : FnT Tryz.prog 26 [.agg g.enc] (gmEnc g).1.length 1 (byL (gmEnc g).1) [.int .i64 (gmEnc g).2] := by
 have r := rgright_c g hg
 cases hr : gmRight g
 · have e : gmEnc g = ([], 1) := by unfold gmEnc; rw [if_neg (by rw [hr]; exact Bool.false_ne_true)]
   rw [hr] at r
   rw [e]
   unfold GroupMod.enc at *
   refine FnT.intro Tryz.func26 rfl rfl fun G w => ?_
   repeat' (first | apply WK.seq | refine WK.cT rfl ?_ | (refine hQ.h _ _ ?_; clear hQ hA) | (refine WK.rH Tryz.ntmps26 (by kernel_rfl) ?_; intro A hA Q hQ; simp [*]) | (refine RunQ.k rfl rfl rfl rfl rfl ?_ (r) ?_ ?_ <;> simp (maxDischargeDepth := 120) [*] <;> refine ⟨?_⟩))
   refine WK.ghost (Ghost.own 2 900 1 rfl rfl) ?_
   refine WK.retT2 Tryz.func26 ?_ ?_ ?_ <;> simp (maxDischargeDepth := 120) [Tryz.results26, b0_]
 have h0 := (gmFld hr).2
 have e : gmEnc g = (gmHead g ++ (bkEnc g.buckets).1, 0) := by unfold gmEnc; rw [if_pos hr]
 have hh := hr
 unfold gmRight at hh
 rw [Bool.and_eq_true, Bool.and_eq_true, Bool.and_eq_true, beq_iff_eq] at hh
 obtain ⟨_, h1, h2, h3⟩ := hh
 have p := rbkencP_c g.buckets hg.len hg.acts
 have hEl := bkEnc_len g.buckets
 have c1 := rput_c [] g.command 2 Sz2 (by simp)
 rw [putN_beN (gmIn_ok h1 (by decide)), List.nil_append] at c1
 have c2 := rput_c (beN g.command 2) g.kind 1 Sz1 (by rw [beN_len]; omega)
 rw [putN_beN (gmIn_ok h2 (by decide))] at c2
 have c3 := rput_c (beN g.command 2 ++ beN g.kind 1 ++ [0#8]) g.id 4 Sz4 (by simp [beN_len])
 rw [putN_beN h3] at c3
 have l1 : (beN g.command 2).length = 2 := beN_len _ _
 have l2 : (beN g.command 2 ++ beN g.kind 1).length = 3 := by simp [beN_len]
 have l3 : (beN g.command 2 ++ beN g.kind 1 ++ [0#8]).length = 4 := by simp [beN_len]
 have l4 : (beN g.command 2 ++ beN g.kind 1 ++ [0#8] ++ beN g.id 4).length = 8 := by simp [beN_len]
 have hH : gmHead g = beN g.command 2 ++ beN g.kind 1 ++ [0#8] ++ beN g.id 4 := by
   unfold gmHead; rw [show beN 0 1 = [0#8] from rfl]; simp only [List.append_assoc]
 have b3 : byL (beN g.command 2 ++ beN g.kind 1 ++ [0#8]) = byL (beN g.command 2 ++ beN g.kind 1) ++ [.int .u8 0] := by rw [byL_app]; rfl
 rw [h0] at p
 rw [hr] at r
 rw [hH] at e
 obtain ⟨E, hE⟩ : ∃ E, (bkEnc g.buckets).1 = E := ⟨_, rfl⟩
 rw [hE] at p e hEl
 obtain ⟨F3, hF3⟩ : ∃ F, beN g.command 2 ++ beN g.kind 1 ++ [0#8] ++ beN g.id 4 = F := ⟨_, rfl⟩
 rw [hF3] at c3 e l4
 obtain ⟨F2b, hF2b⟩ : ∃ F, beN g.command 2 ++ beN g.kind 1 ++ [0#8] = F := ⟨_, rfl⟩
 rw [hF2b] at c3 l3 b3
 obtain ⟨F2, hF2⟩ : ∃ F, beN g.command 2 ++ beN g.kind 1 = F := ⟨_, rfl⟩
 rw [hF2] at c2 l2 b3
 obtain ⟨F1, hF1⟩ : ∃ F, beN g.command 2 = F := ⟨_, rfl⟩
 rw [hF1] at c1 c2 l1
 have hKl : (F3 ++ E).length = 8 + E.length := by rw [List.length_append, l4]
 rw [e]
 simp only
 rw [hKl]
 have hbd : 8 + E.length ≤ 140737488355328 := by omega
 have hfu := by_full E E.length rfl
 have f1 := by_full F1 2 l1.symm
 have f2 := by_full F2b 4 l3.symm
 simp only [byS, bukS, l1, l2, l3, l4, b0_, List.length_nil] at p c1 c2 c3
 rw [b3] at c3 f2
 unfold GroupMod.enc at *
 clear hE hF1 hF2 hF2b hF3 hEl hg e hr h0 hH h1 h2 h3 b3 hKl
 refine FnT.intro Tryz.func26 rfl rfl fun G w => ?_
 repeat' (first | apply WK.seq | apply WK.skip | refine WK.cF rfl ?_ | (refine hQ.h _ _ ?_; clear hQ hA) | (refine WK.rH Tryz.ntmps26 (by kernel_rfl) ?_; intro A hA Q hQ; simp [*]) | (refine WK.rX (by kernel_rfl) Tryz.ntmps26 (by kernel_rfl) ?_; intro A hA Q hQ; simp [*]) | (refine hQ.h _ _ _ (by decide +kernel) ?_; clear hQ hA) | (refine RunX.callO 901 rfl rfl rfl rfl ?_ (c1) ?_ ?_ ?_ ?_; (focus (simp (maxDischargeDepth := 120) [*]; done)); (focus (simp [*]; done)); (focus (simp [*]; done)); (focus (simp [*]; done)); refine RunX.e ?_; simp [*]) | (refine RunX.callOz 902 18 1 rfl rfl rfl rfl rfl rfl ?_ (c2) ?_ ?_ (by simp) (by decide) ?_; (focus (simp (maxDischargeDepth := 120) [*]; done)); (focus (simp [*]; done)); (focus (simp [*]; done)); refine RunX.e ?_; simp [*]) | (refine RunX.append 903 appByte rfl rfl rfl rfl rfl rfl rfl rfl ?_ ?_ ?_ ?_ ?_; (focus (first | omega | (simp [*]; done); done)); (focus (first | omega | (simp [*]; done); done)); (focus (first | omega | (simp [*]; done); done)); (focus (first | omega | (simp [*]; done); done)); refine RunX.e ?_; simp [*]) | (refine RunX.callOz 904 24 1 rfl rfl rfl rfl rfl rfl ?_ (c3) ?_ ?_ (by simp) (by decide) ?_; (focus (simp (maxDischargeDepth := 120) [*]; done)); (focus (simp [*]; done)); (focus (simp [*]; done)); refine RunX.e ?_; simp [*]) | (refine RunX.append 905 appByte rfl rfl rfl rfl rfl rfl rfl rfl ?_ ?_ ?_ ?_ ?_; (focus (first | omega | (simp [*]; done); done)); (focus (first | omega | (simp [*]; done); done)); (focus (first | omega | (simp [*]; done); done)); (focus (first | omega | (simp [*]; done); done)); refine RunX.e ?_; simp [*]) | (refine RunQ.k rfl rfl rfl rfl rfl ?_ (r) ?_ ?_ <;> simp (maxDischargeDepth := 120) [*] <;> refine ⟨?_⟩) | (refine RunQ.k rfl rfl rfl rfl rfl ?_ (p) ?_ ?_ <;> simp (maxDischargeDepth := 120) [*] <;> refine ⟨?_⟩) | (refine WK.retT2 Tryz.func26 ?_ ?_ ?_ <;> simp (maxDischargeDepth := 120) [Tryz.results26, byL_app, *]))
theorem u8_i64' (x : BitVec 8) : IntKind.i64.wrap (bI x) = bI x := by
 have := x.isLt
 unfold bI
 exact wrap_i64 (by omega) (by omega)
theorem rgencP_c (g : GroupMod) (hg : GmFit g) : FnP Tryz.prog 26 [.agg g.enc] (.tup [byS (gmEnc g).1, .int .i64 (gmEnc g).2]) := by
 have h := (rgenc_c g hg).toP (by simp [byL_take]) (by rfl)
 rwa [Nat.mul_one, by_full _ _ rfl] at h

theorem rimeta_c (i : Inst) : FnP Tryz.prog 122 [.agg i.enc] (.bool (inMeta i.value i.mask)) := by
 have l := rless_c i.value i.mask
 have z := rzero_c (i.value.less i.mask)
 have e : inMeta i.value i.mask = (i.value.hi == 0#64 && (i.mask.hi == 0#64 && (i.value.less i.mask).zero)) := rfl
 obtain ⟨r, hr⟩ : ∃ r, (i.value.less i.mask).zero = r := ⟨_, rfl⟩
 rw [hr] at z e
 unfold Wide.enc at l z
 refine FnP.intro Tryz.func122 rfl rfl fun G w => ?_
 repeat' (first | apply WK.seq | (refine hQ.h _ _ ?_; clear hQ hA) | (refine Fork.mk (fun h => ?_) (fun h => ?_) <;> (first | (simp [*] at h; done) | (have h2 := h; simp at h2; exfalso; omega) | (have h2 := h; simp at h2; try simp only [Bool.not_eq_true', Bool.not_eq_false'] at h) | skip)) | (refine WK.rH Tryz.ntmps122 (by kernel_rfl) ?_; intro A hA Q hQ; simp [Inst.enc, *]) | (refine RunQ.gd rfl (by rw [hA.h]; rfl) ?_; simp [Inst.enc, *]) | (refine RunQW.k rfl rfl rfl rfl ?_ (l) ?_ ?_ <;> simp (maxDischargeDepth := 120) [Inst.enc, *] <;> refine ⟨?_⟩) | (refine RunQW.k rfl rfl rfl rfl ?_ (z) ?_ ?_ <;> simp (maxDischargeDepth := 120) [Inst.enc, *] <;> refine ⟨?_⟩) | (refine WK.ret Tryz.func122 ?_ ?_ <;> simp (maxDischargeDepth := 120) [Tryz.results122, Inst.enc, *]))
set_option maxHeartbeats 4000000 in
theorem riright_c (i : Inst) (hi : i.acts.length ≤ 1000000) : FnP Tryz.prog 88 [.agg i.enc] (.bool (inRight i)) := by
 have p := racencP_c i.acts hi
 have s := risame_c i (inBare i) hi
 have m := rimeta_c i
 have e : inRight i = (inOk i && Inst.same i (inBare i)) := rfl
 obtain ⟨z, hz⟩ : ∃ z, Inst.same i (inBare i) = z := ⟨_, rfl⟩
 rw [hz] at s e
 clear hz
 unfold inBare at s
 unfold inOk at e
 obtain ⟨R, hR⟩ : ∃ R, acEnc i.acts = R := ⟨_, rfl⟩
 rw [hR] at p e
 simp only [byS, actS] at p
 clear hR
 obtain ⟨kk, t, v, mm, l⟩ := i
 simp only at hi p s m e
 by_cases k1 : kk = 1
 · subst k1
   rw [if_pos rfl] at s e
   have e3 : decide (t < 255) = decide (t ≤ 254) := by rw [Bool.eq_iff_iff, decide_eq_true_eq, decide_eq_true_eq]; omega
   rw [e3] at e
   simp only [Inst.enc, wideZ, uZ_, List.length_nil, actL_nil] at s
   clear e3
   refine FnP.intro Tryz.func88 rfl rfl fun G w => ?_
   repeat' (first | apply WK.seq | apply WK.block | refine WK.cT rfl ?_ | (refine hQ.h _ _ ?_; clear hQ hA) | (refine Fork.mk (fun h => ?_) (fun h => ?_) <;> (first | (simp [*] at h; done) | (have h2 := h; simp at h2; exfalso; omega) | (have h2 := h; simp at h2; try simp only [Bool.not_eq_true', Bool.not_eq_false'] at h) | skip)) | (refine WK.rH Tryz.ntmps88 (by kernel_rfl) ?_; intro A hA Q hQ; simp [Inst.enc, wideZ, uZ_, *]) | (refine RunQ.gd rfl (by rw [hA.h]; rfl) ?_; simp [Inst.enc, wideZ, uZ_, *]) | (refine RunQW.k rfl rfl rfl rfl ?_ (s) ?_ ?_ <;> simp (maxDischargeDepth := 120) [Inst.enc, wideZ, uZ_, *] <;> refine ⟨?_⟩) | (refine WK.ret Tryz.func88 ?_ ?_ <;> simp (maxDischargeDepth := 120) [Tryz.results88, Inst.enc, wideZ, uZ_, *]))
 have j1 : (kk == 1) = false := by simpa using k1
 by_cases k2 : kk = 2
 · subst k2
   rw [if_neg (by decide), if_pos rfl] at s e
   simp only [Inst.enc, wideZ, uZ_, List.length_nil, actL_nil] at s m
   refine FnP.intro Tryz.func88 rfl rfl fun G w => ?_
   repeat' (first | apply WK.seq | apply WK.block | refine WK.cT rfl ?_ | refine WK.cF rfl ?_ | (refine hQ.h _ _ ?_; clear hQ hA) | (refine Fork.mk (fun h => ?_) (fun h => ?_) <;> (first | (simp [*] at h; done) | (have h2 := h; simp at h2; exfalso; omega) | (have h2 := h; simp at h2; try simp only [Bool.not_eq_true', Bool.not_eq_false'] at h) | skip)) | (refine WK.rH Tryz.ntmps88 (by kernel_rfl) ?_; intro A hA Q hQ; simp [Inst.enc, wideZ, uZ_, *]) | (refine RunQ.gd rfl (by rw [hA.h]; rfl) ?_; simp [Inst.enc, wideZ, uZ_, *]) | (refine RunQ.k rfl rfl rfl rfl rfl ?_ (m) ?_ ?_ <;> simp (maxDischargeDepth := 120) [Inst.enc, wideZ, uZ_, *] <;> refine ⟨?_⟩) | (refine RunQW.k rfl rfl rfl rfl ?_ (s) ?_ ?_ <;> simp (maxDischargeDepth := 120) [Inst.enc, wideZ, uZ_, *] <;> refine ⟨?_⟩) | (refine WK.ret Tryz.func88 ?_ ?_ <;> simp (maxDischargeDepth := 120) [Tryz.results88, Inst.enc, wideZ, uZ_, *]))
 have j2 : (kk == 2) = false := by simpa using k2
 by_cases k3 : kk = 3
 · subst k3
   rw [if_neg (by decide), if_neg (by decide), if_pos (.inl rfl)] at s e
   simp only [Inst.enc, wideZ, uZ_] at s
   refine FnP.intro Tryz.func88 rfl rfl fun G w => ?_
   repeat' (first | apply WK.seq | apply WK.block | apply WK.skip | refine WK.cT rfl ?_ | refine WK.cF rfl ?_ | (refine hQ.h _ _ ?_; clear hQ hA) | (refine Fork.mk (fun h => ?_) (fun h => ?_) <;> (first | (simp [*] at h; done) | (have h2 := h; simp at h2; exfalso; omega) | (have h2 := h; simp at h2; try simp only [Bool.not_eq_true', Bool.not_eq_false'] at h) | skip)) | (refine WK.rH Tryz.ntmps88 (by kernel_rfl) ?_; intro A hA Q hQ; simp [Inst.enc, wideZ, uZ_, *]) | (refine RunQ.gd rfl (by rw [hA.h]; rfl) ?_; simp [Inst.enc, wideZ, uZ_, *]) | (refine RunQ.k rfl rfl rfl rfl rfl ?_ (p) ?_ ?_ <;> simp (maxDischargeDepth := 120) [Inst.enc, wideZ, uZ_, *] <;> refine ⟨?_⟩) | (refine RunQW.k rfl rfl rfl rfl ?_ (s) ?_ ?_ <;> simp (maxDischargeDepth := 120) [Inst.enc, wideZ, uZ_, *] <;> refine ⟨?_⟩) | (refine WK.ret Tryz.func88 ?_ ?_ <;> simp (maxDischargeDepth := 120) [Tryz.results88, Inst.enc, wideZ, uZ_, *]))
 have j3 : (kk == 3) = false := by simpa using k3
 by_cases k4 : kk = 4
 · subst k4
   rw [if_neg (by decide), if_neg (by decide), if_pos (.inr rfl)] at s e
   simp only [Inst.enc, wideZ, uZ_] at s
   refine FnP.intro Tryz.func88 rfl rfl fun G w => ?_
   repeat' (first | apply WK.seq | apply WK.block | refine WK.cT rfl ?_ | refine WK.cF rfl ?_ | (refine hQ.h _ _ ?_; clear hQ hA) | (refine Fork.mk (fun h => ?_) (fun h => ?_) <;> (first | (simp [*] at h; done) | (have h2 := h; simp at h2; exfalso; omega) | (have h2 := h; simp at h2; try simp only [Bool.not_eq_true', Bool.not_eq_false'] at h) | skip)) | (refine WK.rH Tryz.ntmps88 (by kernel_rfl) ?_; intro A hA Q hQ; simp [Inst.enc, wideZ, uZ_, *]) | (refine RunQ.gd rfl (by rw [hA.h]; rfl) ?_; simp [Inst.enc, wideZ, uZ_, *]) | (refine RunQ.k rfl rfl rfl rfl rfl ?_ (p) ?_ ?_ <;> simp (maxDischargeDepth := 120) [Inst.enc, wideZ, uZ_, *] <;> refine ⟨?_⟩) | (refine RunQW.k rfl rfl rfl rfl ?_ (s) ?_ ?_ <;> simp (maxDischargeDepth := 120) [Inst.enc, wideZ, uZ_, *] <;> refine ⟨?_⟩) | (refine WK.ret Tryz.func88 ?_ ?_ <;> simp (maxDischargeDepth := 120) [Tryz.results88, Inst.enc, wideZ, uZ_, *]))
 have j4 : (kk == 4) = false := by simpa using k4
 rw [if_neg k1, if_neg k2, if_neg (by omega)] at s e
 by_cases k5 : kk = 5
 · subst k5
   simp only [Inst.enc, wideZ, uZ_, List.length_nil, actL_nil] at s
   refine FnP.intro Tryz.func88 rfl rfl fun G w => ?_
   repeat' (first | apply WK.seq | apply WK.block | refine WK.cT rfl ?_ | refine WK.cF rfl ?_ | (refine hQ.h _ _ ?_; clear hQ hA) | (refine WK.rH Tryz.ntmps88 (by kernel_rfl) ?_; intro A hA Q hQ; simp [Inst.enc, wideZ, uZ_, *]) | (refine RunQ.k rfl rfl rfl rfl rfl ?_ (s) ?_ ?_ <;> simp (maxDischargeDepth := 120) [Inst.enc, wideZ, uZ_, *] <;> refine ⟨?_⟩) | (refine WK.ret Tryz.func88 ?_ ?_ <;> simp (maxDischargeDepth := 120) [Tryz.results88, Inst.enc, wideZ, uZ_, *]))
 have j5 : (kk == 5) = false := by simpa using k5
 refine FnP.intro Tryz.func88 rfl rfl fun G w => ?_
 repeat' (first | apply WK.seq | apply WK.block | apply WK.inBlock | apply WK.skip | refine WK.cF rfl ?_ | (refine hQ.h _ _ ?_; clear hQ hA) | (refine WK.rH Tryz.ntmps88 (by kernel_rfl) ?_; intro A hA Q hQ; simp [Inst.enc, wideZ, uZ_, *]) | (refine WK.ret Tryz.func88 ?_ ?_ <;> simp (maxDischargeDepth := 120) [Tryz.results88, Inst.enc, wideZ, uZ_, *]))
theorem inFind_hit {l : List Inst} {k : Int} {i : Nat} (h : i < l.length) (hk : (nth l i).kind = k) (hn : ∀ j, j < i → ¬ (nth l j).kind = k) : inFind l k = (nth l i, true) := by
 unfold inFind
 have : l.find? (fun i => i.kind == k) = some (nth l i) := by
   rw [List.find?_eq_some_iff_getElem]
   refine ⟨by simpa using hk, i, h, by rw [nth_eq h], fun j hj => ?_⟩
   have := hn j hj
   rw [nth_eq (by omega)] at this
   simpa using this
 rw [this]
theorem inFind_miss {l : List Inst} {k : Int} (hn : ∀ j, j < l.length → ¬ (nth l j).kind = k) : inFind l k = (inst0, false) := by
 unfold inFind
 have : l.find? (fun i => i.kind == k) = none := by
   rw [List.find?_eq_none]
   intro x hx
   obtain ⟨j, hj, rfl⟩ := mem_nth hx
   simpa using hn j hj
 rw [this]
theorem inst_get (l : List Inst) (i k : Nat) (h : i < l.length) (hk : k < 7) (h' : i * 7 + k < (instL l).length) : (instL l)[i * 7 + k] = ((nth l i).enc)[k]'(by rw [Inst.len]; exact hk) := fm_get Inst.len l i k h hk h'
theorem inst_part (l : List Inst) (i p q : Nat) (h : i < l.length) (hpq : p + q ≤ 7) : ((instL l).drop (i * 7 + p)).take q = ((nth l i).enc.drop p).take q := by
 rw [← inst_sub l i h, List.drop_take, List.drop_drop, List.take_take, Nat.min_eq_left (by omega)]
theorem inst_value (l : List Inst) (i : Nat) (h : i < l.length) : ((instL l).drop (i * 7 + 2)).take 2 = (nth l i).value.enc := by rw [inst_part l i 2 2 h (by omega)]; rfl
theorem inst_mask (l : List Inst) (i : Nat) (h : i < l.length) : ((instL l).drop (i * 7 + 4)).take 2 = (nth l i).mask.enc := by rw [inst_part l i 4 2 h (by omega)]; rfl
theorem riof_c (l : List Inst) (k : Int) (hl : l.length ≤ 1000000) : FnP Tryz.prog 87 [instS l, .int .i64 k] (.tup [.agg (inFind l k).1.enc, .bool (inFind l k).2]) := by
 unfold instS
 refine FnP.intro Tryz.func87 rfl rfl fun G w => ?_
 repeat' (first | apply WK.seq | apply WK.block | (refine hQ.h _ _ ?_; clear hQ hA) | (refine WK.rH Tryz.ntmps87 (by kernel_rfl) ?_; intro A hA Q hQ; simp [*]))
 refine WK.lI (fun n => n) (fun i : Nat => (⟨(upd (upd (upd (upd (upd J 0 (.sl false l.length (instL l))) 1 (.int .i64 k)) 4 (.ptr 0 0)) 5 (.bool false)) 6 (.int .i64 i)), (upd B0 0 (.var inst0.enc)), 0⟩ : St)) (fun i => i ≤ l.length ∧ ∀ j, j < i → ¬ (nth l j).kind = k) (fun i => l.length - i) (0) (by repeat (first | exact TmW.nil | refine TmW.upd ?_ (by simp (maxDischargeDepth := 120) [inst0, Inst.enc, wideZ, uZ_]))) (by repeat (first | exact BxW.nil | refine BxW.upd ?_ (by simp (maxDischargeDepth := 120) [inst0, Inst.enc, wideZ, uZ_]))) InjW.id (⟨by omega, by simp⟩) (fun i hi IH => ?_)
 by_cases h1 : i < l.length
 · have h4 := inst_sub l i h1
   have h3 : 7 ≤ l.length * 7 - i * 7 := by omega
   have h0 := inst_get0 l i h1
   have h6 : IntKind.i64.wrap ((i : Int) + 1) = i + 1 := wrap_i64 (by omega) (by omega)
   have l0 : i * 7 < l.length * 7 := by omega
   by_cases hk : (nth l i).kind = k
   · have e := inFind_hit h1 hk hi.2
     have jk : ((nth l i).kind == k) = true := by simpa using hk
     rw [e]
     obtain ⟨x, hx⟩ : ∃ x, nth l i = x := ⟨_, rfl⟩
     rw [hx] at h4 h0 jk ⊢
     clear hx hk e hi IH
     simp only [Inst.enc] at h4
     repeat' (first | apply WK.seq | apply WK.block | apply WK.skip | refine WK.cT rfl ?_ | (refine hQ.h _ _ ?_; clear hQ hA) | (refine WK.rH Tryz.ntmps87 (by kernel_rfl) ?_; intro A hA Q hQ; simp [Inst.enc, inst0, wideZ, uZ_, *]) | (refine WK.ret Tryz.func87 ?_ ?_ <;> simp (maxDischargeDepth := 120) [Tryz.results87, Inst.enc, inst0, wideZ, uZ_, *]))
   · have jk : ((nth l i).kind == k) = false := by simpa using hk
     have hj : ∀ j, j < i + 1 → ¬ (nth l j).kind = k := fun j hj => by
       by_cases h7 : j = i
       · subst h7; exact hk
       · exact hi.2 j (by omega)
     obtain ⟨x, hx⟩ : ∃ x, nth l i = x := ⟨_, rfl⟩
     rw [hx] at h4 h0 jk
     clear hx hk hi
     simp only [Inst.enc] at h4
     repeat' (first | apply WK.seq | apply WK.block | apply WK.inBlock | apply WK.skip | refine WK.cT rfl ?_ | refine WK.cF rfl ?_ | (refine hQ.h _ _ ?_; clear hQ hA) | (refine WK.rH Tryz.ntmps87 (by kernel_rfl) ?_; intro A hA Q hQ; simp [Inst.enc, inst0, wideZ, uZ_, *]))
     refine WK.next (fun n => n) (IH (i + 1) (⟨by omega, hj⟩) (by first | omega | (dsimp only; omega))) (by repeat (first | exact TmW.nil | refine TmW.upd ?_ (by simp (maxDischargeDepth := 120) [inst0, Inst.enc, wideZ, uZ_]))) (by repeat (first | exact BxW.nil | refine BxW.upd ?_ (by simp (maxDischargeDepth := 120) [inst0, Inst.enc, wideZ, uZ_]))) InjW.id
 · have e := inFind_miss (k := k) (l := l) (fun j hj => hi.2 j (by omega))
   rw [e]
   clear hi IH e
   repeat' (first | apply WK.seq | refine WK.exit rfl ?_ | refine WK.cF rfl ?_ | (refine hQ.h _ _ ?_; clear hQ hA) | (refine WK.rH Tryz.ntmps87 (by kernel_rfl) ?_; intro A hA Q hQ; simp [inst0, Inst.enc, wideZ, uZ_, *]) | (refine WK.ret Tryz.func87 ?_ ?_ <;> simp (maxDischargeDepth := 120) [Tryz.results87, inst0, Inst.enc, wideZ, uZ_, *]))

theorem inFind_snd (l : List Inst) (k : Int) : (inFind l k).2 = decide (k ∈ inKinds l) := by
 unfold inFind
 cases h : l.find? (fun i => i.kind == k) with
 | none =>
   rw [List.find?_eq_none] at h
   have : k ∉ inKinds l := by
     intro hk
     unfold inKinds at hk
     obtain ⟨x, hx, rfl⟩ := List.mem_map.1 hk
     exact h x hx (by simp)
   simp [this]
 | some i =>
   have hm := List.mem_of_find?_eq_some h
   have hp := List.find?_some h
   have : k ∈ inKinds l := List.mem_map.2 ⟨i, hm, by simpa using hp⟩
   simp [this]
theorem beN_one (t : Int) : beN t 1 = [BitVec.ofInt 8 t] := by simp [beN]
set_option maxHeartbeats 8000000 in
theorem rienc_c (l : List Inst) (hl : l.length ≤ 100) (ha : ∀ x, x ∈ l → x.acts.length ≤ 1000000) : FnT Tryz.prog 55 [instS l] (inEnc l).1.length 1 (byL (inEnc l).1) [.int .i64 (inEnc l).2] := by
 unfold instS
 refine FnT.intro Tryz.func55 rfl rfl fun G w => ?_
 repeat' (first | apply WK.seq | apply WK.block | (refine hQ.h _ _ ?_; clear hQ hA) | (refine WK.rH Tryz.ntmps55 (by kernel_rfl) ?_; intro A hA Q hQ; simp [*]))
 refine WK.ghost (Ghost.own 4 900 1 rfl rfl) ?_
 refine WK.lI (fun n => if n = 1 then 900 else n) (fun i : Nat => (⟨(upd (upd (upd (upd (upd J 0 (.sl false l.length (instL l))) 2 (.sl true 0 [])) 3 (.int .i64 0)) 4 (.msl 1 0 (rwFlat inOne (l.take i)).length)) 5 (.int .i64 i)), (upd B0 1 (.buf 1 (byL (rwFlat inOne (l.take i))))), 0⟩ : St)) (fun i => i ≤ l.length ∧ (∀ j, j < i → inRight (nth l j) = true) ∧ (inKinds (l.take i)).Nodup) (fun i => l.length - i) (0) (by repeat (first | exact TmW.nil | refine TmW.upd ?_ (by simp (maxDischargeDepth := 120) [rwFlat, b0_]))) (by repeat (first | exact BxW.nil | refine BxW.upd ?_ (by simp (maxDischargeDepth := 120) [rwFlat, b0_]))) (by first | exact InjW.id | exact InjW.nil | exact InjW.one | exact InjW.two (by simp) | exact InjW.three (by simp) (by simp) (by simp)) (⟨by omega, by simp, by simp [inKinds]⟩) (fun i hi IH => ?_)
 have hfl := inFlat_len (l.take i)
 have htl : (l.take i).length ≤ 100 := by rw [List.length_take]; omega
 by_cases h1 : i < l.length
 · have h4 := inst_sub l i h1
   have h3 : 7 ≤ l.length * 7 - i * 7 := by omega
   have g0 := inst_get l i 0 h1 (by omega)
   have g1 := inst_get l i 1 h1 (by omega)
   have g6 := inst_get l i 6 h1 (by omega)
   have gv : ((instL l).drop (i * 7 + 2)).take 2 = (nth l i).value.enc := inst_value l i h1
   have gm : ((instL l).drop (i * 7 + 4)).take 2 = (nth l i).mask.enc := inst_mask l i h1
   have l0 : i * 7 < l.length * 7 := by omega
   have l1 : i * 7 + 1 < l.length * 7 := by omega
   have l6 : i * 7 + 6 < l.length * 7 := by omega
   have l2 : 2 ≤ l.length * 7 - (i * 7 + 2) := by omega
   have l4 : 2 ≤ l.length * 7 - (i * 7 + 4) := by omega
   have h6 : IntKind.i64.wrap ((i : Int) + 1) = i + 1 := wrap_i64 (by omega) (by omega)
   have hs := inFlat_succ h1
   have hx := ha _ (nth_mem h1)
   have hrc := riright_c (nth l i) hx
   have hks := inKinds_succ h1
   have hof := riof_c (l.take i) (nth l i).kind (by omega)
   have hfs := inFind_snd (l.take i) (nth l i).kind
   have htk : (instL l).take (i * 7) = instL (l.take i) := by unfold instL; exact fm_take Inst.len l i
   have hll : (l.take i).length = i := by rw [List.length_take]; omega
   have hil : (i : Int) ≤ l.length := by omega
   unfold instS at hof
   rw [hll] at hof
   have htwo : (nth l i).kind ∈ inKinds (l.take i) → inEnc l = ([], 1) := inEnc_two h1
   have hwr : inRight (nth l i) = false → inEnc l = ([], 1) := inEnc_wrong h1
   have hnd := hi.2.2
   have hall := hi.2.1
   have hjr : inRight (nth l i) = true → ∀ j, j < i + 1 → inRight (nth l j) = true := fun hr j hj => by
     by_cases h7 : j = i
     · subst h7; exact hr
     · exact hall j (by omega)
   have hjn : (nth l i).kind ∉ inKinds (l.take i) → (inKinds (l.take (i + 1))).Nodup := fun h0 => by
     rw [hks]; exact nodup_snoc hnd h0
   have hbl := inBody_len (nth l i)
   have hone : inOne (nth l i) = beN (nth l i).kind 2 ++ (beN (4 + (inBody (nth l i)).length : Nat) 2 ++ inBody (nth l i)) := rfl
   have hn2 : numOk ((4 + (inBody (nth l i)).length : Nat) : Int) 2 = true := numOk2 (by omega)
   have p := racencP_c (nth l i).acts hx
   have hEl := acEnc_len (nth l i).acts
   obtain ⟨x, hxx⟩ : ∃ x, nth l i = x := ⟨_, rfl⟩
   simp only [hxx, Inst.enc, List.getElem_cons_zero, List.getElem_cons_succ, Nat.add_zero] at g0 g1 g6
   rw [hxx] at h4 hs hx hrc hof hfs htwo hwr hjr hjn hbl hone hn2 p hEl gv gm
   obtain ⟨y, bo, hyb⟩ : ∃ y bo, inFind (l.take i) x.kind = (y, bo) := ⟨_, _, rfl⟩
   rw [hyb] at hof hfs
   simp only at hof hfs
   obtain ⟨F, hF⟩ : ∃ F, rwFlat inOne (l.take i) = F := ⟨_, rfl⟩
   rw [hF] at hs hfl ⊢
   have hFl : F.length ≤ 700000 := by omega
   obtain ⟨r, hr⟩ : ∃ r, inRight x = r := ⟨_, rfl⟩
   rw [hr] at hrc hwr hjr
   simp only [Inst.enc] at h4 hrc hof
   have hgot := hi
   clear hi hall hnd hks hF hxx hfl htl hyb hll
   cases bo
   case true =>
     have e := htwo (of_decide_eq_true hfs.symm)
     rw [e]
     clear htwo hwr hjr hjn hone hn2 hs p hEl hbl hr hfs
     repeat' (first | apply WK.seq | apply WK.block | apply WK.skip | refine WK.cT rfl ?_ | (refine hQ.h _ _ ?_; clear hQ hA) | (refine WK.rH Tryz.ntmps55 (by kernel_rfl) ?_; intro A hA Q hQ; simp [*]) | (refine WK.rX (by kernel_rfl) Tryz.ntmps55 (by kernel_rfl) ?_; intro A hA Q hQ; simp [*]) | (refine hQ.h _ _ _ (by decide +kernel) ?_; clear hQ hA) | (refine RunQ.gd rfl (by rw [hA.h]; rfl) ?_; simp [*]) | (refine RunX.k rfl rfl rfl rfl ?_ (hof) ?_ ?_ <;> simp (maxDischargeDepth := 120) [*] <;> refine ⟨?_⟩))
     refine WK.ghost (Ghost.own 2 905 1 rfl rfl) ?_
     refine WK.retT2 Tryz.func55 ?_ ?_ ?_ <;> simp (maxDischargeDepth := 120) [Tryz.results55, b0_]
   have hnot := of_decide_eq_false hfs.symm
   cases r
   · have e := hwr rfl
     rw [e]
     clear htwo hwr hjr hjn hone hn2 hs p hEl hbl hr hfs hnot
     repeat' (first | apply WK.seq | apply WK.block | apply WK.skip | refine WK.cT rfl ?_ | (refine hQ.h _ _ ?_; clear hQ hA) | (refine WK.rH Tryz.ntmps55 (by kernel_rfl) ?_; intro A hA Q hQ; simp [*]) | (refine WK.rX (by kernel_rfl) Tryz.ntmps55 (by kernel_rfl) ?_; intro A hA Q hQ; simp [*]) | (refine hQ.h _ _ _ (by decide +kernel) ?_; clear hQ hA) | (refine RunQ.gd rfl (by rw [hA.h]; rfl) ?_; simp [*]) | (refine RunQW.k rfl rfl rfl rfl ?_ (hrc) ?_ ?_ <;> simp (maxDischargeDepth := 120) [*] <;> refine ⟨?_⟩) | (refine RunX.k rfl rfl rfl rfl ?_ (hof) ?_ ?_ <;> simp (maxDischargeDepth := 120) [*] <;> refine ⟨?_⟩))
     refine WK.ghost (Ghost.own 2 905 1 rfl rfl) ?_
     refine WK.retT2 Tryz.func55 ?_ ?_ ?_ <;> simp (maxDischargeDepth := 120) [Tryz.results55, b0_]
   have hK2 := hjn hnot
   have hj2 := hjr rfl
   have hokx := (inRight_facts hr).1
   have hkd : numOk x.kind 2 = true := by
     have := inKind_of hokx
     rw [numOk_iff]; exact ⟨by omega, by show x.kind < 65536; omega⟩
   have c1 := rput_c F x.kind 2 Sz2 (by omega)
   rw [putN_beN hkd] at c1
   obtain ⟨K, hK⟩ : ∃ K, inBody x = K := ⟨_, rfl⟩
   rw [hK] at hbl hone hn2
   obtain ⟨F1, hF1⟩ : ∃ F1, F ++ beN x.kind 2 = F1 := ⟨_, rfl⟩
   rw [hF1] at c1
   have hF1l : F1.length = F.length + 2 := by rw [← hF1, List.length_append, beN_len]
   have c2 := rput_c F1 ((4 + K.length : Nat) : Int) 2 Sz2 (by omega)
   rw [putN_beN hn2] at c2
   obtain ⟨F2, hF2⟩ : ∃ F2, F1 ++ beN ((4 + K.length : Nat) : Int) 2 = F2 := ⟨_, rfl⟩
   rw [hF2] at c2
   have hF2l : F2.length = F.length + 4 := by rw [← hF2, List.length_append, beN_len]; omega
   have hs2 : rwFlat inOne (l.take (i + 1)) = F2 ++ K := by rw [hs, hone, ← hF2, ← hF1]; simp only [List.append_assoc]
   have hs3 : byL F2 ++ byL K = byL (rwFlat inOne (l.take (i + 1))) := by rw [hs2, byL_app]
   have hs4 : (rwFlat inOne (l.take (i + 1))).length = F2.length + K.length := by rw [hs2, List.length_append]
   have w4 : IntKind.i64.wrap (4 + (K.length : Int)) = 4 + (K.length : Int) := wrap_i64 (by omega) (by omega)
   have hbd : F2.length + K.length ≤ 140737488355328 := by omega
   have hfu1 := by_full F F.length rfl
   have hfu2 := by_full F1 F1.length rfl
   have hfu3 := by_full K K.length rfl
   unfold byS at c1 c2
   clear htwo hwr hjr hjn hone hn2 hs hF1 hF2 hF1l hF2l hs2 hkd hfs hnot hr
   obtain ⟨kk, t, v, m, ac⟩ := x
   simp only at *
   rcases inKind_of hokx with k | k | k | k | k <;> (simp only at k; subst k)
   · have ht : numOk t 1 = true := by
       unfold inOk at hokx; simp only at hokx
       rw [numOk_iff]
       have : 0 ≤ t ∧ t < 255 := by simpa using hokx
       exact ⟨this.1, by show t < 256; omega⟩
     have e : inBody ⟨1, t, v, m, ac⟩ = BitVec.ofInt 8 t :: List.replicate 3 0#8 := by unfold inBody; simp only; rw [if_pos (by decide)]
     have c0 := rput_c [] t 1 Sz1 (by simp)
     rw [putN_beN ht, List.nil_append, beN_one] at c0
     have hKl : K.length = 4 := by rw [← hK, e]; rfl
     have hKb : byL K = [.int .u8 (bI (BitVec.ofInt 8 t)), .int .u8 0, .int .u8 0, .int .u8 0] := by rw [← hK, e]; rfl
     have hq2 : byL [BitVec.ofInt 8 t] = [.int .u8 (bI (BitVec.ofInt 8 t))] := rfl
     rw [hq2] at c0
     simp only [byS, b0_, List.length_nil, List.length_cons, Nat.zero_add] at c0
     rw [hKl] at c2 hs4 hbd
     rw [hKb] at hs3
     have w8 : IntKind.i64.wrap 8 = 8 := rfl
     clear w4
     clear p hEl ht e hbl hfu3 hK hKl hKb gv gm g6
     repeat' (first | apply WK.seq | apply WK.block | apply WK.inBlock | apply WK.skip | refine WK.cT rfl ?_ | refine WK.cF rfl ?_ | (refine hQ.h _ _ ?_; clear hQ hA) | (refine WK.rH Tryz.ntmps55 (by kernel_rfl) ?_; intro A hA Q hQ; simp [*]) | (refine WK.rX (by kernel_rfl) Tryz.ntmps55 (by kernel_rfl) ?_; intro A hA Q hQ; simp [*]) | (refine hQ.h _ _ _ (by decide +kernel) ?_; clear hQ hA) | (refine RunQ.gd rfl (by rw [hA.h]; rfl) ?_; simp [*]) | (refine RunQ.callO 901 rfl rfl rfl rfl rfl ?_ (c0) ?_ ?_ ?_ ?_; (focus (simp (maxDischargeDepth := 120) [*]; done)); (focus (simp [*]; done)); (focus (simp [*]; done)); (focus (simp [*]; done)); refine RunQ.e ?_; simp [*]) | (refine RunQ.append 902 appByte rfl rfl rfl rfl rfl rfl rfl rfl rfl ?_ ?_ ?_ ?_ ?_; (focus (first | omega | (simp [*]; done); done)); (focus (first | omega | (simp [*]; done); done)); (focus (first | omega | (simp [*]; done); done)); (focus (first | omega | (simp [*]; done); done)); refine RunQ.e ?_; simp [*]) | (refine RunQ.callOz 903 85 1 rfl rfl rfl rfl rfl rfl rfl ?_ (c1) ?_ ?_ (by simp) (by decide) ?_; (focus (simp (maxDischargeDepth := 120) [*]; done)); (focus (simp [*]; done)); (focus (simp [*]; done)); refine RunQ.e ?_; simp [*]) | (refine RunQ.callOz 904 91 1 rfl rfl rfl rfl rfl rfl rfl ?_ (c2) ?_ ?_ (by simp) (by decide) ?_; (focus (simp (maxDischargeDepth := 120) [*]; done)); (focus (simp [*]; done)); (focus (simp [*]; done)); refine RunQ.e ?_; simp [*]) | (refine RunQ.appendFz 906 appByte rfl rfl rfl rfl rfl rfl rfl rfl rfl rfl ?_ ?_ ?_ ?_ ?_ ?_; (focus (first | omega | (simp [*]; done); done)); (focus (first | omega | (simp [*]; done); done)); (focus (first | omega | (simp [*]; done); done)); (focus (simp [*]; done)); (focus (simp [*]; done)); refine RunQ.e ?_; simp [*]) | (refine RunQW.k rfl rfl rfl rfl ?_ (hrc) ?_ ?_ <;> simp (maxDischargeDepth := 120) [*] <;> refine ⟨?_⟩) | (refine RunX.k rfl rfl rfl rfl ?_ (hof) ?_ ?_ <;> simp (maxDischargeDepth := 120) [*] <;> refine ⟨?_⟩))
     refine WK.next (fun n => if n = 1 then 906 else n) (IH (i + 1) (⟨by omega, hj2, hK2⟩) (by first | omega | (dsimp only; omega))) (by repeat (first | exact TmW.nil | refine TmW.upd ?_ (by simp (maxDischargeDepth := 120) [hs3, hs4]))) (by repeat (first | exact BxW.nil | refine BxW.upd ?_ (by simp (maxDischargeDepth := 120) [hs3, hs4]))) (by first | exact InjW.id | exact InjW.nil | exact InjW.one | exact InjW.two (by simp) | exact InjW.three (by simp) (by simp) (by simp))
   · have e : inBody ⟨2, t, v, m, ac⟩ = List.replicate 4 0#8 ++ (beN (wN v) 8 ++ beN (wN m) 8) := by unfold inBody; simp only; rw [if_neg (by decide), if_pos (by decide)]
     have d1 := rwput_c (List.replicate 4 0#8) v 8 (by omega) (by simp)
     rw [wPut_beN _ _ _ (by omega)] at d1
     have d2 := rwput_c (List.replicate 4 0#8 ++ beN (wN v) 8) m 8 (by omega) (by simp [beN_len])
     rw [wPut_beN _ _ _ (by omega), List.append_assoc, ← e, hK] at d2
     have hz : (List.replicate 4 0#8).length = 4 := rfl
     have hll : (List.replicate 4 0#8 ++ beN (wN v) 8).length = 12 := by simp [beN_len]
     obtain ⟨Z1, hZ1⟩ : ∃ F, List.replicate 4 0#8 ++ beN (wN v) 8 = F := ⟨_, rfl⟩
     rw [hZ1] at d1 d2 hll
     have hfu : (byL Z1).take 12 = byL Z1 := by_full _ _ hll.symm
     unfold byS at d1 d2
     rw [hll] at d1 d2
     rw [hz, z4L] at d1
     unfold Wide.enc at d1 d2 gv gm
     clear p hEl e hbl hZ1 hK g1 g6
     repeat' (first | apply WK.seq | apply WK.block | apply WK.inBlock | apply WK.skip | refine WK.cT rfl ?_ | refine WK.cF rfl ?_ | (refine hQ.h _ _ ?_; clear hQ hA) | (refine WK.rH Tryz.ntmps55 (by kernel_rfl) ?_; intro A hA Q hQ; simp [*]) | (refine WK.rX (by kernel_rfl) Tryz.ntmps55 (by kernel_rfl) ?_; intro A hA Q hQ; simp [*]) | (refine hQ.h _ _ _ (by decide +kernel) ?_; clear hQ hA) | (refine RunQ.gd rfl (by rw [hA.h]; rfl) ?_; simp [*]) | (refine RunX.callO 901 rfl rfl rfl rfl ?_ (d1) ?_ ?_ ?_ ?_; (focus (simp (maxDischargeDepth := 120) [*]; done)); (focus (simp [*]; done)); (focus (simp [*]; done)); (focus (simp [*]; done)); refine RunX.e ?_; simp [*]) | (refine RunX.callOz 902 63 1 rfl rfl rfl rfl rfl rfl ?_ (d2) ?_ ?_ (by simp) (by decide) ?_; (focus (simp (maxDischargeDepth := 120) [*]; done)); (focus (simp [*]; done)); (focus (simp [*]; done)); refine RunX.e ?_; simp [*]) | (refine RunQ.callOz 903 85 1 rfl rfl rfl rfl rfl rfl rfl ?_ (c1) ?_ ?_ (by simp) (by decide) ?_; (focus (simp (maxDischargeDepth := 120) [*]; done)); (focus (simp [*]; done)); (focus (simp [*]; done)); refine RunQ.e ?_; simp [*]) | (refine RunQ.callOz 904 91 1 rfl rfl rfl rfl rfl rfl rfl ?_ (c2) ?_ ?_ (by simp) (by decide) ?_; (focus (simp (maxDischargeDepth := 120) [*]; done)); (focus (simp [*]; done)); (focus (simp [*]; done)); refine RunQ.e ?_; simp [*]) | (refine RunQ.appendFz 906 appByte rfl rfl rfl rfl rfl rfl rfl rfl rfl rfl ?_ ?_ ?_ ?_ ?_ ?_; (focus (first | omega | (simp [*]; done); done)); (focus (first | omega | (simp [*]; done); done)); (focus (first | omega | (simp [*]; done); done)); (focus (simp [*]; done)); (focus (simp [*]; done)); refine RunQ.e ?_; simp [*]) | (refine RunQW.k rfl rfl rfl rfl ?_ (hrc) ?_ ?_ <;> simp (maxDischargeDepth := 120) [*] <;> refine ⟨?_⟩) | (refine RunX.k rfl rfl rfl rfl ?_ (hof) ?_ ?_ <;> simp (maxDischargeDepth := 120) [*] <;> refine ⟨?_⟩))
     refine WK.next (fun n => if n = 1 then 906 else n) (IH (i + 1) (⟨by omega, hj2, hK2⟩) (by first | omega | (dsimp only; omega))) (by repeat (first | exact TmW.nil | refine TmW.upd ?_ (by simp (maxDischargeDepth := 120) [hs3, hs4]))) (by repeat (first | exact BxW.nil | refine BxW.upd ?_ (by simp (maxDischargeDepth := 120) [hs3, hs4]))) (by first | exact InjW.id | exact InjW.nil | exact InjW.one | exact InjW.two (by simp) | exact InjW.three (by simp) (by simp) (by simp))
   · have e : inBody ⟨3, t, v, m, ac⟩ = List.replicate 4 0#8 ++ (acEnc ac).1 := by unfold inBody; simp only; rw [if_neg (by decide), if_neg (by decide), if_pos (by decide)]
     obtain ⟨R, hR⟩ : ∃ R, acEnc ac = R := ⟨_, rfl⟩
     rw [hR] at e p hEl
     obtain ⟨E, ec⟩ := R
     simp only at e p hEl
     simp only [byS, actS] at p
     by_cases hE0 : E = []
     · subst hE0
       have hKl : K.length = 4 := by rw [← hK, e]; rfl
       have hKb : byL K = [.int .u8 0, .int .u8 0, .int .u8 0, .int .u8 0] := by rw [← hK, e]; rfl
       rw [hKl] at c2 hs4 hbd
       rw [hKb] at hs3
       have w8 : IntKind.i64.wrap 8 = 8 := rfl
       simp only [List.length_nil, b0_] at p
       clear e hbl hfu3 hK hKl hKb hR gv gm w4 g1
       repeat' (first | apply WK.seq | apply WK.block | apply WK.inBlock | apply WK.skip | refine WK.cT rfl ?_ | refine WK.cF rfl ?_ | (refine hQ.h _ _ ?_; clear hQ hA) | (refine WK.rH Tryz.ntmps55 (by kernel_rfl) ?_; intro A hA Q hQ; simp [*]) | (refine WK.rX (by kernel_rfl) Tryz.ntmps55 (by kernel_rfl) ?_; intro A hA Q hQ; simp [*]) | (refine hQ.h _ _ _ (by decide +kernel) ?_; clear hQ hA) | (refine RunQ.gd rfl (by rw [hA.h]; rfl) ?_; simp [*]) | (refine RunQ.appendN appByte rfl rfl rfl rfl rfl rfl rfl rfl ?_; refine RunQ.e ?_; simp [*]) | (refine RunQ.callOz 903 85 1 rfl rfl rfl rfl rfl rfl rfl ?_ (c1) ?_ ?_ (by simp) (by decide) ?_; (focus (simp (maxDischargeDepth := 120) [*]; done)); (focus (simp [*]; done)); (focus (simp [*]; done)); refine RunQ.e ?_; simp [*]) | (refine RunQ.callOz 904 91 1 rfl rfl rfl rfl rfl rfl rfl ?_ (c2) ?_ ?_ (by simp) (by decide) ?_; (focus (simp (maxDischargeDepth := 120) [*]; done)); (focus (simp [*]; done)); (focus (simp [*]; done)); refine RunQ.e ?_; simp [*]) | (refine RunQ.append 906 appByte rfl rfl rfl rfl rfl rfl rfl rfl rfl ?_ ?_ ?_ ?_ ?_; (focus (first | omega | (simp [*]; done); done)); (focus (first | omega | (simp [*]; done); done)); (focus (first | omega | (simp [*]; done); done)); (focus (first | omega | (simp [*]; done); done)); refine RunQ.e ?_; simp [*]) | (refine RunQ.k rfl rfl rfl rfl rfl ?_ (p) ?_ ?_ <;> simp (maxDischargeDepth := 120) [*] <;> refine ⟨?_⟩) | (refine RunQW.k rfl rfl rfl rfl ?_ (hrc) ?_ ?_ <;> simp (maxDischargeDepth := 120) [*] <;> refine ⟨?_⟩) | (refine RunX.k rfl rfl rfl rfl ?_ (hof) ?_ ?_ <;> simp (maxDischargeDepth := 120) [*] <;> refine ⟨?_⟩))
       refine WK.next (fun n => if n = 1 then 906 else n) (IH (i + 1) (⟨by omega, hj2, hK2⟩) (by first | omega | (dsimp only; omega))) (by repeat (first | exact TmW.nil | refine TmW.upd ?_ (by simp (maxDischargeDepth := 120) [hs3, hs4]))) (by repeat (first | exact BxW.nil | refine BxW.upd ?_ (by simp (maxDischargeDepth := 120) [hs3, hs4]))) (by first | exact InjW.id | exact InjW.nil | exact InjW.one | exact InjW.two (by simp) | exact InjW.three (by simp) (by simp) (by simp))
     · have hE0 : 0 < E.length := List.length_pos_iff.2 hE0
       have hKl : K.length = 4 + E.length := by rw [← hK, e, List.length_append]; rfl
       have hKb : byL K = .int .u8 0 :: .int .u8 0 :: .int .u8 0 :: .int .u8 0 :: byL E := by rw [← hK, e, byL_app, z4L]; rfl
       have hfe := by_full E E.length rfl
       rw [hKl] at c2 hs4 hbd
       have w8 : IntKind.i64.wrap (4 + (4 + (E.length : Int))) = 4 + (4 + (E.length : Int)) := wrap_i64 (by omega) (by omega)
       clear w4
       rw [hKb] at hs3
       have hbe : 4 + E.length ≤ 140737488355328 := by omega
       have hcomm : E.length + 4 = 4 + E.length := Nat.add_comm _ _
       clear e hbl hfu3 hK hKl hKb hR gv gm g1
       repeat' (first | apply WK.seq | apply WK.block | apply WK.inBlock | apply WK.skip | refine WK.cT rfl ?_ | refine WK.cF rfl ?_ | (refine hQ.h _ _ ?_; clear hQ hA) | (refine WK.rH Tryz.ntmps55 (by kernel_rfl) ?_; intro A hA Q hQ; simp [*]) | (refine WK.rX (by kernel_rfl) Tryz.ntmps55 (by kernel_rfl) ?_; intro A hA Q hQ; simp [*]) | (refine hQ.h _ _ _ (by decide +kernel) ?_; clear hQ hA) | (refine RunQ.gd rfl (by rw [hA.h]; rfl) ?_; simp [*]) | (refine RunQ.appendF 901 appByte rfl rfl rfl rfl rfl rfl rfl rfl ?_ ?_ ?_ ?_ ?_ ?_ ?_; (focus (first | omega | (simp [*]; done); done)); (focus (first | omega | (simp [*]; done); done)); (focus (first | omega | (simp [*]; done); done)); (focus (first | omega | (simp [*]; done); done)); (focus (first | omega | (simp [*]; done); done)); (focus (simp [*]; done)); refine RunQ.e ?_; simp [*]) | (refine RunQ.callOz 903 85 1 rfl rfl rfl rfl rfl rfl rfl ?_ (c1) ?_ ?_ (by simp) (by decide) ?_; (focus (simp (maxDischargeDepth := 120) [*]; done)); (focus (simp [*]; done)); (focus (simp [*]; done)); refine RunQ.e ?_; simp [*]) | (refine RunQ.callOz 904 91 1 rfl rfl rfl rfl rfl rfl rfl ?_ (c2) ?_ ?_ (by simp) (by decide) ?_; (focus (simp (maxDischargeDepth := 120) [*]; done)); (focus (simp [*]; done)); (focus (simp [*]; done)); refine RunQ.e ?_; simp [*]) | (refine RunQ.appendFz 906 appByte rfl rfl rfl rfl rfl rfl rfl rfl rfl rfl ?_ ?_ ?_ ?_ ?_ ?_; (focus (first | omega | (simp [*]; done); done)); (focus (first | omega | (simp [*]; done); done)); (focus (first | omega | (simp [*]; done); done)); (focus (simp [*]; done)); (focus (simp [*]; done)); refine RunQ.e ?_; simp [*]) | (refine RunQ.k rfl rfl rfl rfl rfl ?_ (p) ?_ ?_ <;> simp (maxDischargeDepth := 120) [*] <;> refine ⟨?_⟩) | (refine RunQW.k rfl rfl rfl rfl ?_ (hrc) ?_ ?_ <;> simp (maxDischargeDepth := 120) [*] <;> refine ⟨?_⟩) | (refine RunX.k rfl rfl rfl rfl ?_ (hof) ?_ ?_ <;> simp (maxDischargeDepth := 120) [*] <;> refine ⟨?_⟩))
       refine WK.next (fun n => if n = 1 then 906 else n) (IH (i + 1) (⟨by omega, hj2, hK2⟩) (by first | omega | (dsimp only; omega))) (by repeat (first | exact TmW.nil | refine TmW.upd ?_ (by simp (maxDischargeDepth := 120) [hs3, hs4]))) (by repeat (first | exact BxW.nil | refine BxW.upd ?_ (by simp (maxDischargeDepth := 120) [hs3, hs4]))) (by first | exact InjW.id | exact InjW.nil | exact InjW.one | exact InjW.two (by simp) | exact InjW.three (by simp) (by simp) (by simp))
   · have e : inBody ⟨4, t, v, m, ac⟩ = List.replicate 4 0#8 ++ (acEnc ac).1 := by unfold inBody; simp only; rw [if_neg (by decide), if_neg (by decide), if_pos (by decide)]
     obtain ⟨R, hR⟩ : ∃ R, acEnc ac = R := ⟨_, rfl⟩
     rw [hR] at e p hEl
     obtain ⟨E, ec⟩ := R
     simp only at e p hEl
     simp only [byS, actS] at p
     by_cases hE0 : E = []
     · subst hE0
       have hKl : K.length = 4 := by rw [← hK, e]; rfl
       have hKb : byL K = [.int .u8 0, .int .u8 0, .int .u8 0, .int .u8 0] := by rw [← hK, e]; rfl
       rw [hKl] at c2 hs4 hbd
       rw [hKb] at hs3
       have w8 : IntKind.i64.wrap 8 = 8 := rfl
       simp only [List.length_nil, b0_] at p
       clear e hbl hfu3 hK hKl hKb hR gv gm w4 g1
       repeat' (first | apply WK.seq | apply WK.block | apply WK.inBlock | apply WK.skip | refine WK.cT rfl ?_ | refine WK.cF rfl ?_ | (refine hQ.h _ _ ?_; clear hQ hA) | (refine WK.rH Tryz.ntmps55 (by kernel_rfl) ?_; intro A hA Q hQ; simp [*]) | (refine WK.rX (by kernel_rfl) Tryz.ntmps55 (by kernel_rfl) ?_; intro A hA Q hQ; simp [*]) | (refine hQ.h _ _ _ (by decide +kernel) ?_; clear hQ hA) | (refine RunQ.gd rfl (by rw [hA.h]; rfl) ?_; simp [*]) | (refine RunQ.appendN appByte rfl rfl rfl rfl rfl rfl rfl rfl ?_; refine RunQ.e ?_; simp [*]) | (refine RunQ.callOz 903 85 1 rfl rfl rfl rfl rfl rfl rfl ?_ (c1) ?_ ?_ (by simp) (by decide) ?_; (focus (simp (maxDischargeDepth := 120) [*]; done)); (focus (simp [*]; done)); (focus (simp [*]; done)); refine RunQ.e ?_; simp [*]) | (refine RunQ.callOz 904 91 1 rfl rfl rfl rfl rfl rfl rfl ?_ (c2) ?_ ?_ (by simp) (by decide) ?_; (focus (simp (maxDischargeDepth := 120) [*]; done)); (focus (simp [*]; done)); (focus (simp [*]; done)); refine RunQ.e ?_; simp [*]) | (refine RunQ.append 906 appByte rfl rfl rfl rfl rfl rfl rfl rfl rfl ?_ ?_ ?_ ?_ ?_; (focus (first | omega | (simp [*]; done); done)); (focus (first | omega | (simp [*]; done); done)); (focus (first | omega | (simp [*]; done); done)); (focus (first | omega | (simp [*]; done); done)); refine RunQ.e ?_; simp [*]) | (refine RunQ.k rfl rfl rfl rfl rfl ?_ (p) ?_ ?_ <;> simp (maxDischargeDepth := 120) [*] <;> refine ⟨?_⟩) | (refine RunQW.k rfl rfl rfl rfl ?_ (hrc) ?_ ?_ <;> simp (maxDischargeDepth := 120) [*] <;> refine ⟨?_⟩) | (refine RunX.k rfl rfl rfl rfl ?_ (hof) ?_ ?_ <;> simp (maxDischargeDepth := 120) [*] <;> refine ⟨?_⟩))
       refine WK.next (fun n => if n = 1 then 906 else n) (IH (i + 1) (⟨by omega, hj2, hK2⟩) (by first | omega | (dsimp only; omega))) (by repeat (first | exact TmW.nil | refine TmW.upd ?_ (by simp (maxDischargeDepth := 120) [hs3, hs4]))) (by repeat (first | exact BxW.nil | refine BxW.upd ?_ (by simp (maxDischargeDepth := 120) [hs3, hs4]))) (by first | exact InjW.id | exact InjW.nil | exact InjW.one | exact InjW.two (by simp) | exact InjW.three (by simp) (by simp) (by simp))
     · have hE0 : 0 < E.length := List.length_pos_iff.2 hE0
       have hKl : K.length = 4 + E.length := by rw [← hK, e, List.length_append]; rfl
       have hKb : byL K = .int .u8 0 :: .int .u8 0 :: .int .u8 0 :: .int .u8 0 :: byL E := by rw [← hK, e, byL_app, z4L]; rfl
       have hfe := by_full E E.length rfl
       rw [hKl] at c2 hs4 hbd
       have w8 : IntKind.i64.wrap (4 + (4 + (E.length : Int))) = 4 + (4 + (E.length : Int)) := wrap_i64 (by omega) (by omega)
       clear w4
       rw [hKb] at hs3
       have hbe : 4 + E.length ≤ 140737488355328 := by omega
       have hcomm : E.length + 4 = 4 + E.length := Nat.add_comm _ _
       clear e hbl hfu3 hK hKl hKb hR gv gm g1
       repeat' (first | apply WK.seq | apply WK.block | apply WK.inBlock | apply WK.skip | refine WK.cT rfl ?_ | refine WK.cF rfl ?_ | (refine hQ.h _ _ ?_; clear hQ hA) | (refine WK.rH Tryz.ntmps55 (by kernel_rfl) ?_; intro A hA Q hQ; simp [*]) | (refine WK.rX (by kernel_rfl) Tryz.ntmps55 (by kernel_rfl) ?_; intro A hA Q hQ; simp [*]) | (refine hQ.h _ _ _ (by decide +kernel) ?_; clear hQ hA) | (refine RunQ.gd rfl (by rw [hA.h]; rfl) ?_; simp [*]) | (refine RunQ.appendF 901 appByte rfl rfl rfl rfl rfl rfl rfl rfl ?_ ?_ ?_ ?_ ?_ ?_ ?_; (focus (first | omega | (simp [*]; done); done)); (focus (first | omega | (simp [*]; done); done)); (focus (first | omega | (simp [*]; done); done)); (focus (first | omega | (simp [*]; done); done)); (focus (first | omega | (simp [*]; done); done)); (focus (simp [*]; done)); refine RunQ.e ?_; simp [*]) | (refine RunQ.callOz 903 85 1 rfl rfl rfl rfl rfl rfl rfl ?_ (c1) ?_ ?_ (by simp) (by decide) ?_; (focus (simp (maxDischargeDepth := 120) [*]; done)); (focus (simp [*]; done)); (focus (simp [*]; done)); refine RunQ.e ?_; simp [*]) | (refine RunQ.callOz 904 91 1 rfl rfl rfl rfl rfl rfl rfl ?_ (c2) ?_ ?_ (by simp) (by decide) ?_; (focus (simp (maxDischargeDepth := 120) [*]; done)); (focus (simp [*]; done)); (focus (simp [*]; done)); refine RunQ.e ?_; simp [*]) | (refine RunQ.appendFz 906 appByte rfl rfl rfl rfl rfl rfl rfl rfl rfl rfl ?_ ?_ ?_ ?_ ?_ ?_; (focus (first | omega | (simp [*]; done); done)); (focus (first | omega | (simp [*]; done); done)); (focus (first | omega | (simp [*]; done); done)); (focus (simp [*]; done)); (focus (simp [*]; done)); refine RunQ.e ?_; simp [*]) | (refine RunQ.k rfl rfl rfl rfl rfl ?_ (p) ?_ ?_ <;> simp (maxDischargeDepth := 120) [*] <;> refine ⟨?_⟩) | (refine RunQW.k rfl rfl rfl rfl ?_ (hrc) ?_ ?_ <;> simp (maxDischargeDepth := 120) [*] <;> refine ⟨?_⟩) | (refine RunX.k rfl rfl rfl rfl ?_ (hof) ?_ ?_ <;> simp (maxDischargeDepth := 120) [*] <;> refine ⟨?_⟩))
       refine WK.next (fun n => if n = 1 then 906 else n) (IH (i + 1) (⟨by omega, hj2, hK2⟩) (by first | omega | (dsimp only; omega))) (by repeat (first | exact TmW.nil | refine TmW.upd ?_ (by simp (maxDischargeDepth := 120) [hs3, hs4]))) (by repeat (first | exact BxW.nil | refine BxW.upd ?_ (by simp (maxDischargeDepth := 120) [hs3, hs4]))) (by first | exact InjW.id | exact InjW.nil | exact InjW.one | exact InjW.two (by simp) | exact InjW.three (by simp) (by simp) (by simp))
   · have e : inBody ⟨5, t, v, m, ac⟩ = List.replicate 4 0#8 := by unfold inBody; simp only; rw [if_neg (by decide), if_neg (by decide), if_neg (by decide)]
     have hKl : K.length = 4 := by rw [← hK, e]; rfl
     have hKb : byL K = [.int .u8 0, .int .u8 0, .int .u8 0, .int .u8 0] := by rw [← hK, e]; rfl
     rw [hKl] at c2 hs4 hbd
     rw [hKb] at hs3
     have w8 : IntKind.i64.wrap 8 = 8 := rfl
     clear e hbl hfu3 hK hKl hKb gv gm w4 g1 g6 p hEl
     repeat' (first | apply WK.seq | apply WK.block | apply WK.inBlock | apply WK.skip | refine WK.cT rfl ?_ | refine WK.cF rfl ?_ | (refine hQ.h _ _ ?_; clear hQ hA) | (refine WK.rH Tryz.ntmps55 (by kernel_rfl) ?_; intro A hA Q hQ; simp [*]) | (refine WK.rX (by kernel_rfl) Tryz.ntmps55 (by kernel_rfl) ?_; intro A hA Q hQ; simp [*]) | (refine hQ.h _ _ _ (by decide +kernel) ?_; clear hQ hA) | (refine RunQ.gd rfl (by rw [hA.h]; rfl) ?_; simp [*]) | (refine RunQ.callOz 903 85 1 rfl rfl rfl rfl rfl rfl rfl ?_ (c1) ?_ ?_ (by simp) (by decide) ?_; (focus (simp (maxDischargeDepth := 120) [*]; done)); (focus (simp [*]; done)); (focus (simp [*]; done)); refine RunQ.e ?_; simp [*]) | (refine RunQ.callOz 904 91 1 rfl rfl rfl rfl rfl rfl rfl ?_ (c2) ?_ ?_ (by simp) (by decide) ?_; (focus (simp (maxDischargeDepth := 120) [*]; done)); (focus (simp [*]; done)); (focus (simp [*]; done)); refine RunQ.e ?_; simp [*]) | (refine RunQ.append 906 appByte rfl rfl rfl rfl rfl rfl rfl rfl rfl ?_ ?_ ?_ ?_ ?_; (focus (first | omega | (simp [*]; done); done)); (focus (first | omega | (simp [*]; done); done)); (focus (first | omega | (simp [*]; done); done)); (focus (first | omega | (simp [*]; done); done)); refine RunQ.e ?_; simp [*]) | (refine RunQW.k rfl rfl rfl rfl ?_ (hrc) ?_ ?_ <;> simp (maxDischargeDepth := 120) [*] <;> refine ⟨?_⟩) | (refine RunX.k rfl rfl rfl rfl ?_ (hof) ?_ ?_ <;> simp (maxDischargeDepth := 120) [*] <;> refine ⟨?_⟩))
     refine WK.next (fun n => if n = 1 then 906 else n) (IH (i + 1) (⟨by omega, hj2, hK2⟩) (by first | omega | (dsimp only; omega))) (by repeat (first | exact TmW.nil | refine TmW.upd ?_ (by simp (maxDischargeDepth := 120) [hs3, hs4]))) (by repeat (first | exact BxW.nil | refine BxW.upd ?_ (by simp (maxDischargeDepth := 120) [hs3, hs4]))) (by first | exact InjW.id | exact InjW.nil | exact InjW.one | exact InjW.two (by simp) | exact InjW.three (by simp) (by simp) (by simp))
 · have hT : l.take i = l := List.take_of_length_le (by omega)
   have hfit : inFit l = true := inFit_of (fun j hj => hi.2.1 j (by omega)) (by have := hi.2.2; rwa [hT] at this)
   have hdef : inEnc l = if (rwFlat inOne l).length ≤ 60000 then (rwFlat inOne l, 0) else ([], 1) := by
     unfold inEnc
     by_cases hh : (rwFlat inOne l).length ≤ 60000
     · rw [if_pos hh, if_pos ⟨hfit, hh⟩]
     · rw [if_neg hh, if_neg fun h => hh h.2]
   rw [hT] at hfl ⊢
   obtain ⟨F, hF⟩ : ∃ F, rwFlat inOne l = F := ⟨_, rfl⟩
   rw [hF] at hdef hfl ⊢
   by_cases h6 : F.length ≤ 60000
   · have j6 : ¬ (60000 : Int) < F.length := by omega
     rw [if_pos h6] at hdef
     rw [hdef]
     clear hF hdef hi hfit
     repeat' (first | apply WK.seq | apply WK.skip | refine WK.exit rfl ?_ | refine WK.cF rfl ?_ | (refine hQ.h _ _ ?_; clear hQ hA) | (refine WK.rH Tryz.ntmps55 (by kernel_rfl) ?_; intro A hA Q hQ; simp [*]) | (refine WK.retT2 Tryz.func55 ?_ ?_ ?_ <;> simp (maxDischargeDepth := 120) [Tryz.results55, *]))
   · have j6 : (60000 : Int) < F.length := by omega
     rw [if_neg h6] at hdef
     rw [hdef]
     clear hF hdef hi hfit
     repeat' (first | apply WK.seq | refine WK.exit rfl ?_ | refine WK.cT rfl ?_ | refine WK.cF rfl ?_ | (refine hQ.h _ _ ?_; clear hQ hA) | (refine WK.rH Tryz.ntmps55 (by kernel_rfl) ?_; intro A hA Q hQ; simp [*]))
     refine WK.ghost (Ghost.own 2 907 1 rfl rfl) ?_
     refine WK.retT2 Tryz.func55 ?_ ?_ ?_ <;> simp (maxDischargeDepth := 120) [Tryz.results55, b0_]

theorem riencP_c (l : List Inst) (hl : l.length ≤ 100) (ha : ∀ x, x ∈ l → x.acts.length ≤ 1000000) : FnP Tryz.prog 55 [instS l] (.tup [byS (inEnc l).1, .int .i64 (inEnc l).2]) := by
 have h := (rienc_c l hl ha).toP (by simp [byL_take]) (by rfl)
 rwa [Nat.mul_one, by_full _ _ rfl] at h
theorem inDec_small {b : List (BitVec 8)} {l : List Inst} {c : Option (Int × Int)} (h : inDec b = (l, c)) : l.length * 8 ≤ b.length ∧ ∀ x, x ∈ l → x.acts.length * 8 ≤ b.length := by
 cases c with
 | some c => rw [inDec_bad h]; simp
 | none =>
   have d := inDec_done h
   exact ⟨d.small, fun x hx => (d.right x hx).2⟩

theorem mencP_c (l : List Oxm) (hl : l.length ≤ 10000) : FnP Tryz.prog 236 [oxmS l] (.tup [byS (mEnc l).1, .int .i64 (mEnc l).2]) := by
 have h := (menc_c l hl).toP (by simp [byL_take]) (by rfl)
 rwa [Nat.mul_one, by_full _ _ rfl] at h
theorem rmencP_c (l : List Oxm) (hl : l.length ≤ 10000) : FnP Tryz.prog 54 [oxmS l] (.tup [byS (mEnc l).1, .int .i64 (mEnc l).2]) := by
 have h := (rmenc_c l hl).toP (by simp [byL_take]) (by rfl)
 rwa [Nat.mul_one, by_full _ _ rfl] at h
structure FmB (m : FlowMod) : Prop where
 mat : m.mat.length ≤ 10000
 insts : m.insts.length ≤ 100
 acts : ∀ x, x ∈ m.insts → x.acts.length ≤ 1000000
def fmSizesI : List Int := [1, 1, 2, 2, 2, 4, 4, 4, 2]
theorem fsizes_c : FnP Tryz.prog 103 [] (.agg (intL fmSizesI)) := by
 refine FnP.intro Tryz.func103 rfl rfl fun G w => ?_
 repeat' (first | apply WK.seq | (refine hQ.h _ _ ?_; clear hQ hA) | (refine WK.rH Tryz.ntmps103 (by kernel_rfl) ?_; intro A hA Q hQ; simp [*]) | (refine WK.ret Tryz.func103 ?_ ?_ <;> simp (maxDischargeDepth := 120) [Tryz.results103, fmSizesI, intL, *]))
theorem fnumbers_c (m : FlowMod) : FnP Tryz.prog 59 [.iptr m.enc] (.agg (intL (fmNums m))) := by
 unfold FlowMod.enc
 refine FnP.intro Tryz.func59 rfl rfl fun G w => ?_
 repeat' (first | apply WK.seq | (refine hQ.h _ _ ?_; clear hQ hA) | (refine WK.rH Tryz.ntmps59 (by kernel_rfl) ?_; intro A hA Q hQ; simp [*]) | (refine WK.rX (by kernel_rfl) Tryz.ntmps59 (by kernel_rfl) ?_; intro A hA Q hQ; simp [*]) | (refine hQ.h _ _ _ (by decide +kernel) ?_; clear hQ hA) | (refine WK.ret Tryz.func59 ?_ ?_ <;> simp (maxDischargeDepth := 120) [Tryz.results59, fmNums, intL, *]))
theorem fmakes_c (m : FlowMod) : FnP Tryz.prog 138 [.iptr m.enc] (.bool (decide (0 ≤ m.command) && decide (m.command ≤ 2))) := by
 unfold FlowMod.enc
 by_cases h1 : 0 ≤ m.command
 · refine FnP.intro Tryz.func138 rfl rfl fun G w => ?_
   repeat' (first | apply WK.seq | (refine hQ.h _ _ ?_; clear hQ hA) | (refine WK.rH Tryz.ntmps138 (by kernel_rfl) ?_; intro A hA Q hQ; simp [*]) | (refine RunQ.gd rfl (by rw [hA.h]; rfl) ?_; simp [*]) | (refine WK.ret Tryz.func138 ?_ ?_ <;> simp (maxDischargeDepth := 120) [Tryz.results138, *]))
 · refine FnP.intro Tryz.func138 rfl rfl fun G w => ?_
   repeat' (first | apply WK.seq | (refine hQ.h _ _ ?_; clear hQ hA) | (refine WK.rH Tryz.ntmps138 (by kernel_rfl) ?_; intro A hA Q hQ; simp [*]) | (refine RunQ.gd rfl (by rw [hA.h]; rfl) ?_; simp [*]) | (refine WK.ret Tryz.func138 ?_ ?_ <;> simp (maxDischargeDepth := 120) [Tryz.results138, *]))
def actOff (mat : List Oxm) (a : Action) : Bool := a.kind == 25 && !mMet mat a.oxm.field
theorem fmeets_c (m : FlowMod) (l : List Action) (hl : l.length ≤ 1000000) (hm : m.mat.length ≤ 1000000) : FnP Tryz.prog 139 [.iptr m.enc, actS l] (.bool (!l.any (actOff m.mat))) := by
 have mc : ∀ f, FnP Tryz.prog 164 [oxmS m.mat, .int .i64 f] (.bool (mMet m.mat f)) := fun f => met_c m.mat f hm
 unfold actS FlowMod.enc
 refine FnP.intro Tryz.func139 rfl rfl fun G w => ?_
 repeat' (first | apply WK.seq | apply WK.block | (refine hQ.h _ _ ?_; clear hQ hA) | (refine WK.rH Tryz.ntmps139 (by kernel_rfl) ?_; intro A hA Q hQ; simp [*]))
 refine WK.lI (fun n => n) (fun i : Nat => (⟨(upd (upd (upd (upd J 0 (.iptr m.enc)) 7 (.sl false l.length (actL l))) 8 (.int .i64 l.length)) 9 (.int .i64 i)), B0, 0⟩ : St)) (fun i => i ≤ l.length ∧ ∀ j, j < i → actOff m.mat (nth l j) = false) (fun i => l.length - i) (0) (by repeat (first | exact TmW.nil | refine TmW.upd ?_ (by simp (maxDischargeDepth := 120) [FlowMod.enc]))) (by repeat (first | exact BxW.nil | refine BxW.upd ?_ (by simp (maxDischargeDepth := 120) [FlowMod.enc]))) InjW.id (⟨by omega, by simp⟩) (fun i hi IH => ?_)
 by_cases h1 : i < l.length
 · obtain ⟨h4, h3⟩ := act_load l i h1
   have h6 : IntKind.i64.wrap ((i : Int) + 1) = i + 1 := wrap_i64 (by omega) (by omega)
   have c := mc (nth l i).oxm.field
   have hF : actOff m.mat (nth l i) = true → l.any (actOff m.mat) = true := fun h => any_true' h1 h
   have hN : actOff m.mat (nth l i) = false → ∀ j, j < i + 1 → actOff m.mat (nth l j) = false := fun h j hj => by
     by_cases h7 : j = i
     · subst h7; exact h
     · exact hi.2 j (by omega)
   obtain ⟨a, ha⟩ : ∃ a, nth l i = a := ⟨_, rfl⟩
   rw [ha] at h4 c hF hN
   have e : actOff m.mat a = (a.kind == 25 && !mMet m.mat a.oxm.field) := rfl
   unfold Action.enc at h4
   unfold FlowMod.enc oxmS at *
   clear ha hi mc
   cases k1 : a.kind == 25
   · rw [k1] at e
     have hn := hN e
     clear hF hN e c
     repeat' (first | apply WK.seq | apply WK.block | apply WK.inBlock | apply WK.skip | refine WK.cT rfl ?_ | refine WK.cF rfl ?_ | (refine hQ.h _ _ ?_; clear hQ hA) | (refine WK.rH Tryz.ntmps139 (by kernel_rfl) ?_; intro A hA Q hQ; simp [*]) | (refine WK.rX (by kernel_rfl) Tryz.ntmps139 (by kernel_rfl) ?_; intro A hA Q hQ; simp [*]) | (refine hQ.h _ _ _ (by decide +kernel) ?_; clear hQ hA) | (refine RunX.gd rfl (by rw [hA.h]; rfl) ?_; simp [*]))
     refine WK.next (fun n => n) (IH (i + 1) (⟨by omega, hn⟩) (by first | omega | (dsimp only; omega))) (by repeat (first | exact TmW.nil | refine TmW.upd ?_ (by simp (maxDischargeDepth := 120)))) (by repeat (first | exact BxW.nil | refine BxW.upd ?_ (by simp (maxDischargeDepth := 120)))) InjW.id
   cases k2 : mMet m.mat a.oxm.field
   · rw [k1, k2] at e
     rw [k2] at c
     have hf := hF e
     clear hF hN e
     repeat' (first | apply WK.seq | apply WK.block | apply WK.skip | refine WK.cT rfl ?_ | (refine hQ.h _ _ ?_; clear hQ hA) | (refine WK.rH Tryz.ntmps139 (by kernel_rfl) ?_; intro A hA Q hQ; simp [*]) | (refine WK.rX (by kernel_rfl) Tryz.ntmps139 (by kernel_rfl) ?_; intro A hA Q hQ; simp [*]) | (refine hQ.h _ _ _ (by decide +kernel) ?_; clear hQ hA) | (refine RunX.gd rfl (by rw [hA.h]; rfl) ?_; simp [*]) | (refine RunXW.call rfl rfl rfl ?_ (c) ?_ ?_; (focus (simp (maxDischargeDepth := 120) [*]; done)); (focus (simp [*]; done)); refine RunX.e ?_; simp [*]) | (refine WK.ret Tryz.func139 ?_ ?_ <;> simp (maxDischargeDepth := 120) [Tryz.results139, *]))
   · rw [k1, k2] at e
     rw [k2] at c
     have hn := hN e
     clear hF hN e
     repeat' (first | apply WK.seq | apply WK.block | apply WK.inBlock | apply WK.skip | refine WK.cT rfl ?_ | refine WK.cF rfl ?_ | (refine hQ.h _ _ ?_; clear hQ hA) | (refine WK.rH Tryz.ntmps139 (by kernel_rfl) ?_; intro A hA Q hQ; simp [*]) | (refine WK.rX (by kernel_rfl) Tryz.ntmps139 (by kernel_rfl) ?_; intro A hA Q hQ; simp [*]) | (refine hQ.h _ _ _ (by decide +kernel) ?_; clear hQ hA) | (refine RunX.gd rfl (by rw [hA.h]; rfl) ?_; simp [*]) | (refine RunXW.call rfl rfl rfl ?_ (c) ?_ ?_; (focus (simp (maxDischargeDepth := 120) [*]; done)); (focus (simp [*]; done)); refine RunX.e ?_; simp [*]))
     refine WK.next (fun n => n) (IH (i + 1) (⟨by omega, hn⟩) (by first | omega | (dsimp only; omega))) (by repeat (first | exact TmW.nil | refine TmW.upd ?_ (by simp (maxDischargeDepth := 120)))) (by repeat (first | exact BxW.nil | refine BxW.upd ?_ (by simp (maxDischargeDepth := 120)))) InjW.id
 · have e := any_false' (p := actOff m.mat) (l := l) fun j hj => hi.2 j (by omega)
   unfold FlowMod.enc
   repeat' (first | apply WK.seq | refine WK.exit rfl ?_ | refine WK.cF rfl ?_ | (refine hQ.h _ _ ?_; clear hQ hA) | (refine WK.rH Tryz.ntmps139 (by kernel_rfl) ?_; intro A hA Q hQ; simp [*]) | (refine WK.ret Tryz.func139 ?_ ?_ <;> simp (maxDischargeDepth := 120) [Tryz.results139, *]))
theorem fmbad_c (k n : Int) : FnP Tryz.prog 101 [.int .i64 k, .int .i64 n] (.agg (gF (some (k, n)))) := by
 refine FnP.intro Tryz.func101 rfl rfl fun G w => ?_
 repeat' (first | apply WK.seq | (refine hQ.h _ _ ?_; clear hQ hA) | (refine WK.rH Tryz.ntmps101 (by kernel_rfl) ?_; intro A hA Q hQ; simp [*]) | (refine WK.ret Tryz.func101 ?_ ?_ <;> simp (maxDischargeDepth := 120) [Tryz.results101, gF, *]))
theorem fmWrong_eq (m : FlowMod) : fmWrong m = m.insts.any fun i => i.acts.any (actOff m.mat) := rfl
set_option maxHeartbeats 4000000 in
theorem fmcheck_c (m : FlowMod) (hm : FmB m) : FnP Tryz.prog 107 [.agg m.enc] (.agg (gF (fmCheck m))) := by
 have b6 := fmbad_c 5 6
 have b7 := fmbad_c 5 7
 have b10 := fmbad_c 2 10
 have mk := fmakes_c m
 have me : ∀ l : List Action, l.length ≤ 1000000 → FnP Tryz.prog 139 [.iptr m.enc, actS l] (.bool (!l.any (actOff m.mat))) := fun l hl => fmeets_c m l hl (by have := hm.mat; omega)
 have e : fmCheck m = if m.command < 0 ∨ 4 < m.command then some (5, 6) else if 31 < m.flags then some (5, 7) else if 2 < m.command then none else if fmWrong m = true then some (2, 10) else none := rfl
 have hl := hm.insts
 unfold FlowMod.enc at *
 refine FnP.intro Tryz.func107 rfl rfl fun G w => ?_
 repeat' (first | apply WK.seq | apply WK.block | (refine hQ.h _ _ ?_; clear hQ hA) | (refine WK.rH (id := 0) Tryz.ntmps107 (by kernel_rfl) ?_; intro A hA Q hQ; simp [*]) | (refine WK.rH (id := 1) Tryz.ntmps107 (by kernel_rfl) ?_; intro A hA Q hQ; simp [*]))
 refine WK.ghost (Ghost.frzVar 3 rfl rfl) ?_
 by_cases c1 : m.command < 0
 · rw [if_pos (.inl c1)] at e
   rw [e]
   clear e b7 b10 mk me
   repeat' (first | apply WK.seq | refine WK.cT rfl ?_ | (refine hQ.h _ _ ?_; clear hQ hA) | (refine WK.rH Tryz.ntmps107 (by kernel_rfl) ?_; intro A hA Q hQ; simp [gF, *]) | (refine RunQ.gd rfl (by rw [hA.h]; rfl) ?_; simp [gF, *]) | (refine RunQ.k rfl rfl rfl rfl rfl ?_ (b6) ?_ ?_ <;> simp (maxDischargeDepth := 120) [gF, *] <;> refine ⟨?_⟩) | (refine WK.ret Tryz.func107 ?_ ?_ <;> simp (maxDischargeDepth := 120) [Tryz.results107, gF, *]))
 by_cases c2 : 4 < m.command
 · rw [if_pos (.inr c2)] at e
   rw [e]
   clear e b7 b10 mk me
   repeat' (first | apply WK.seq | refine WK.cT rfl ?_ | (refine hQ.h _ _ ?_; clear hQ hA) | (refine WK.rH Tryz.ntmps107 (by kernel_rfl) ?_; intro A hA Q hQ; simp [gF, *]) | (refine RunQ.gd rfl (by rw [hA.h]; rfl) ?_; simp [gF, *]) | (refine RunQ.k rfl rfl rfl rfl rfl ?_ (b6) ?_ ?_ <;> simp (maxDischargeDepth := 120) [gF, *] <;> refine ⟨?_⟩) | (refine WK.ret Tryz.func107 ?_ ?_ <;> simp (maxDischargeDepth := 120) [Tryz.results107, gF, *]))
 rw [if_neg (by omega)] at e
 by_cases c3 : 31 < m.flags
 · rw [if_pos c3] at e
   rw [e]
   clear e b6 b10 mk me
   repeat' (first | apply WK.seq | refine WK.cT rfl ?_ | refine WK.cF rfl ?_ | (refine hQ.h _ _ ?_; clear hQ hA) | (refine WK.rH Tryz.ntmps107 (by kernel_rfl) ?_; intro A hA Q hQ; simp [gF, *]) | (refine RunQ.gd rfl (by rw [hA.h]; rfl) ?_; simp [gF, *]) | (refine RunQ.k rfl rfl rfl rfl rfl ?_ (b7) ?_ ?_ <;> simp (maxDischargeDepth := 120) [gF, *] <;> refine ⟨?_⟩) | (refine WK.ret Tryz.func107 ?_ ?_ <;> simp (maxDischargeDepth := 120) [Tryz.results107, gF, *]))
 rw [if_neg c3] at e
 by_cases c4 : 2 < m.command
 · rw [if_pos c4] at e
   rw [e]
   have d : (decide (0 ≤ m.command) && decide (m.command ≤ 2)) = false := by rw [Bool.and_eq_false_iff, decide_eq_false_iff_not, decide_eq_false_iff_not]; omega
   rw [d] at mk
   clear e b6 b7 b10 me d
   repeat' (first | apply WK.seq | refine WK.cT rfl ?_ | refine WK.cF rfl ?_ | (refine hQ.h _ _ ?_; clear hQ hA) | (refine WK.rH Tryz.ntmps107 (by kernel_rfl) ?_; intro A hA Q hQ; simp [gF, *]) | (refine RunQ.gd rfl (by rw [hA.h]; rfl) ?_; simp [gF, *]) | (refine RunQ.k rfl rfl rfl rfl rfl ?_ (mk) ?_ ?_ <;> simp (maxDischargeDepth := 120) [gF, *] <;> refine ⟨?_⟩) | (refine WK.ret Tryz.func107 ?_ ?_ <;> simp (maxDischargeDepth := 120) [Tryz.results107, gF, *]))
 rw [if_neg c4] at e
 have d : (decide (0 ≤ m.command) && decide (m.command ≤ 2)) = true := by rw [Bool.and_eq_true, decide_eq_true_eq, decide_eq_true_eq]; omega
 rw [d] at mk
 rw [fmWrong_eq] at e
 clear b6 b7 d
 repeat' (first | apply WK.seq | apply WK.block | apply WK.inBlock | apply WK.skip | refine WK.cF rfl ?_ | (refine hQ.h _ _ ?_; clear hQ hA) | (refine WK.rH Tryz.ntmps107 (by kernel_rfl) ?_; intro A hA Q hQ; simp [*]) | (refine RunQ.gd rfl (by rw [hA.h]; rfl) ?_; simp [*]) | (refine RunQ.k rfl rfl rfl rfl rfl ?_ (mk) ?_ ?_ <;> simp (maxDischargeDepth := 120) [*] <;> refine ⟨?_⟩))
 refine WK.lI (fun n => if n = 0 then 1 else n) (fun i : Nat => (⟨(upd (upd (upd (upd (upd J 2 (.ptr 0 0)) 3 (.iptr m.enc)) 42 (.sl false m.insts.length (instL m.insts))) 43 (.int .i64 m.insts.length)) 44 (.int .i64 i)), (upd B0 0 (.var [.junk, .junk, .junk])), 0⟩ : St)) (fun i => i ≤ m.insts.length ∧ ∀ j, j < i → (nth m.insts j).acts.any (actOff m.mat) = false) (fun i => m.insts.length - i) (0) (by repeat (first | exact TmW.nil | refine TmW.upd ?_ (by simp (maxDischargeDepth := 120) [FlowMod.enc]))) (by repeat (first | exact BxW.nil | refine BxW.upd ?_ (by simp (maxDischargeDepth := 120) [FlowMod.enc]))) (by first | exact InjW.id | exact InjW.nil | exact InjW.one | exact InjW.two (by simp) | exact InjW.three (by simp) (by simp) (by simp)) (⟨by omega, by simp⟩) (fun i hi IH => ?_)
 clear mk c1 c2 c3 c4
 by_cases h1 : i < m.insts.length
 · have h4 := inst_sub m.insts i h1
   have h3 : 7 ≤ m.insts.length * 7 - i * 7 := by omega
   have h6 : IntKind.i64.wrap ((i : Int) + 1) = i + 1 := wrap_i64 (by omega) (by omega)
   have c := me (nth m.insts i).acts (hm.acts _ (nth_mem h1))
   have hF : (nth m.insts i).acts.any (actOff m.mat) = true → (m.insts.any fun i => i.acts.any (actOff m.mat)) = true := fun h => any_true' (p := fun i : Inst => i.acts.any (actOff m.mat)) h1 h
   have hN : (nth m.insts i).acts.any (actOff m.mat) = false → ∀ j, j < i + 1 → (nth m.insts j).acts.any (actOff m.mat) = false := fun h j hj => by
     by_cases h7 : j = i
     · subst h7; exact h
     · exact hi.2 j (by omega)
   obtain ⟨a, ha⟩ : ∃ a, nth m.insts i = a := ⟨_, rfl⟩
   rw [ha] at h4 c hF hN
   obtain ⟨z, hz⟩ : ∃ z, a.acts.any (actOff m.mat) = z := ⟨_, rfl⟩
   rw [hz] at c hF hN
   unfold Inst.enc at h4
   unfold actS at c
   unfold FlowMod.enc at *
   clear ha hi me hz hm
   cases z
   · have hn := hN rfl
     clear hF hN e b10
     repeat' (first | apply WK.seq | apply WK.block | apply WK.inBlock | apply WK.skip | refine WK.cT rfl ?_ | refine WK.cF rfl ?_ | (refine hQ.h _ _ ?_; clear hQ hA) | (refine WK.rH Tryz.ntmps107 (by kernel_rfl) ?_; intro A hA Q hQ; simp [*]) | (refine RunQ.k rfl rfl rfl rfl rfl ?_ (c) ?_ ?_ <;> simp (maxDischargeDepth := 120) [*] <;> refine ⟨?_⟩))
     refine WK.next (fun n => n) (IH (i + 1) (⟨by omega, hn⟩) (by first | omega | (dsimp only; omega))) (by repeat (first | exact TmW.nil | refine TmW.upd ?_ (by simp (maxDischargeDepth := 120)))) (by repeat (first | exact BxW.nil | refine BxW.upd ?_ (by simp (maxDischargeDepth := 120)))) InjW.id
   · rw [if_pos (hF rfl)] at e
     rw [e]
     clear hF hN e
     repeat' (first | apply WK.seq | apply WK.block | apply WK.skip | refine WK.cT rfl ?_ | (refine hQ.h _ _ ?_; clear hQ hA) | (refine WK.rH Tryz.ntmps107 (by kernel_rfl) ?_; intro A hA Q hQ; simp [gF, *]) | (refine RunQ.k rfl rfl rfl rfl rfl ?_ (c) ?_ ?_ <;> simp (maxDischargeDepth := 120) [gF, *] <;> refine ⟨?_⟩) | (refine RunQ.k rfl rfl rfl rfl rfl ?_ (b10) ?_ ?_ <;> simp (maxDischargeDepth := 120) [gF, *] <;> refine ⟨?_⟩) | (refine WK.ret Tryz.func107 ?_ ?_ <;> simp (maxDischargeDepth := 120) [Tryz.results107, gF, *]))
 · have ef := any_false' (p := fun i : Inst => i.acts.any (actOff m.mat)) (l := m.insts) fun j hj => hi.2 j (by omega)
   rw [if_neg (by rw [ef]; simp)] at e
   rw [e]
   clear e me b10 ef
   unfold FlowMod.enc at *
   repeat' (first | apply WK.seq | refine WK.exit rfl ?_ | refine WK.cF rfl ?_ | (refine hQ.h _ _ ?_; clear hQ hA) | (refine WK.rH Tryz.ntmps107 (by kernel_rfl) ?_; intro A hA Q hQ; simp [gF, *]) | (refine WK.ret Tryz.func107 ?_ ?_ <;> simp (maxDischargeDepth := 120) [Tryz.results107, gF, *]))
theorem fmNums_len (m : FlowMod) : (fmNums m).length = 9 := rfl
theorem fmSize_at : ∀ i : Nat, i < 9 → nth fmSizesI i = ((nth fmSizes i : Nat) : Int) ∧ Sz (nth fmSizes i) ∧ nth fmSizes i ≤ 4 := by
 intro i hi
 have : i = 0 ∨ i = 1 ∨ i = 2 ∨ i = 3 ∨ i = 4 ∨ i = 5 ∨ i = 6 ∨ i = 7 ∨ i = 8 := by omega
 rcases this with rfl | rfl | rfl | rfl | rfl | rfl | rfl | rfl | rfl <;> refine ⟨by rfl, ?_, by decide⟩ <;> unfold Sz <;> decide
theorem nth_zip {α β : Type} [Inhabited α] [Inhabited β] {l : List α} {k : List β} {i : Nat} (h1 : i < l.length) (h2 : i < k.length) : nth (l.zip k) i = (nth l i, nth k i) := by
 rw [nth_eq (l := l.zip k) (i := i) (by rw [List.length_zip]; omega), List.getElem_zip, nth_eq h1, nth_eq h2]
theorem fmZip_at (m : FlowMod) {i : Nat} (h : i < 9) : nth (fmZip m) i = (nth (fmNums m) i, nth fmSizes i) := nth_zip (by rw [fmNums_len]; exact h) h
theorem fmAll_false {m : FlowMod} {i : Nat} (h : i < 9) (hp : numOk (nth (fmNums m) i) (nth fmSizes i) = false) : fmRight m = false := by
 have : (fmZip m).all (fun x => numOk x.1 x.2) = false := all_false (i := i) h (by rw [fmZip_at m h]; exact hp)
 unfold fmRight
 rw [this]; rfl
theorem fmAll_true {m : FlowMod} (h : ∀ j, j < 9 → numOk (nth (fmNums m) j) (nth fmSizes j) = true) : fmRight m = ((mEnc m.mat).2 == 0 && ((inEnc m.insts).2 == 0 && (fmCheck m).isNone)) := by
 have : (fmZip m).all (fun x => numOk x.1 x.2) = true := all_true fun j hj => by rw [fmZip_at m hj]; exact h j hj
 unfold fmRight
 rw [this]; rfl
set_option maxHeartbeats 4000000 in
theorem fmright_c (m : FlowMod) (hm : FmB m) : FnP Tryz.prog 234 [.agg m.enc] (.bool (fmRight m)) := by
 have sz := fsizes_c
 have nm := fnumbers_c m
 have me := mencP_c m.mat hm.mat
 have ie := iencP_c m.insts hm.insts hm.acts
 have ck := fmcheck_c m hm
 have hF : ∀ i, i < 9 → numOk (nth (fmNums m) i) (nth fmSizes i) = false → fmRight m = false := fun i h hp => fmAll_false h hp
 have hT : (∀ j, j < 9 → numOk (nth (fmNums m) j) (nth fmSizes j) = true) → fmRight m = ((mEnc m.mat).2 == 0 && ((inEnc m.insts).2 == 0 && (fmCheck m).isNone)) := fmAll_true
 obtain ⟨N, hN⟩ : ∃ N, fmNums m = N := ⟨_, rfl⟩
 have hNl : N.length = 9 := by rw [← hN]; rfl
 rw [hN] at nm hF hT
 obtain ⟨M, hM⟩ : ∃ M, mEnc m.mat = M := ⟨_, rfl⟩
 obtain ⟨I, hI⟩ : ∃ I, inEnc m.insts = I := ⟨_, rfl⟩
 obtain ⟨C, hC⟩ : ∃ C, fmCheck m = C := ⟨_, rfl⟩
 rw [hM] at me hT
 rw [hI] at ie hT
 rw [hC] at ck hT
 simp only [byS, oxmS, instS] at me ie
 have hnl : (intL N).length = 9 := by rw [intL_len, hNl]
 have hsl : (intL fmSizesI).length = 9 := rfl
 clear hN hM hI hC hm
 unfold FlowMod.enc at *
 refine FnP.intro Tryz.func234 rfl rfl fun G w => ?_
 repeat' (first | apply WK.seq | (refine hQ.h _ _ ?_; clear hQ hA) | (refine WK.rH (id := 0) Tryz.ntmps234 (by kernel_rfl) ?_; intro A hA Q hQ; simp [*]) | (refine WK.rH (id := 1) Tryz.ntmps234 (by kernel_rfl) ?_; intro A hA Q hQ; simp [*]))
 refine WK.ghost (Ghost.frzVar 3 rfl rfl) ?_
 repeat' (first | apply WK.seq | apply WK.block | (refine hQ.h _ _ ?_; clear hQ hA) | (refine WK.rH Tryz.ntmps234 (by kernel_rfl) ?_; intro A hA Q hQ; simp [*]) | (refine RunQ.k rfl rfl rfl rfl rfl ?_ (sz) ?_ ?_ <;> simp (maxDischargeDepth := 120) [*] <;> refine ⟨?_⟩) | (refine RunQ.k rfl rfl rfl rfl rfl ?_ (nm) ?_ ?_ <;> simp (maxDischargeDepth := 120) [*] <;> refine ⟨?_⟩))
 refine WK.lI (fun n => if n = 1 then 201 else n) (fun i : Nat => (⟨(upd (upd (upd (upd (upd J 1 (.ptr 0 0)) 3 (.iptr m.enc)) 4 (.ptr 1 0)) 16 (.agg (intL N))) 17 (.int .i64 i)), (upd (upd B0 0 (.var m.enc)) 1 (.var (intL fmSizesI))), 0⟩ : St)) (fun i => i ≤ 9 ∧ ∀ j, j < i → numOk (nth N j) (nth fmSizes j) = true) (fun i => 9 - i) (0) (by repeat (first | exact TmW.nil | refine TmW.upd ?_ (by simp (maxDischargeDepth := 120) [FlowMod.enc]))) (by repeat (first | exact BxW.nil | refine BxW.upd ?_ (by simp (maxDischargeDepth := 120) [FlowMod.enc]))) (by first | exact InjW.id | exact InjW.nil | exact InjW.one | exact InjW.two (by simp) | exact InjW.three (by simp) (by simp) (by simp)) (⟨by omega, by simp⟩) (fun i hi IH => ?_)
 clear sz nm
 unfold FlowMod.enc
 by_cases h1 : i < 9
 · obtain ⟨s1, s2, s3⟩ := fmSize_at i h1
   have h1' : (i : Int) < 9 := by omega
   have h6 : IntKind.i64.wrap ((i : Int) + 1) = i + 1 := wrap_i64 (by omega) (by omega)
   have c := nright_c (nth N i) (nth fmSizes i) s2
   have g1 := intL_get' N i (by omega)
   have g2 := intL_get' fmSizesI i h1
   rw [s1] at g2
   have hFi := hF i h1
   have hNi : numOk (nth N i) (nth fmSizes i) = true → ∀ j, j < i + 1 → numOk (nth N j) (nth fmSizes j) = true := fun h j hj => by
     by_cases h7 : j = i
     · subst h7; exact h
     · exact hi.2 j (by omega)
   obtain ⟨x, hx⟩ : ∃ x, nth N i = x := ⟨_, rfl⟩
   obtain ⟨s, hs⟩ : ∃ x, nth fmSizes i = x := ⟨_, rfl⟩
   rw [hx, hs] at c hFi hNi
   rw [hx] at g1
   rw [hs] at g2
   obtain ⟨z, hz⟩ : ∃ z, numOk x s = z := ⟨_, rfl⟩
   rw [hz] at c hFi hNi
   clear hx hs hz hi hF hT me ie ck s1 s2 s3
   cases z
   · have e := hFi rfl
     clear hNi hFi
     repeat' (first | apply WK.seq | apply WK.block | apply WK.skip | refine WK.cT rfl ?_ | (refine hQ.h _ _ ?_; clear hQ hA) | (refine WK.rH Tryz.ntmps234 (by kernel_rfl) ?_; intro A hA Q hQ; simp [*]) | (refine RunQ.k rfl rfl rfl rfl rfl ?_ (c) ?_ ?_ <;> simp (maxDischargeDepth := 120) [*] <;> refine ⟨?_⟩) | (refine WK.ret Tryz.func234 ?_ ?_ <;> simp (maxDischargeDepth := 120) [Tryz.results234, *]))
   · have hn := hNi rfl
     clear hNi hFi
     repeat' (first | apply WK.seq | apply WK.block | apply WK.inBlock | apply WK.skip | refine WK.cT rfl ?_ | refine WK.cF rfl ?_ | (refine hQ.h _ _ ?_; clear hQ hA) | (refine WK.rH Tryz.ntmps234 (by kernel_rfl) ?_; intro A hA Q hQ; simp [*]) | (refine RunQ.k rfl rfl rfl rfl rfl ?_ (c) ?_ ?_ <;> simp (maxDischargeDepth := 120) [*] <;> refine ⟨?_⟩))
     refine WK.next (fun n => n) (IH (i + 1) (⟨by omega, hn⟩) (by first | omega | (dsimp only; omega))) (by repeat (first | exact TmW.nil | refine TmW.upd ?_ (by simp (maxDischargeDepth := 120) [FlowMod.enc]))) (by repeat (first | exact BxW.nil | refine BxW.upd ?_ (by simp (maxDischargeDepth := 120) [FlowMod.enc]))) InjW.id
 · have e := hT fun j hj => hi.2 j (by omega)
   have h1' : ¬ (i : Int) < 9 := by omega
   clear hF hT hi
   obtain ⟨M1, M2⟩ := M
   obtain ⟨I1, I2⟩ := I
   simp only at me ie e
   cases k1 : M2 == 0
   · rw [k1] at e
     repeat' (first | apply WK.seq | refine WK.exit rfl ?_ | refine WK.cF rfl ?_ | (refine hQ.h _ _ ?_; clear hQ hA) | (refine WK.rH Tryz.ntmps234 (by kernel_rfl) ?_; intro A hA Q hQ; simp [*]) | (refine RunQ.gd rfl (by rw [hA.h]; rfl) ?_; simp [*]) | (refine RunQ.k rfl rfl rfl rfl rfl ?_ (me) ?_ ?_ <;> simp (maxDischargeDepth := 120) [*] <;> refine ⟨?_⟩) | (refine RunQ.k rfl rfl rfl rfl rfl ?_ (ie) ?_ ?_ <;> simp (maxDischargeDepth := 120) [*] <;> refine ⟨?_⟩) | (refine WK.ret Tryz.func234 ?_ ?_ <;> simp (maxDischargeDepth := 120) [Tryz.results234, *]))
   cases k2 : I2 == 0
   · rw [k1, k2] at e
     repeat' (first | apply WK.seq | refine WK.exit rfl ?_ | refine WK.cF rfl ?_ | (refine hQ.h _ _ ?_; clear hQ hA) | (refine WK.rH Tryz.ntmps234 (by kernel_rfl) ?_; intro A hA Q hQ; simp [*]) | (refine RunQ.gd rfl (by rw [hA.h]; rfl) ?_; simp [*]) | (refine RunQ.k rfl rfl rfl rfl rfl ?_ (me) ?_ ?_ <;> simp (maxDischargeDepth := 120) [*] <;> refine ⟨?_⟩) | (refine RunQ.k rfl rfl rfl rfl rfl ?_ (ie) ?_ ?_ <;> simp (maxDischargeDepth := 120) [*] <;> refine ⟨?_⟩) | (refine WK.ret Tryz.func234 ?_ ?_ <;> simp (maxDischargeDepth := 120) [Tryz.results234, *]))
   rw [k1, k2] at e
   cases C <;>
   · repeat' (first | apply WK.seq | refine WK.exit rfl ?_ | refine WK.cF rfl ?_ | (refine hQ.h _ _ ?_; clear hQ hA) | (refine WK.rH Tryz.ntmps234 (by kernel_rfl) ?_; intro A hA Q hQ; simp [gF, *]) | (refine RunQ.gd rfl (by rw [hA.h]; rfl) ?_; simp [gF, *]) | (refine RunQ.k rfl rfl rfl rfl rfl ?_ (me) ?_ ?_ <;> simp (maxDischargeDepth := 120) [gF, *] <;> refine ⟨?_⟩) | (refine RunQ.k rfl rfl rfl rfl rfl ?_ (ie) ?_ ?_ <;> simp (maxDischargeDepth := 120) [gF, *] <;> refine ⟨?_⟩) | (refine RunQW.k rfl rfl rfl rfl ?_ (ck) ?_ ?_ <;> simp (maxDischargeDepth := 120) [gF, *] <;> refine ⟨?_⟩) | (refine WK.ret Tryz.func234 ?_ ?_ <;> simp (maxDischargeDepth := 120) [Tryz.results234, gF, *]))
theorem fmNums_eq (a b : FlowMod) : (fmNums a == fmNums b) = (a.table == b.table && (a.command == b.command && (a.idle == b.idle && (a.hard == b.hard && (a.prio == b.prio && (a.buffer == b.buffer && (a.outPort == b.outPort && (a.outGroup == b.outGroup && a.flags == b.flags)))))))) := by
 unfold fmNums
 rw [Bool.eq_iff_iff]
 simp only [beq_iff_eq, Bool.and_eq_true, List.cons.injEq, and_true]
theorem fmsame_c (a b : FlowMod) (ha : FmB a) : FnP Tryz.prog 32 [.agg a.enc, .agg b.enc] (.bool (FlowMod.same a b)) := by
 have na := fnumbers_c a
 have nb := fnumbers_c b
 have ms := msame_c a.mat b.mat (by have := ha.mat; omega)
 have is := insame_c a.insts b.insts (by have := ha.insts; omega) ha.acts
 have e : FlowMod.same a b = ((fmNums a == fmNums b) && (a.cookie == b.cookie && (a.cookieMask == b.cookieMask && (eqBy (fun x y : Oxm => x == y) a.mat b.mat && eqBy Inst.same a.insts b.insts)))) := rfl
 obtain ⟨z1, hz1⟩ : ∃ z, eqBy (fun x y : Oxm => x == y) a.mat b.mat = z := ⟨_, rfl⟩
 obtain ⟨z2, hz2⟩ : ∃ z, eqBy Inst.same a.insts b.insts = z := ⟨_, rfl⟩
 rw [hz1] at ms e
 rw [hz2] at is e
 rw [fmNums_eq] at e
 simp only [fmNums, intL, List.map_cons, List.map_nil] at na nb
 unfold oxmS instS at *
 unfold FlowMod.enc at *
 clear hz1 hz2
 refine FnP.intro Tryz.func32 rfl rfl fun G w => ?_
 repeat' (first | apply WK.seq | (refine hQ.h _ _ ?_; clear hQ hA) | (refine WK.rH (id := 0) Tryz.ntmps32 (by kernel_rfl) ?_; intro A hA Q hQ; simp [*]) | (refine WK.rH (id := 1) Tryz.ntmps32 (by kernel_rfl) ?_; intro A hA Q hQ; simp [*]) | (refine WK.rX (id := 0) (by kernel_rfl) Tryz.ntmps32 (by kernel_rfl) ?_; intro A hA Q hQ; simp [*]) | (refine WK.rX (id := 1) (by kernel_rfl) Tryz.ntmps32 (by kernel_rfl) ?_; intro A hA Q hQ; simp [*]) | (refine hQ.h _ _ _ (by decide +kernel) ?_; clear hQ hA))
 refine WK.ghost (Ghost.frzVar 5 rfl rfl) ?_
 refine WK.ghost (Ghost.frzVar 6 rfl rfl) ?_
 repeat' (first | (refine hQ.h _ _ ?_; clear hQ hA) | (refine Fork.mk (fun h => ?_) (fun h => ?_) <;> (first | (simp [*] at h; done) | (have h2 := h; simp at h2; exfalso; omega) | (have h2 := h; simp at h2; try simp only [Bool.not_eq_true', Bool.not_eq_false'] at h) | skip)) | (refine WK.rH Tryz.ntmps32 (by kernel_rfl) ?_; intro A hA Q hQ; simp [*]) | (refine RunQ.gd rfl (by rw [hA.h]; rfl) ?_; simp [*]) | (refine RunQ.k rfl rfl rfl rfl rfl ?_ (na) ?_ ?_ <;> simp (maxDischargeDepth := 120) [*] <;> refine ⟨?_⟩) | (refine RunQ.k rfl rfl rfl rfl rfl ?_ (nb) ?_ ?_ <;> simp (maxDischargeDepth := 120) [*] <;> refine ⟨?_⟩) | (refine RunQW.k rfl rfl rfl rfl ?_ (ms) ?_ ?_ <;> simp (maxDischargeDepth := 120) [*] <;> refine ⟨?_⟩) | (refine RunQW.k rfl rfl rfl rfl ?_ (is) ?_ ?_ <;> simp (maxDischargeDepth := 120) [*] <;> refine ⟨?_⟩) | (refine WK.ret Tryz.func32 ?_ ?_ <;> simp (maxDischargeDepth := 120) [Tryz.results32, *]))
end Go.Proofs.YtcccfbjkcahgfaaGreat
