/- Changes of groups: read and written by the program. -/
import Derived.Test.YtcccfbjkcahgfaaGreatAf
import Derived.Test.YtcccfbjkcahgfaaGreatWk7
import Derived.Test.YtcccfbjkcahgfaaGreatWk8
set_option linter.all false
set_option linter.unnecessarySimpa false
namespace Go.Proofs.YtcccfbjkcahgfaaGreat
open Go Go.AI Go.Proofs
attribute [local irreducible] FnP FnO FnB FnT FnSeq WK RunQ RunQW RunX RunXW
@[simp] theorem GroupMod.len (x : GroupMod) : x.enc.length = 4 := rfl
@[simp] theorem GroupMod.cl (x : GroupMod) : ClL x.enc = true := by simp [GroupMod.enc, ClL, Cl]
@[simp] theorem GroupMod.take (x : GroupMod) : x.enc.take 4 = x.enc := rfl
def prE (x : Int × Nat) : List AV := [.int .i64 x.1, .int .i64 x.2]
def prL (l : List (Int × Nat)) : List AV := l.flatMap prE
theorem prE_len (x : Int × Nat) : (prE x).length = 2 := rfl
@[simp] theorem prL_len (l : List (Int × Nat)) : (prL l).length = l.length * 2 := fm_length prE_len l
@[simp] theorem prL_cl (l : List (Int × Nat)) : ClL (prL l) = true := ClL_flatMap _ (fun x => by simp [prE, ClL, Cl]) l
theorem pr_load (l : List (Int × Nat)) (i : Nat) (h : i < l.length) : ((prL l).drop (i * 2)).take 2 = prE (nth l i) ∧ 2 ≤ l.length * 2 - i * 2 := ⟨fm_nth prE_len l i h, by omega⟩
def fldF (l : List (Int × Nat)) : List (BitVec 8) := l.foldl (fun b x => putN b x.1 x.2) []
theorem fldF_succ {l : List (Int × Nat)} {i : Nat} (h : i < l.length) : fldF (l.take (i + 1)) = putN (fldF (l.take i)) (nth l i).1 (nth l i).2 := by
 unfold fldF; rw [take_nth h, List.foldl_append]; rfl
theorem fldF_len {l : List (Int × Nat)} (hs : ∀ x, x ∈ l → Sz x.2) : ∀ i, (fldF (l.take i)).length ≤ i * 4
 | 0 => by simp [fldF]
 | i + 1 => by
   by_cases h : i < l.length
   · have h1 := fldF_len hs i
     have h2 := putN_len (fldF (l.take i)) (nth l i).1 (nth l i).2
     have h3 := hs _ (nth_mem h)
     unfold Sz at h3
     rw [fldF_succ h]; omega
   · have h1 := fldF_len hs i
     rw [List.take_of_length_le (by omega)] at h1 ⊢
     omega
theorem gfields_c (l : List (Int × Nat)) (hs : ∀ x, x ∈ l → Sz x.2) (hl : l.length ≤ 1000) : FnO Tryz.prog 250 [.sl true l.length (prL l)] (fldF l).length 1 (byL (fldF l)) := by
 refine FnO.intro Tryz.func250 rfl rfl fun G w => ?_
 repeat' (first | apply WK.s | apply WK.b | (refine hQ.h _ _ ?_; clear hQ hA) | (refine WK.rH Tryz.ntmps250 (by kernel_rfl) ?_; intro A hA Q hQ; simp [*]))
 refine WK.ghost (Ghost.own 3 900 1 rfl rfl) ?_
 refine WK.lI (fun n => if n = 1 then 900 else n) (fun i : Nat => (⟨(upd (upd (upd (upd J 3 (.msl 1 0 (fldF (l.take i)).length)) 6 (.sl true l.length (prL l))) 7 (.int .i64 l.length)) 8 (.int .i64 i)), (upd B0 1 (.buf 1 (byL (fldF (l.take i))))), 0⟩ : St)) (fun i => i ≤ l.length) (fun i => l.length - i) (0) (by repeat (first | exact TmW.nil | refine TmW.upd ?_ (by simp (maxDischargeDepth := 120) [fldF, b0_]))) (by repeat (first | exact BxW.nil | refine BxW.upd ?_ (by simp (maxDischargeDepth := 120) [fldF, b0_]))) (by first | exact InjW.id | exact InjW.nil | exact InjW.one | exact InjW.two (by simp) | exact InjW.three (by simp) (by simp) (by simp)) (Nat.zero_le _) (fun i hi IH => ?_)
 by_cases h1 : i < l.length
 · obtain ⟨h4, h3⟩ := pr_load l i h1
   have h6 : IntKind.i64.wrap ((i : Int) + 1) = i + 1 := wrap_i64 (by omega) (by omega)
   have hnx := fldF_succ h1
   have hln := fldF_len hs i
   have c := nput_c (fldF (l.take i)) (nth l i).1 (nth l i).2 (hs _ (nth_mem h1)) (by omega)
   obtain ⟨F, hF⟩ : ∃ F, fldF (l.take i) = F := ⟨_, rfl⟩
   rw [hF] at hnx c ⊢
   have hfu := by_full F F.length rfl
   unfold byS at c
   unfold prE at h4
   clear hF hln
   repeat' (first | apply WK.s | apply WK.b | apply WK.n | apply WK.k | refine WK.cT rfl ?_ | (refine hQ.h _ _ ?_; clear hQ hA) | (refine WK.rH Tryz.ntmps250 (by kernel_rfl) ?_; intro A hA Q hQ; simp [*]) | (refine RunQ.callOz 901 12 1 rfl rfl rfl rfl rfl rfl rfl ?_ (c) ?_ ?_ (by simp) (by decide) ?_; (focus (simp (maxDischargeDepth := 120) [*]; done)); (focus (simp [*]; done)); (focus (simp [*]; done)); refine RunQ.e ?_; simp [*]))
   refine WK.next (fun n => if n = 1 then 901 else n) (IH (i + 1) (by omega) (by first | omega | (dsimp only; omega))) (by repeat (first | exact TmW.nil | refine TmW.upd ?_ (by simp (maxDischargeDepth := 120) [hnx]))) (by repeat (first | exact BxW.nil | refine BxW.upd ?_ (by simp (maxDischargeDepth := 120) [hnx]))) (by first | exact InjW.id | exact InjW.nil | exact InjW.one | exact InjW.two (by simp) | exact InjW.three (by simp) (by simp) (by simp))
 · have hT : l.take i = l := List.take_of_length_le (by omega)
   rw [hT]
   repeat' (first | apply WK.s | refine WK.exit rfl ?_ | refine WK.cF rfl ?_ | (refine hQ.h _ _ ?_; clear hQ hA) | (refine WK.rH Tryz.ntmps250 (by kernel_rfl) ?_; intro A hA Q hQ; simp [*]) | (refine WK.retO Tryz.func250 rfl rfl ?_ ?_ <;> simp (maxDischargeDepth := 120) [*]))
theorem gbad_c (k c : Int) : FnP Tryz.prog 108 [.int .i64 k, .int .i64 c] (.tup [.agg gm0.enc, .agg (gF (some (k, c)))]) := by
 refine FnP.i Tryz.func108 rfl rfl fun G w => ?_
 repeat' (first | apply WK.s | (refine hQ.h _ _ ?_; clear hQ hA) | (refine WK.rH Tryz.ntmps108 (by kernel_rfl) ?_; intro A hA Q hQ; simp [*]) | (refine WK.t Tryz.func108 ?_ ?_ <;> simp (maxDischargeDepth := 120) [Tryz.results108, gF, gm0, GroupMod.enc, *]))
theorem gwithin_c (n t : Int) : FnP Tryz.prog 109 [.int .i64 n, .int .i64 t] (.bool (gmIn n t)) := by
 have e : gmIn n t = (decide (0 ≤ n) && decide (n ≤ t)) := rfl
 refine FnP.i Tryz.func109 rfl rfl fun G w => ?_
 repeat' (first | apply WK.s | (refine hQ.h _ _ ?_; clear hQ hA) | (refine Fork.mk (fun h => ?_) (fun h => ?_) <;> (first | (simp [*] at h; done) | (have h2 := h; simp at h2; exfalso; omega) | (have h2 := h; simp at h2; try simp only [Bool.not_eq_true', Bool.not_eq_false'] at h) | skip)) | (refine WK.rH Tryz.ntmps109 (by kernel_rfl) ?_; intro A hA Q hQ; simp [*]) | (refine RunQ.g rfl (by rw [hA.h]; rfl) ?_; simp [*]) | (refine WK.t Tryz.func109 ?_ ?_ <;> simp (maxDischargeDepth := 120) [Tryz.results109, *]))
structure GmFit (g : GroupMod) : Prop where
 len : g.buckets.length ≤ 1000000
 acts : ∀ x, x ∈ g.buckets → x.acts.length ≤ 1000000
theorem gright_c (g : GroupMod) (hg : GmFit g) : FnP Tryz.prog 248 [.agg g.enc] (.bool (gmRight g)) := by
 have p := bkencP_c g.buckets hg.len hg.acts
 have n1 := gwithin_c g.command 2
 have n2 := gwithin_c g.kind 3
 have n3 := nright_c g.id 4 Sz4
 have e : gmRight g = ((bkEnc g.buckets).2 == 0 && (gmIn g.command 2 && (gmIn g.kind 3 && numOk g.id 4))) := rfl
 obtain ⟨R, hR⟩ : ∃ R, bkEnc g.buckets = R := ⟨_, rfl⟩
 rw [hR] at p e
 simp only [byS, bukS] at p
 refine FnP.i Tryz.func248 rfl rfl fun G w => ?_
 repeat' (first | apply WK.s | (refine hQ.h _ _ ?_; clear hQ hA) | (refine Fork.mk (fun h => ?_) (fun h => ?_) <;> (first | (simp [*] at h; done) | (have h2 := h; simp at h2; exfalso; omega) | (have h2 := h; simp at h2; try simp only [Bool.not_eq_true', Bool.not_eq_false'] at h) | skip)) | (refine WK.rH Tryz.ntmps248 (by kernel_rfl) ?_; intro A hA Q hQ; simp [GroupMod.enc, *]) | (refine RunQ.g rfl (by rw [hA.h]; rfl) ?_; simp [GroupMod.enc, *]) | (refine RunQ.k rfl rfl rfl rfl rfl ?_ (p) ?_ ?_ <;> simp (maxDischargeDepth := 120) [GroupMod.enc, *] <;> refine ⟨?_⟩) | (refine RunQW.k rfl rfl rfl rfl ?_ (n1) ?_ ?_ <;> simp (maxDischargeDepth := 120) [GroupMod.enc, *] <;> refine ⟨?_⟩) | (refine RunQW.k rfl rfl rfl rfl ?_ (n2) ?_ ?_ <;> simp (maxDischargeDepth := 120) [GroupMod.enc, *] <;> refine ⟨?_⟩) | (refine RunQW.k rfl rfl rfl rfl ?_ (n3) ?_ ?_ <;> simp (maxDischargeDepth := 120) [GroupMod.enc, *] <;> refine ⟨?_⟩) | (refine WK.t Tryz.func248 ?_ ?_ <;> simp (maxDischargeDepth := 120) [Tryz.results248, GroupMod.enc, *]))
theorem gmFld {g : GroupMod} (h : gmRight g = true) : fldF [(g.command, 2), (g.kind, 1), (0, 1), (g.id, 4)] = gmHead g ∧ (bkEnc g.buckets).2 = 0 := by
 unfold gmRight at h
 rw [Bool.and_eq_true, Bool.and_eq_true, Bool.and_eq_true, beq_iff_eq] at h
 obtain ⟨h0, h1, h2, h3⟩ := h
 refine ⟨?_, h0⟩
 show putN (putN (putN (putN [] g.command 2) g.kind 1) 0 1) g.id 4 = _
 rw [putN_beN (gmIn_ok h1 (by decide)), putN_beN (gmIn_ok h2 (by decide)), putN_beN h3, putN_beN (n := 0) (s := 1) (by decide)]
 unfold gmHead
 simp only [List.nil_append, List.append_assoc]
theorem gmHead_len (g : GroupMod) : (gmHead g).length = 8 := by unfold gmHead; simp [beN_len]
theorem genc_c (g : GroupMod) (hg : GmFit g) : FnT Tryz.prog 247 [.agg g.enc] (gmEnc g).1.length 1 (byL (gmEnc g).1) [.int .i64 (gmEnc g).2] := by
 have r := gright_c g hg
 cases hr : gmRight g
 · have e : gmEnc g = ([], 1) := by unfold gmEnc; rw [if_neg (by rw [hr]; exact Bool.false_ne_true)]
   rw [hr] at r
   rw [e]
   unfold GroupMod.enc at *
   refine FnT.intro Tryz.func247 rfl rfl fun G w => ?_
   repeat' (first | apply WK.s | refine WK.cT rfl ?_ | (refine hQ.h _ _ ?_; clear hQ hA) | (refine WK.rH Tryz.ntmps247 (by kernel_rfl) ?_; intro A hA Q hQ; simp [*]) | (refine RunQ.k rfl rfl rfl rfl rfl ?_ (r) ?_ ?_ <;> simp (maxDischargeDepth := 120) [*] <;> refine ⟨?_⟩))
   refine WK.ghost (Ghost.own 2 900 1 rfl rfl) ?_
   refine WK.retT2 Tryz.func247 ?_ ?_ ?_ <;> simp (maxDischargeDepth := 120) [Tryz.results247, b0_]
 obtain ⟨hf, h0⟩ := gmFld hr
 have e : gmEnc g = (gmHead g ++ (bkEnc g.buckets).1, 0) := by unfold gmEnc; rw [if_pos hr]
 have p := bkencP_c g.buckets hg.len hg.acts
 have hEl := bkEnc_len g.buckets
 have hHl := gmHead_len g
 have c := gfields_c [(g.command, 2), (g.kind, 1), (0, 1), (g.id, 4)] (by simp [Sz]) (by simp)
 rw [hf] at c
 rw [h0] at p
 rw [hr] at r
 obtain ⟨E, hE⟩ : ∃ E, (bkEnc g.buckets).1 = E := ⟨_, rfl⟩
 obtain ⟨F, hF⟩ : ∃ F, gmHead g = F := ⟨_, rfl⟩
 rw [hE] at p e hEl
 rw [hF] at c e hHl
 rw [e]
 have hbd : F.length + E.length ≤ 140737488355328 := by omega
 have hfu := by_full E E.length rfl
 simp only [byS, bukS, prL, prE, List.flatMap_cons, List.flatMap_nil, List.append_nil, List.cons_append, List.nil_append, List.length_cons, List.length_nil, Nat.zero_add, Nat.reduceAdd] at p c
 unfold GroupMod.enc at *
 clear hE hF hf hEl hHl hg e hr h0
 refine FnT.intro Tryz.func247 rfl rfl fun G w => ?_
 repeat' (first | apply WK.s | apply WK.k | refine WK.cF rfl ?_ | (refine hQ.h _ _ ?_; clear hQ hA) | (refine WK.rH Tryz.ntmps247 (by kernel_rfl) ?_; intro A hA Q hQ; simp [*]) | (refine RunQ.callO 900 rfl rfl rfl rfl rfl ?_ (c) ?_ ?_ ?_ ?_; (focus (simp (maxDischargeDepth := 120) [*]; done)); (focus (simp [*]; done)); (focus (simp [*]; done)); (focus (simp [*]; done)); refine RunQ.e ?_; simp [*]) | (refine RunQ.append 901 appByte rfl rfl rfl rfl rfl rfl rfl rfl rfl ?_ ?_ ?_ ?_ ?_; (focus (first | omega | (simp [*]; done); done)); (focus (first | omega | (simp [*]; done); done)); (focus (first | omega | (simp [*]; done); done)); (focus (first | omega | (simp [*]; done); done)); refine RunQ.e ?_; simp [*]) | (refine RunQ.k rfl rfl rfl rfl rfl ?_ (r) ?_ ?_ <;> simp (maxDischargeDepth := 120) [*] <;> refine ⟨?_⟩) | (refine RunQ.k rfl rfl rfl rfl rfl ?_ (p) ?_ ?_ <;> simp (maxDischargeDepth := 120) [*] <;> refine ⟨?_⟩) | (refine WK.retT2 Tryz.func247 ?_ ?_ ?_ <;> simp (maxDischargeDepth := 120) [Tryz.results247, byL_app, *]))
theorem getN_one {b : List (BitVec 8)} {p : Nat} (h : p < b.length) : getN b p 1 = (bI (nth b p), 0) := by
 unfold getN
 rw [if_pos (by omega)]
 have : (b.drop p).take 1 = [nth b p] := by
   rw [nth_eq h, List.drop_eq_getElem_cons h]; rfl
 rw [this]
 simp [valN, bI]
set_option maxHeartbeats 4000000 in
theorem gdec_c (b : List (BitVec 8)) (hb : b.length ≤ 1000000) : FnP Tryz.prog 70 [byS b] (.tup [.agg (gmDec b).1.enc, .agg (gF (gmDec b).2)]) := by
 have b16 := gbad_c 1 6
 have b611 := gbad_c 6 11
 have b610 := gbad_c 6 10
 by_cases c0 : b.length < 8
 · have e : gmDec b = (gm0, some (1, 6)) := by unfold gmDec; rw [if_pos (.inl c0)]
   have c0' : (b.length : Int) < 8 := by omega
   rw [e]
   unfold byS
   clear b611 b610
   refine FnP.i Tryz.func70 rfl rfl fun G w => ?_
   repeat' (first | apply WK.s | refine WK.cT rfl ?_ | (refine hQ.h _ _ ?_; clear hQ hA) | (refine WK.rH Tryz.ntmps70 (by kernel_rfl) ?_; intro A hA Q hQ; simp [gF, gm0, GroupMod.enc, *]) | (refine RunQ.g rfl (by rw [hA.h]; rfl) ?_; simp [gF, gm0, GroupMod.enc, *]) | (refine RunQ.k rfl rfl rfl rfl rfl ?_ (b16) ?_ ?_ <;> simp (maxDischargeDepth := 120) [gF, gm0, GroupMod.enc, *] <;> refine ⟨?_⟩) | (refine WK.t Tryz.func70 ?_ ?_ <;> simp (maxDischargeDepth := 120) [Tryz.results70, gF, gm0, GroupMod.enc, *]))
 have c0' : ¬ (b.length : Int) < 8 := by omega
 have x3 := by_get b 3 (by omega)
 have y3 := bI_zero (nth b 3)
 have u3 : (3 : Int) < b.length := by omega
 have v3 : 3 < b.length := by omega
 have hdef : gmDec b = if (nth b 3 == 0#8) = false then (gm0, some (1, 6)) else if gmIn (getN b 0 2).1 2 = false then (gm0, some (6, 11))
   else if gmIn (getN b 2 1).1 3 = false then (gm0, some (6, 10))
   else match (bkDec (b.drop 8)).2 with
     | some c => (gm0, some c)
     | none => (⟨(getN b 0 2).1, (getN b 2 1).1, (getN b 4 4).1, (bkDec (b.drop 8)).1⟩, none) := by
   unfold gmDec
   rw [getN_one v3]
   by_cases h : (nth b 3 == 0#8) = false
   · rw [if_pos h, if_pos (.inr (by rw [← y3] at h; simpa using h))]
   · rw [if_neg h, if_neg (by rintro (h' | h'); exact c0 h'; rw [Bool.not_eq_false] at h; rw [h] at y3; exact h' (by simpa using y3))]; rfl
 have g0 := nget_c b 0 2 Sz2 (by omega) (by omega)
 have g1 := nget_c b 2 1 Sz1 (by omega) (by omega)
 have g2 := nget_c b 4 4 Sz4 (by omega) (by omega)
 obtain ⟨k3, hk3⟩ : ∃ k, nth b 3 = k := ⟨_, rfl⟩
 rw [hk3] at x3 y3 hdef
 obtain ⟨z3, hz3⟩ : ∃ k, (k3 == 0#8) = k := ⟨_, rfl⟩
 rw [hz3] at y3 hdef
 obtain ⟨q0, hq0⟩ : ∃ q, getN b 0 2 = q := ⟨_, rfl⟩
 obtain ⟨q1, hq1⟩ : ∃ q, getN b 2 1 = q := ⟨_, rfl⟩
 obtain ⟨q2, hq2⟩ : ∃ q, getN b 4 4 = q := ⟨_, rfl⟩
 rw [hq0] at g0 hdef
 rw [hq1] at g1 hdef
 rw [hq2] at g2 hdef
 have w1 := gwithin_c q0.1 2
 have w2 := gwithin_c q1.1 3
 have d := bkdecP_c (b.drop 8) (by rw [List.length_drop]; omega)
 have hs : ((byL b).drop 8).take (b.length - 8) = byL (b.drop 8) := by rw [byL_drop]; exact by_full _ _ (by rw [List.length_drop])
 have u8 : (8 : Int) ≤ b.length := by omega
 simp only [byS, bukS, List.length_drop] at d g0 g1 g2 ⊢
 obtain ⟨S, hS⟩ : ∃ S, b.drop 8 = S := ⟨_, rfl⟩
 rw [hS] at hs d hdef
 clear hk3 hz3 hq0 hq1 hq2 hS
 cases z3
 · rw [if_pos rfl] at hdef
   rw [hdef]
   clear d w1 w2 g0 g1 g2 hs
   refine FnP.i Tryz.func70 rfl rfl fun G w => ?_
   repeat' (first | apply WK.s | refine WK.cT rfl ?_ | (refine hQ.h _ _ ?_; clear hQ hA) | (refine WK.rH Tryz.ntmps70 (by kernel_rfl) ?_; intro A hA Q hQ; simp [gF, gm0, GroupMod.enc, bne, *]) | (refine RunQ.g rfl (by rw [hA.h]; rfl) ?_; simp [gF, gm0, GroupMod.enc, bne, *]) | (refine RunQ.k rfl rfl rfl rfl rfl ?_ (b16) ?_ ?_ <;> simp (maxDischargeDepth := 120) [gF, gm0, GroupMod.enc, bne, *] <;> refine ⟨?_⟩) | (refine WK.t Tryz.func70 ?_ ?_ <;> simp (maxDischargeDepth := 120) [Tryz.results70, gF, gm0, GroupMod.enc, bne, *]))
 rw [if_neg (by simp)] at hdef
 obtain ⟨i1, hi1⟩ : ∃ i, gmIn q0.1 2 = i := ⟨_, rfl⟩
 rw [hi1] at w1 hdef
 cases i1
 · rw [if_pos rfl] at hdef
   rw [hdef]
   clear d w2 hs
   refine FnP.i Tryz.func70 rfl rfl fun G w => ?_
   repeat' (first | apply WK.s | apply WK.k | refine WK.cT rfl ?_ | refine WK.cF rfl ?_ | (refine hQ.h _ _ ?_; clear hQ hA) | (refine WK.rH Tryz.ntmps70 (by kernel_rfl) ?_; intro A hA Q hQ; simp [gF, gm0, GroupMod.enc, bne, *]) | (refine RunQ.g rfl (by rw [hA.h]; rfl) ?_; simp [gF, gm0, GroupMod.enc, bne, *]) | (refine RunQ.k rfl rfl rfl rfl rfl ?_ (g0) ?_ ?_ <;> simp (maxDischargeDepth := 120) [gF, gm0, GroupMod.enc, bne, *] <;> refine ⟨?_⟩) | (refine RunQ.k rfl rfl rfl rfl rfl ?_ (g1) ?_ ?_ <;> simp (maxDischargeDepth := 120) [gF, gm0, GroupMod.enc, bne, *] <;> refine ⟨?_⟩) | (refine RunQ.k rfl rfl rfl rfl rfl ?_ (g2) ?_ ?_ <;> simp (maxDischargeDepth := 120) [gF, gm0, GroupMod.enc, bne, *] <;> refine ⟨?_⟩) | (refine RunQ.k rfl rfl rfl rfl rfl ?_ (w1) ?_ ?_ <;> simp (maxDischargeDepth := 120) [gF, gm0, GroupMod.enc, bne, *] <;> refine ⟨?_⟩) | (refine RunQ.k rfl rfl rfl rfl rfl ?_ (b611) ?_ ?_ <;> simp (maxDischargeDepth := 120) [gF, gm0, GroupMod.enc, bne, *] <;> refine ⟨?_⟩) | (refine WK.t Tryz.func70 ?_ ?_ <;> simp (maxDischargeDepth := 120) [Tryz.results70, gF, gm0, GroupMod.enc, bne, *]))
 rw [if_neg (by simp)] at hdef
 obtain ⟨i2, hi2⟩ : ∃ i, gmIn q1.1 3 = i := ⟨_, rfl⟩
 rw [hi2] at w2 hdef
 cases i2
 · rw [if_pos rfl] at hdef
   rw [hdef]
   clear d hs
   refine FnP.i Tryz.func70 rfl rfl fun G w => ?_
   repeat' (first | apply WK.s | apply WK.k | refine WK.cT rfl ?_ | refine WK.cF rfl ?_ | (refine hQ.h _ _ ?_; clear hQ hA) | (refine WK.rH Tryz.ntmps70 (by kernel_rfl) ?_; intro A hA Q hQ; simp [gF, gm0, GroupMod.enc, bne, *]) | (refine RunQ.g rfl (by rw [hA.h]; rfl) ?_; simp [gF, gm0, GroupMod.enc, bne, *]) | (refine RunQ.k rfl rfl rfl rfl rfl ?_ (g0) ?_ ?_ <;> simp (maxDischargeDepth := 120) [gF, gm0, GroupMod.enc, bne, *] <;> refine ⟨?_⟩) | (refine RunQ.k rfl rfl rfl rfl rfl ?_ (g1) ?_ ?_ <;> simp (maxDischargeDepth := 120) [gF, gm0, GroupMod.enc, bne, *] <;> refine ⟨?_⟩) | (refine RunQ.k rfl rfl rfl rfl rfl ?_ (g2) ?_ ?_ <;> simp (maxDischargeDepth := 120) [gF, gm0, GroupMod.enc, bne, *] <;> refine ⟨?_⟩) | (refine RunQ.k rfl rfl rfl rfl rfl ?_ (w1) ?_ ?_ <;> simp (maxDischargeDepth := 120) [gF, gm0, GroupMod.enc, bne, *] <;> refine ⟨?_⟩) | (refine RunQ.k rfl rfl rfl rfl rfl ?_ (w2) ?_ ?_ <;> simp (maxDischargeDepth := 120) [gF, gm0, GroupMod.enc, bne, *] <;> refine ⟨?_⟩) | (refine RunQ.k rfl rfl rfl rfl rfl ?_ (b610) ?_ ?_ <;> simp (maxDischargeDepth := 120) [gF, gm0, GroupMod.enc, bne, *] <;> refine ⟨?_⟩) | (refine WK.t Tryz.func70 ?_ ?_ <;> simp (maxDischargeDepth := 120) [Tryz.results70, gF, gm0, GroupMod.enc, bne, *]))
 rw [if_neg (by simp)] at hdef
 obtain ⟨R, hR⟩ : ∃ R, bkDec S = R := ⟨_, rfl⟩
 rw [hR] at d hdef
 obtain ⟨l, f⟩ := R
 rw [hdef]
 clear hdef hR hi1 hi2
 refine FnP.i Tryz.func70 rfl rfl fun G w => ?_
 cases f <;>
 · repeat' (first | apply WK.s | apply WK.k | refine WK.cT rfl ?_ | refine WK.cF rfl ?_ | (refine hQ.h _ _ ?_; clear hQ hA) | (refine WK.rH Tryz.ntmps70 (by kernel_rfl) ?_; intro A hA Q hQ; simp [gF, gm0, GroupMod.enc, bne, *]) | (refine WK.rX (by kernel_rfl) Tryz.ntmps70 (by kernel_rfl) ?_; intro A hA Q hQ; simp [gF, gm0, GroupMod.enc, bne, *]) | (refine hQ.h _ _ _ (by decide +kernel) ?_; clear hQ hA) | (refine RunQ.g rfl (by rw [hA.h]; rfl) ?_; simp [gF, gm0, GroupMod.enc, bne, *]) | (refine RunQ.k rfl rfl rfl rfl rfl ?_ (g0) ?_ ?_ <;> simp (maxDischargeDepth := 120) [gF, gm0, GroupMod.enc, bne, *] <;> refine ⟨?_⟩) | (refine RunQ.k rfl rfl rfl rfl rfl ?_ (g1) ?_ ?_ <;> simp (maxDischargeDepth := 120) [gF, gm0, GroupMod.enc, bne, *] <;> refine ⟨?_⟩) | (refine RunQ.k rfl rfl rfl rfl rfl ?_ (g2) ?_ ?_ <;> simp (maxDischargeDepth := 120) [gF, gm0, GroupMod.enc, bne, *] <;> refine ⟨?_⟩) | (refine RunQ.k rfl rfl rfl rfl rfl ?_ (w1) ?_ ?_ <;> simp (maxDischargeDepth := 120) [gF, gm0, GroupMod.enc, bne, *] <;> refine ⟨?_⟩) | (refine RunQ.k rfl rfl rfl rfl rfl ?_ (w2) ?_ ?_ <;> simp (maxDischargeDepth := 120) [gF, gm0, GroupMod.enc, bne, *] <;> refine ⟨?_⟩) | (refine RunQ.k rfl rfl rfl rfl rfl ?_ (d) ?_ ?_ <;> simp (maxDischargeDepth := 120) [gF, gm0, GroupMod.enc, bne, *] <;> refine ⟨?_⟩) | (refine WK.t Tryz.func70 ?_ ?_ <;> simp (maxDischargeDepth := 120) [Tryz.results70, gF, gm0, GroupMod.enc, bne, *]))

def GroupMod.same (a b : GroupMod) : Bool := (a.command == b.command && (a.kind == b.kind && a.id == b.id)) && eqBy Bucket.same a.buckets b.buckets
theorem gsame_c (a b : GroupMod) (ha : GmFit a) : FnP Tryz.prog 33 [.agg a.enc, .agg b.enc] (.bool (GroupMod.same a b)) := by
 have hsa := bsameL_c a.buckets b.buckets ha.len ha.acts
 have e : GroupMod.same a b = ((a.command == b.command && (a.kind == b.kind && a.id == b.id)) && eqBy Bucket.same a.buckets b.buckets) := rfl
 obtain ⟨s, hs⟩ : ∃ s, eqBy Bucket.same a.buckets b.buckets = s := ⟨_, rfl⟩
 rw [hs] at hsa e
 unfold bukS at hsa
 refine FnP.i Tryz.func33 rfl rfl fun G w => ?_
 repeat' (first | apply WK.s | (refine hQ.h _ _ ?_; clear hQ hA) | (refine Fork.mk (fun h => ?_) (fun h => ?_) <;> (first | (simp [*] at h; done) | (have h2 := h; simp at h2; exfalso; omega) | (have h2 := h; simp at h2; try simp only [Bool.not_eq_true', Bool.not_eq_false'] at h) | skip)) | (refine WK.rH Tryz.ntmps33 (by kernel_rfl) ?_; intro A hA Q hQ; simp [GroupMod.enc, *]) | (refine RunQ.g rfl (by rw [hA.h]; rfl) ?_; simp [GroupMod.enc, *]) | (refine RunQW.k rfl rfl rfl rfl ?_ (hsa) ?_ ?_ <;> simp (maxDischargeDepth := 120) [GroupMod.enc, *] <;> refine ⟨?_⟩) | (refine WK.t Tryz.func33 ?_ ?_ <;> simp (maxDischargeDepth := 120) [Tryz.results33, GroupMod.enc, *]))
theorem gencP_c (g : GroupMod) (hg : GmFit g) : FnP Tryz.prog 247 [.agg g.enc] (.tup [byS (gmEnc g).1, .int .i64 (gmEnc g).2]) := by
 have h := (genc_c g hg).toP (by simp [byL_take]) (by rfl)
 rwa [Nat.mul_one, by_full _ _ rfl] at h
theorem gmEnc_len (g : GroupMod) : (gmEnc g).1.length ≤ 60008 := by
 unfold gmEnc
 split
 · have := gmHead_len g
   have := bkEnc_len g.buckets
   simp only [List.length_append]; omega
 · simp
theorem gmDec_fit {b : List (BitVec 8)} {g : GroupMod} {c : Option (Int × Int)} (hb : b.length ≤ 1000000) (h : gmDec b = (g, c)) : GmFit g := by
 have z : GmFit gm0 := ⟨by simp [gm0], by simp [gm0]⟩
 unfold gmDec at h
 split at h
 · cases h; exact z
 split at h
 · cases h; exact z
 split at h
 · cases h; exact z
 split at h
 · cases h; exact z
 · obtain ⟨R, hR⟩ : ∃ R, bkDec (b.drop 8) = R := ⟨_, rfl⟩
   obtain ⟨l, f⟩ := R
   have hk := bkDec_small hR
   rw [hR] at h
   cases h
   exact ⟨by simp only; omega, fun x hx => by have := hk.2 x hx; rw [List.length_drop] at this; omega⟩
end Go.Proofs.YtcccfbjkcahgfaaGreat

namespace Go.Proofs.YtcccfbjkcahgfaaGreat
open Go Go.AI Go.Proofs
theorem inDone_five {b : List (BitVec 8)} {l : List Inst} (d : InDone b l) : l.length ≤ 5 := by
 have h2 : ∀ x, x ∈ inKinds l → x ∈ [(1 : Int), 2, 3, 4, 5] := fun x hx => by
   unfold inKinds at hx
   obtain ⟨y, hy, rfl⟩ := List.mem_map.1 hx
   have := inKind_of (inRight_facts (d.right y hy).1).1
   simp; omega
 have h3 := nodup_len _ _ d.once h2
 unfold inKinds at h3
 rw [List.length_map] at h3
 simpa using h3
structure Flt where
 is : Bool
 kind : Int
 code : Int
 deriving DecidableEq, Inhabited
def Flt.enc (f : Flt) : List AV := [.bool f.is, .int .i64 f.kind, .int .i64 f.code]
def flt0 : Flt := ⟨false, 0, 0⟩
structure Msg where
 kind : Int
 xid : Int
 flow : FlowMod
 group : GroupMod
 fault : Flt
 data : List (BitVec 8)
 deriving DecidableEq, Inhabited
def Msg.enc (m : Msg) : List AV := .int .i64 m.kind :: .int .i64 m.xid :: (m.flow.enc ++ (m.group.enc ++ (m.fault.enc ++ [.sl false m.data.length (byL m.data)])))
def msg0 : Msg := ⟨0, 0, flowMod0, gm0, flt0, []⟩
def frHead (k x : Int) (b : List (BitVec 8)) : List (BitVec 8) × Int :=
 if (numOk k 1 && numOk x 4) = true ∧ b.length ≤ 65527 then (beN 4 1 ++ (beN k 1 ++ (beN (8 + b.length : Nat) 2 ++ (beN x 4 ++ b))), 0) else ([], 1)
def mgData (k : Int) : Bool := k == 0 || (k == 2 || k == 3)
def mgBare (m : Msg) : Msg := if mgData m.kind = true then { msg0 with kind := m.kind, xid := m.xid, data := m.data } else if m.kind = 1 then { msg0 with kind := m.kind, xid := m.xid, fault := m.fault, data := m.data }
 else if m.kind = 14 then { msg0 with kind := m.kind, xid := m.xid, flow := m.flow } else if m.kind = 15 then { msg0 with kind := m.kind, xid := m.xid, group := m.group } else { msg0 with kind := m.kind, xid := m.xid }
def mgBody (m : Msg) : List (BitVec 8) := if mgData m.kind = true then m.data else if m.kind = 1 then putN (putN [] m.fault.kind 2) m.fault.code 2 ++ m.data else if m.kind = 14 then (fmEnc m.flow).1 else (gmEnc m.group).1
def mgOk (m : Msg) : Bool := if mgData m.kind = true then decide (m.data.length ≤ 60000) else if m.kind = 1 then m.fault.is && (numOk m.fault.kind 2 && (numOk m.fault.code 2 && decide (m.data.length ≤ 60000))) else if m.kind = 14 then fmRight m.flow else if m.kind = 15 then gmRight m.group else false
def FlowMod.same (a b : FlowMod) : Bool := (fmNums a == fmNums b) && (a.cookie == b.cookie && (a.cookieMask == b.cookieMask && (eqBy (fun x y : Oxm => x == y) a.mat b.mat && eqBy Inst.same a.insts b.insts)))
def Msg.same (a b : Msg) : Bool := a.kind == b.kind && (a.xid == b.xid && (a.fault == b.fault && (a.data == b.data && (FlowMod.same a.flow b.flow && GroupMod.same a.group b.group))))
def mgRight (m : Msg) : Bool := mgOk m && (numOk m.xid 4 && Msg.same m (mgBare m))
def mgEnc (m : Msg) : List (BitVec 8) × Int := if mgRight m = true then frHead m.kind m.xid (mgBody m) else ([], 1)
theorem eqBy_eq {α : Type} [Inhabited α] {p : α → α → Bool} (hp : ∀ x y, p x y = true ↔ x = y) {l m : List α} : eqBy p l m = true ↔ l = m := by
 constructor
 · intro h
   unfold eqBy at h
   rw [Bool.and_eq_true, beq_iff_eq, List.all_eq_true] at h
   refine List.ext_getElem h.1 fun i h1 h2 => ?_
   have := (hp _ _).1 (h.2 i (by simpa using h1))
   rwa [nth_eq h1, nth_eq h2] at this
 · intro h; subst h; exact eqBy_refl (fun x => (hp x x).2 rfl) l
theorem bkSame_iff (a b : Bucket) : Bucket.same a b = true ↔ a = b := by
 obtain ⟨w, x, y, z⟩ := a
 obtain ⟨w', x', y', z'⟩ := b
 unfold Bucket.same
 simp only [Bool.and_eq_true, beq_iff_eq, Bucket.mk.injEq]
 rw [show (eqBy (fun x1 x2 => x1 == x2) z z' = true) ↔ z = z' from eqBy_iff]
theorem gmSame_iff (a b : GroupMod) : GroupMod.same a b = true ↔ a = b := by
 obtain ⟨w, x, y, z⟩ := a
 obtain ⟨w', x', y', z'⟩ := b
 unfold GroupMod.same
 simp only [Bool.and_eq_true, beq_iff_eq, GroupMod.mk.injEq]
 rw [eqBy_eq bkSame_iff, and_assoc, and_assoc]
theorem fmSame_iff (a b : FlowMod) : FlowMod.same a b = true ↔ a = b := by
 obtain ⟨c, k, a1, a2, a3, a4, a5, a6, a7, a8, a9, l, i⟩ := a
 obtain ⟨c', k', b1, b2, b3, b4, b5, b6, b7, b8, b9, l', i'⟩ := b
 unfold FlowMod.same fmNums
 simp only [Bool.and_eq_true, beq_iff_eq, FlowMod.mk.injEq, List.cons.injEq, and_true]
 rw [eqBy_eq (fun x y : Oxm => beq_iff_eq), eqBy_eq (fun x y => instSame_iff)]
 constructor
 · rintro ⟨⟨h1, h2, h3, h4, h5, h6, h7, h8, h9⟩, h10, h11, h12, h13⟩
   exact ⟨h10, h11, h1, h2, h3, h4, h5, h6, h7, h8, h9, h12, h13⟩
 · rintro ⟨h10, h11, h1, h2, h3, h4, h5, h6, h7, h8, h9, h12, h13⟩
   exact ⟨⟨h1, h2, h3, h4, h5, h6, h7, h8, h9⟩, h10, h11, h12, h13⟩
theorem mgSame_iff (a b : Msg) : Msg.same a b = true ↔ a = b := by
 obtain ⟨k, x, f, g, e, d⟩ := a
 obtain ⟨k', x', f', g', e', d'⟩ := b
 unfold Msg.same
 simp only [Bool.and_eq_true, beq_iff_eq, Msg.mk.injEq, fmSame_iff, gmSame_iff]
 constructor
 · rintro ⟨h1, h2, h3, h4, h5, h6⟩; exact ⟨h1, h2, h5, h6, h3, h4⟩
 · rintro ⟨h1, h2, h5, h6, h3, h4⟩; exact ⟨h1, h2, h3, h4, h5, h6⟩
theorem mgSame_self (a : Msg) : Msg.same a a = true := (mgSame_iff a a).2 rfl
def mgFill (k x : Int) (b : List (BitVec 8)) : Msg × Option (Int × Int) :=
 if mgData k = true then (if 60000 < b.length then (msg0, some (1, 6)) else ({ msg0 with kind := k, xid := x, data := b }, none))
 else if k = 1 then (if b.length < 4 then (msg0, some (1, 6)) else if 60000 < b.length - 4 then (msg0, some (1, 6)) else ({ msg0 with kind := k, xid := x, fault := ⟨true, (getN b 0 2).1, (getN b 2 2).1⟩, data := b.drop 4 }, none))
 else if k = 14 then (match (fmDec b).2 with | some c => (msg0, some c) | none => ({ msg0 with kind := k, xid := x, flow := (fmDec b).1 }, none))
 else if k = 15 then (match (gmDec b).2 with | some c => (msg0, some c) | none => ({ msg0 with kind := k, xid := x, group := (gmDec b).1 }, none))
 else (msg0, some (1, 1))
def mgDec (b : List (BitVec 8)) : Msg × Option (Int × Int) :=
 if b.length < 8 then (msg0, some (1, 6)) else if (nth b 0 == 4#8) = false then (msg0, some (1, 0)) else if ¬ valN ((b.drop 2).take 2) = b.length then (msg0, some (1, 6))
 else mgFill (bI (nth b 1)) (getN b 4 4).1 (b.drop 8)
structure MgFit (m : Msg) : Prop where
 ok : mgOk m = true
 xid : numOk m.xid 4 = true
 bare : m = mgBare m
theorem mgRight_facts {m : Msg} (h : mgRight m = true) : MgFit m := by
 unfold mgRight at h
 rw [Bool.and_eq_true, Bool.and_eq_true] at h
 exact ⟨h.1, h.2.1, (mgSame_iff _ _).1 h.2.2⟩
theorem mgKind_of {m : Msg} (h : mgOk m = true) : mgData m.kind = true ∨ m.kind = 1 ∨ m.kind = 14 ∨ m.kind = 15 := by
 unfold mgOk at h
 split at h
 · exact .inl ‹_›
 split at h
 · exact .inr (.inl ‹_›)
 split at h
 · exact .inr (.inr (.inl ‹_›))
 split at h
 · exact .inr (.inr (.inr ‹_›))
 · cases h
theorem mgData_iff {k : Int} : mgData k = true ↔ k = 0 ∨ k = 2 ∨ k = 3 := by unfold mgData; simp
theorem mgBody_len {m : Msg} (h : mgOk m = true) : (mgBody m).length ≤ 61052 := by
 unfold mgOk at h
 unfold mgBody
 split
 · rename_i hk; rw [if_pos hk] at h; have := of_decide_eq_true h; omega
 rename_i hk; rw [if_neg hk] at h
 split
 · rename_i hk; rw [if_pos hk] at h
   simp only [Bool.and_eq_true, decide_eq_true_eq] at h
   have l1 := putN_len [] m.fault.kind 2
   have l2 := putN_len (putN [] m.fault.kind 2) m.fault.code 2
   simp only [List.length_append, List.length_nil] at l1 ⊢
   omega
 split
 · exact fmEnc_len m.flow
 · have := gmEnc_len m.group; omega
theorem mgEnc_bad {m : Msg} (h : mgRight m = false) : mgEnc m = ([], 1) := by unfold mgEnc; rw [if_neg (by rw [h]; exact Bool.false_ne_true)]
theorem zM : (type_of% @Msg.enc.eq_1) ∧ (type_of% @FlowMod.enc.eq_1) ∧ (type_of% @GroupMod.enc.eq_1) ∧ (type_of% @Flt.enc.eq_1) ∧ (type_of% @msg0.eq_1) ∧ (type_of% @flowMod0.eq_1) ∧ (type_of% @gm0.eq_1) ∧ (type_of% @flt0.eq_1) ∧ (type_of% @uZ_) ∧ (type_of% @b0_) ∧ (type_of% @oN_) ∧ (type_of% @iN_) := ⟨Msg.enc.eq_1, FlowMod.enc.eq_1, GroupMod.enc.eq_1, Flt.enc.eq_1, msg0.eq_1, flowMod0.eq_1, gm0.eq_1, flt0.eq_1, uZ_, b0_, oN_, iN_⟩

theorem drop_nth {α : Type} [Inhabited α] {l : List α} {i : Nat} (h : i < l.length) : l.drop i = nth l i :: l.drop (i + 1) := by
 rw [List.drop_eq_getElem_cons h, nth_eq h]
theorem take_nth {α : Type} [Inhabited α] {l : List α} {i : Nat} (h : i < l.length) : l.take (i + 1) = l.take i ++ [nth l i] := by
 rw [List.take_succ_eq_append_getElem h, nth_eq h]
theorem mCheck_at {l : List Oxm} {i : Nat} (h : i < l.length) : mCheckF (l.take i) (l.drop i) =
   if ((l.take i).any fun p => p.field == (nth l i).field) = true then some 10 else if mMet (l.take i) (nth l i).field = false then some 9 else mCheckF (l.take (i + 1)) (l.drop (i + 1)) := by
 rw [drop_nth h, mCheckF, take_nth h]
theorem mCheck_end (l : List Oxm) : mCheckF (l.take l.length) (l.drop l.length) = none := by rw [List.drop_length]; rfl
theorem any_take {α : Type} [Inhabited α] (p : α → Bool) {l : List α} {i : Nat} (h : i < l.length) : (l.take (i + 1)).any p = ((l.take i).any p || p (nth l i)) := by
 rw [take_nth h, List.any_append]; simp
theorem any_take_all {α : Type} (p : α → Bool) (l : List α) : (l.take l.length).any p = l.any p := by rw [List.take_length]
theorem all_false {α : Type} [Inhabited α] {p : α → Bool} {l : List α} {i : Nat} (h : i < l.length) (hp : p (nth l i) = false) : l.all p = false := by
 rw [List.all_eq_false]; exact ⟨nth l i, nth_mem h, by simp [hp]⟩
theorem all_true {α : Type} [Inhabited α] {p : α → Bool} {l : List α} (h : ∀ j, j < l.length → p (nth l j) = true) : l.all p = true := by
 rw [List.all_eq_true]; intro x hx
 obtain ⟨j, hj, rfl⟩ := mem_nth hx
 exact h j hj
theorem any_false' {α : Type} [Inhabited α] {p : α → Bool} {l : List α} (h : ∀ j, j < l.length → p (nth l j) = false) : l.any p = false := by
 rw [List.any_eq_false]; intro x hx
 obtain ⟨j, hj, rfl⟩ := mem_nth hx
 simp [h j hj]
theorem any_true' {α : Type} [Inhabited α] {p : α → Bool} {l : List α} {i : Nat} (h : i < l.length) (hp : p (nth l i) = true) : l.any p = true := by
 rw [List.any_eq_true]; exact ⟨nth l i, nth_mem h, hp⟩
theorem mMet_false {l : List Oxm} {f : Int} {i : Nat} (h : i < (needs f).length) (hp : (l.any fun o => mGives o (nth (needs f) i)) = false) : mMet l f = false := all_false (p := fun n => l.any fun o => mGives o n) h hp
theorem mMet_true {l : List Oxm} {f : Int} (h : ∀ j, j < (needs f).length → (l.any fun o => mGives o (nth (needs f) j)) = true) : mMet l f = true := all_true (p := fun n => l.any fun o => mGives o n) h
theorem needs_small (f : Int) : (needs f).length ≤ 2 ∧ ∀ n, n ∈ needs f → n.values.length ≤ 2 := by
 have h : ∀ L : List Need, L ∈ [[], [⟨5, []⟩], [nEth [0x800#64, 0x86dd#64]], [nEth [0x800#64]], [nEth [0x800#64, 0x86dd#64], nProto 6#64], [nEth [0x800#64, 0x86dd#64], nProto 17#64], [nEth [0x800#64], nProto 1#64], [nEth [0x806#64]], [nEth [0x86dd#64]], [nEth [0x8847#64, 0x8848#64]]] → L.length ≤ 2 ∧ ∀ n, n ∈ L → n.values.length ≤ 2 := by
   intro L hL
   simp only [List.mem_cons, List.not_mem_nil, or_false] at hL
   rcases hL with rfl | rfl | rfl | rfl | rfl | rfl | rfl | rfl | rfl | rfl <;> decide
 refine h _ ?_
 unfold needs
 repeat' split
 all_goals decide
theorem seven_bit : ∀ i : Fin 64, (7#64).getLsbD i.val = decide (i.val < 3) := by decide +kernel
theorem and_not7 (x : BitVec 64) : x &&& ~~~7#64 = (x >>> 3) <<< 3 := by
 refine BitVec.eq_of_getLsbD_eq fun i hi => ?_
 have h7 := seven_bit ⟨i, hi⟩
 simp only at h7
 rw [BitVec.getLsbD_and, BitVec.getLsbD_not, h7, BitVec.getLsbD_shiftLeft, BitVec.getLsbD_ushiftRight]
 by_cases h3 : i < 3
 · simp [h3]
 · have e : 3 + (i - 3) = i := by omega
   simp [h3, hi, e]
theorem bNot7_big (n : Nat) (h : n < 4611686018427387904) : bNot .i64 (n : Int) 7 = ((n / 8 * 8 : Nat) : Int) := by
 unfold bNot
 show IntKind.wrap .i64 (((BitVec.ofInt 64 (n : Int) &&& ~~~(BitVec.ofInt 64 7)).toNat : Nat) : Int) = _
 rw [show BitVec.ofInt 64 (n : Int) = BitVec.ofNat 64 n from by rw [← BitVec.ofInt_natCast], show BitVec.ofInt 64 7 = 7#64 from rfl, and_not7, BitVec.toNat_shiftLeft, BitVec.toNat_ushiftRight, BitVec.toNat_ofNat, Nat.mod_eq_of_lt (by omega),
   Nat.shiftLeft_eq, Nat.shiftRight_eq_div_pow, Nat.mod_eq_of_lt (by omega)]
 exact wrap_i64 (by omega) (by omega)
theorem mPad_bit (n : Nat) (h : n < 1000000000) : bNot .i64 (IntKind.i64.wrap ((n : Int) + 7)) 7 = ((mPad n : Nat) : Int) := by
 rw [wrap_i64 (by omega) (by omega), show (n : Int) + 7 = ((n + 7 : Nat) : Int) by omega, bNot7_big _ (by omega)]; rfl
end Go.Proofs.YtcccfbjkcahgfaaGreat

namespace Go.Proofs.YtcccfbjkcahgfaaGreat
open Go Go.AI Go.Proofs
attribute [local irreducible] FnP FnO FnB FnT FnSeq WK RunQ RunQW RunX RunXW
def wdL (l : List Wide) : List AV := l.flatMap Wide.enc
def wdS (l : List Wide) : AV := .sl false l.length (wdL l)
@[simp] theorem wdL_len (l : List Wide) : (wdL l).length = l.length * 2 := fm_length Wide.len l
@[simp] theorem wdL_cl (l : List Wide) : ClL (wdL l) = true := ClL_flatMap _ Wide.cl l
theorem wd_load (l : List Wide) (i : Nat) (h : i < l.length) : ((wdL l).drop (i * 2)).take 2 = (nth l i).enc ∧ 2 ≤ l.length * 2 - i * 2 := ⟨fm_nth Wide.len l i h, by omega⟩
@[simp] theorem wdS_cl (l : List Wide) : Cl (wdS l) = true := by simp [wdS, Cl]
@[simp] theorem wdL_nil : wdL [] = [] := rfl
theorem wdL_snoc (l : List Wide) (x : Wide) : wdL l ++ x.enc = wdL (l ++ [x]) := by unfold wdL; rw [List.flatMap_append]; simp
def Need.enc (n : Need) : List AV := [.int .i64 n.field, .sl false n.values.length (wdL n.values)]
@[simp] theorem Need.len (n : Need) : n.enc.length = 2 := rfl
@[simp] theorem Need.cl (n : Need) : ClL n.enc = true := by simp [Need.enc, ClL, Cl]
def needL (l : List Need) : List AV := l.flatMap Need.enc
def needS (l : List Need) : AV := .sl false l.length (needL l)
@[simp] theorem needL_len (l : List Need) : (needL l).length = l.length * 2 := fm_length Need.len l
@[simp] theorem needL_cl (l : List Need) : ClL (needL l) = true := ClL_flatMap _ Need.cl l
theorem need_sub (l : List Need) (i : Nat) (h : i < l.length) : ((needL l).drop (i * 2)).take 2 = (nth l i).enc := fm_nth Need.len l i h
theorem need_load (l : List Need) (i : Nat) (h : i < l.length) : ((needL l).drop (i * 2)).take 2 = (nth l i).enc ∧ 2 ≤ l.length * 2 - i * 2 := ⟨need_sub l i h, by omega⟩
@[simp] theorem needS_cl (l : List Need) : Cl (needS l) = true := by simp [needS, Cl]
@[simp] theorem needL_take (l : List Need) : (needL l).take (l.length * 2) = needL l := List.take_of_length_le (by simp)
@[simp] theorem needL_nil : needL [] = [] := rfl
@[simp] theorem Need.take (x : Need) : x.enc.take 2 = x.enc := rfl
@[simp] theorem Need.drop (x : Need) : x.enc.drop 2 = [] := rfl
def u64L (l : List (BitVec 64)) : List AV := l.map fun x => .int .u64 (uI x)
@[simp] theorem u64L_len (l : List (BitVec 64)) : (u64L l).length = l.length := by simp [u64L]
@[simp] theorem u64L_cl (l : List (BitVec 64)) : ClL (u64L l) = true := ClL_map _ (fun x => rfl) l
theorem u64_get (l : List (BitVec 64)) (i : Nat) (h : i < l.length) (h' : i < (u64L l).length) : (u64L l)[i] = .int .u64 (uI (nth l i)) := by
 unfold u64L at h' ⊢; rw [List.getElem_map, nth_eq h]
theorem app_wd : AppOk Tryz.prog 167 96 2 16 := ⟨by simp, by simp, by simp, by simp, by simp, by simp, by omega, by omega⟩
theorem app_need : AppOk Tryz.prog 165 169 2 32 := ⟨by simp, by simp, by simp, by simp, by simp, by simp, by omega, by omega⟩
theorem w64_take {l : List (BitVec 64)} {i : Nat} (h : i < l.length) : wdL ((l.map w64).take i) ++ [.int .u64 0, .int .u64 (uI (nth l i))] = wdL ((l.map w64).take (i + 1)) := by
 rw [← List.map_take, ← List.map_take, take_nth h, List.map_append, ← uZ_]
 exact wdL_snoc _ (w64 (nth l i))
theorem fis_c (f : Int) (l : List (BitVec 64)) (hl : l.length ≤ 1000) : FnP Tryz.prog 197 [.int .i64 f, .sl false l.length (u64L l)] (.agg (Need.enc ⟨f, l.map w64⟩)) := by
 refine FnP.i Tryz.func197 rfl rfl fun G w => ?_
 repeat' (first | apply WK.s | apply WK.b | (refine hQ.h _ _ ?_; clear hQ hA) | (refine WK.rH Tryz.ntmps197 (by kernel_rfl) ?_; intro A hA Q hQ; simp [*]))
 refine WK.ghost (Ghost.ownVar 102 1 900 2 rfl rfl rfl) ?_
 refine WK.lI (fun n => if n = 1 then 102 else if n = 2 then 900 else n) (fun i : Nat => (⟨(upd (upd (upd (upd (upd J 4 (.ptr 0 0)) 5 (.ptr 1 0)) 10 (.sl false l.length (u64L l))) 11 (.int .i64 l.length)) 12 (.int .i64 i)), (upd (upd (upd B0 0 (.var [.junk, .junk])) 1 (.var [.int .i64 f, .msl 2 0 i])) 2 (.buf 2 (wdL ((l.map w64).take i)))), 0⟩ : St)) (fun i => i ≤ l.length) (fun i => l.length - i) (0) (by repeat (first | exact TmW.nil | refine TmW.upd ?_ (by simp (maxDischargeDepth := 120) [wdL]))) (by repeat (first | exact BxW.nil | refine BxW.upd ?_ (by simp (maxDischargeDepth := 120) [wdL]))) (by first | exact InjW.id | exact InjW.nil | exact InjW.one | exact InjW.two (by simp) | exact InjW.three (by simp) (by simp) (by simp)) (Nat.zero_le _) (fun i hi IH => ?_)
 by_cases h1 : i < l.length
 · have h4 := u64_get l i h1
   have h6 : IntKind.i64.wrap ((i : Int) + 1) = i + 1 := wrap_i64 (by omega) (by omega)
   have hb : (i + 1) * 16 ≤ 140737488355328 := by omega
   have h3 : ((l.map w64).take i).length = i := by rw [List.length_take, List.length_map]; omega
   have hs := w64_take h1
   repeat' (first | apply WK.s | apply WK.b | apply WK.n | apply WK.k | refine WK.cT rfl ?_ | (refine hQ.h _ _ ?_; clear hQ hA) | (refine WK.rH Tryz.ntmps197 (by kernel_rfl) ?_; intro A hA Q hQ; simp [*]) | (refine RunQ.append 901 app_wd rfl rfl rfl rfl rfl rfl rfl rfl rfl ?_ ?_ ?_ ?_ ?_; (focus (first | omega | (simp [*]; done); done)); (focus (first | omega | (simp [*]; done); done)); (focus (first | omega | (simp [*]; done); done)); (focus (first | omega | (simp [*]; done); done)); refine RunQ.e ?_; simp [*]))
   refine WK.next (fun n => if n = 2 then 901 else n) (IH (i + 1) (by omega) (by first | omega | (dsimp only; omega))) (by repeat (first | exact TmW.nil | refine TmW.upd ?_ (by simp (maxDischargeDepth := 120) [hs]))) (by repeat (first | exact BxW.nil | refine BxW.upd ?_ (by simp (maxDischargeDepth := 120) [hs]))) (by first | exact InjW.id | exact InjW.nil | exact InjW.one | exact InjW.two (by simp) | exact InjW.three (by simp) (by simp) (by simp))
 · have hT : (l.map w64).take i = l.map w64 := List.take_of_length_le (by rw [List.length_map]; omega)
   have hi' : i = l.length := by omega
   have hT2 : (wdL (l.map w64)).take (l.length * 2) = wdL (l.map w64) := List.take_of_length_le (by simp)
   rw [hT]
   repeat' (first | apply WK.s | refine WK.exit rfl ?_ | refine WK.cF rfl ?_ | (refine hQ.h _ _ ?_; clear hQ hA) | (refine WK.rH Tryz.ntmps197 (by kernel_rfl) ?_; intro A hA Q hQ; simp [*]))
   refine WK.ghost (Ghost.frzCell 0 1 2 _ 2 rfl rfl rfl (by decide)) ?_
   repeat' (first | (refine WK.t Tryz.func197 ?_ ?_ <;> simp (maxDischargeDepth := 120) [Tryz.results197, Need.enc, *]))
theorem fether_c (t p : List (BitVec 64)) (ht : t.length ≤ 1000) (hp : p.length ≤ 1000) : FnP Tryz.prog 198 [.sl false t.length (u64L t), .sl false p.length (u64L p)] (needS (nEth t :: if p.length = 0 then [] else [⟨9, p.map w64⟩])) := by
 have c1 := fis_c 4 t ht
 have c2 := fis_c 9 p hp
 unfold needS
 by_cases h : p.length = 0
 · have h' : ¬ (0 : Int) < p.length := by omega
   rw [if_pos h]
   refine FnP.i Tryz.func198 rfl rfl fun G w => ?_
   repeat' (first | apply WK.s | apply WK.k | refine WK.cF rfl ?_ | (refine hQ.h _ _ ?_; clear hQ hA) | (refine WK.rH Tryz.ntmps198 (by kernel_rfl) ?_; intro A hA Q hQ; simp [needL, nEth, Need.enc, *]) | (refine RunQ.k rfl rfl rfl rfl rfl ?_ (c1) ?_ ?_ <;> simp (maxDischargeDepth := 120) [needL, nEth, Need.enc, *] <;> refine ⟨?_⟩) | (refine WK.t Tryz.func198 ?_ ?_ <;> simp (maxDischargeDepth := 120) [Tryz.results198, needL, nEth, Need.enc, *]))
 · have h' : (0 : Int) < p.length := by omega
   have h2 : 0 < p.length := by omega
   rw [if_neg h]
   have hb : (1 + 1) * 32 ≤ 140737488355328 := by omega
   refine FnP.i Tryz.func198 rfl rfl fun G w => ?_
   repeat' (first | apply WK.s | refine WK.cT rfl ?_ | (refine hQ.h _ _ ?_; clear hQ hA) | (refine WK.rH Tryz.ntmps198 (by kernel_rfl) ?_; intro A hA Q hQ; simp [Need.enc, *]) | (refine RunQ.appendF 900 app_need rfl rfl rfl rfl rfl rfl rfl rfl ?_ ?_ ?_ ?_ ?_ ?_ ?_; (focus (first | omega | (simp [Need.enc, *]; done); done)); (focus (first | omega | (simp [Need.enc, *]; done); done)); (focus (first | omega | (simp [Need.enc, *]; done); done)); (focus (first | omega | (simp [Need.enc, *]; done); done)); (focus (first | omega | (simp [Need.enc, *]; done); done)); (focus (simp [Need.enc, *]; done)); refine RunQ.e ?_; simp [Need.enc, *]) | (refine RunQ.k rfl rfl rfl rfl rfl ?_ (c1) ?_ ?_ <;> simp (maxDischargeDepth := 120) [Need.enc, *] <;> refine ⟨?_⟩) | (refine RunQ.k rfl rfl rfl rfl rfl ?_ (c2) ?_ ?_ <;> simp (maxDischargeDepth := 120) [Need.enc, *] <;> refine ⟨?_⟩))
   refine WK.ghost (Ghost.frzSl 4 2 rfl rfl) ?_
   repeat' (first | (refine WK.t Tryz.func198 ?_ ?_ <;> simp (maxDischargeDepth := 120) [Tryz.results198, needL, nEth, Need.enc, *]))
theorem u64_one (a : BitVec 64) : u64L [a] = [.int .u64 (uI a)] := rfl
theorem u64_two (a b : BitVec 64) : u64L [a, b] = [.int .u64 (uI a), .int .u64 (uI b)] := rfl
theorem u64_nil : u64L [] = [] := rfl
theorem fneeds_c (f : Int) : FnP Tryz.prog 190 [.int .i64 f] (needS (needs f)) := by
 have c0 := fis_c 5 [] (by decide)
 have e1 := fether_c [0x800#64, 0x86dd#64] [] (by decide) (by decide)
 have e2 := fether_c [0x800#64] [] (by decide) (by decide)
 have e3 := fether_c [0x800#64, 0x86dd#64] [6#64] (by decide) (by decide)
 have e4 := fether_c [0x800#64, 0x86dd#64] [17#64] (by decide) (by decide)
 have e5 := fether_c [0x800#64] [1#64] (by decide) (by decide)
 have e6 := fether_c [0x806#64] [] (by decide) (by decide)
 have e7 := fether_c [0x86dd#64] [] (by decide) (by decide)
 have e8 := fether_c [0x8847#64, 0x8848#64] [] (by decide) (by decide)
 unfold needS at *
 rw [u64_nil] at c0 e1 e2 e6 e7 e8
 simp only [u64_one, u64_two, List.length_cons, List.length_nil, Nat.zero_add, Nat.reduceAdd, if_true, Nat.one_ne_zero, if_false, show uI 0x800#64 = 2048 from rfl, show uI 0x86dd#64 = 34525 from rfl, show uI 6#64 = 6 from rfl, show uI 17#64 = 17 from rfl, show uI 1#64 = 1 from rfl, show uI 0x806#64 = 2054 from rfl, show uI 0x8847#64 = 34887 from rfl, show uI 0x8848#64 = 34888 from rfl] at *
 by_cases h : f = 6 ∨ f = 7 ∨ f = 8 ∨ f = 9 ∨ f = 10 ∨ f = 11 ∨ f = 12 ∨ f = 13 ∨ f = 14 ∨ f = 15 ∨ f = 16 ∨ f = 17 ∨ f = 18 ∨ f = 19 ∨ f = 20 ∨ f = 21 ∨ f = 22 ∨ f = 23
 · rcases h with rfl | rfl | rfl | rfl | rfl | rfl | rfl | rfl | rfl | rfl | rfl | rfl | rfl | rfl | rfl | rfl | rfl | rfl
   all_goals first | rw [show needs 6 = [⟨5, []⟩] from rfl] | rw [show needs 7 = [nEth [0x800#64, 0x86dd#64]] from rfl] | rw [show needs 8 = [nEth [0x800#64, 0x86dd#64]] from rfl] | rw [show needs 9 = [nEth [0x800#64, 0x86dd#64]] from rfl] | rw [show needs 10 = [nEth [0x800#64]] from rfl] | rw [show needs 11 = [nEth [0x800#64]] from rfl] | rw [show needs 12 = [nEth [0x800#64, 0x86dd#64], ⟨9, [6#64].map w64⟩] from rfl] | rw [show needs 13 = [nEth [0x800#64, 0x86dd#64], ⟨9, [6#64].map w64⟩] from rfl] | rw [show needs 14 = [nEth [0x800#64, 0x86dd#64], ⟨9, [17#64].map w64⟩] from rfl] | rw [show needs 15 = [nEth [0x800#64, 0x86dd#64], ⟨9, [17#64].map w64⟩] from rfl] | rw [show needs 16 = [nEth [0x800#64], ⟨9, [1#64].map w64⟩] from rfl] | rw [show needs 17 = [nEth [0x800#64], ⟨9, [1#64].map w64⟩] from rfl] | rw [show needs 18 = [nEth [0x806#64]] from rfl] | rw [show needs 19 = [nEth [0x806#64]] from rfl] | rw [show needs 20 = [nEth [0x806#64]] from rfl] | rw [show needs 21 = [nEth [0x86dd#64]] from rfl] | rw [show needs 22 = [nEth [0x86dd#64]] from rfl] | rw [show needs 23 = [nEth [0x8847#64, 0x8848#64]] from rfl]
   all_goals
   · refine FnP.i Tryz.func190 rfl rfl fun G w => ?_
     repeat' (first | apply WK.s | apply WK.b | apply WK.k | refine WK.cT rfl ?_ | refine WK.cF rfl ?_ | (refine hQ.h _ _ ?_; clear hQ hA) | (refine WK.rH Tryz.ntmps190 (by kernel_rfl) ?_; intro A hA Q hQ; simp [needL, Need.enc, *]) | (refine RunQ.k rfl rfl rfl rfl rfl ?_ (c0) ?_ ?_ <;> simp (maxDischargeDepth := 120) [needL, Need.enc, *] <;> refine ⟨?_⟩) | (refine RunQ.k rfl rfl rfl rfl rfl ?_ (e1) ?_ ?_ <;> simp (maxDischargeDepth := 120) [needL, Need.enc, *] <;> refine ⟨?_⟩) | (refine RunQ.k rfl rfl rfl rfl rfl ?_ (e2) ?_ ?_ <;> simp (maxDischargeDepth := 120) [needL, Need.enc, *] <;> refine ⟨?_⟩) | (refine RunQ.k rfl rfl rfl rfl rfl ?_ (e3) ?_ ?_ <;> simp (maxDischargeDepth := 120) [needL, Need.enc, *] <;> refine ⟨?_⟩) | (refine RunQ.k rfl rfl rfl rfl rfl ?_ (e4) ?_ ?_ <;> simp (maxDischargeDepth := 120) [needL, Need.enc, *] <;> refine ⟨?_⟩) | (refine RunQ.k rfl rfl rfl rfl rfl ?_ (e5) ?_ ?_ <;> simp (maxDischargeDepth := 120) [needL, Need.enc, *] <;> refine ⟨?_⟩) | (refine RunQ.k rfl rfl rfl rfl rfl ?_ (e6) ?_ ?_ <;> simp (maxDischargeDepth := 120) [needL, Need.enc, *] <;> refine ⟨?_⟩) | (refine RunQ.k rfl rfl rfl rfl rfl ?_ (e7) ?_ ?_ <;> simp (maxDischargeDepth := 120) [needL, Need.enc, *] <;> refine ⟨?_⟩) | (refine RunQ.k rfl rfl rfl rfl rfl ?_ (e8) ?_ ?_ <;> simp (maxDischargeDepth := 120) [needL, Need.enc, *] <;> refine ⟨?_⟩) | (refine WK.t Tryz.func190 ?_ ?_ <;> simp (maxDischargeDepth := 120) [Tryz.results190, needL, Need.enc, *]))
 · simp only [not_or] at h
   obtain ⟨h6, h7, h8, h9, h10, h11, h12, h13, h14, h15, h16, h17, h18, h19, h20, h21, h22, h23⟩ := h
   have e : needs f = [] := by unfold needs; rw [if_neg h6, if_neg (by omega), if_neg (by omega), if_neg (by omega), if_neg (by omega), if_neg (by omega), if_neg (by omega), if_neg (by omega), if_neg h23]
   rw [e]
   have j6 : (f == 6) = false := by simpa using h6
   have j7 : (f == 7) = false := by simpa using h7
   have j8 : (f == 8) = false := by simpa using h8
   have j9 : (f == 9) = false := by simpa using h9
   have j10 : (f == 10) = false := by simpa using h10
   have j11 : (f == 11) = false := by simpa using h11
   have j12 : (f == 12) = false := by simpa using h12
   have j13 : (f == 13) = false := by simpa using h13
   have j14 : (f == 14) = false := by simpa using h14
   have j15 : (f == 15) = false := by simpa using h15
   have j16 : (f == 16) = false := by simpa using h16
   have j17 : (f == 17) = false := by simpa using h17
   have j18 : (f == 18) = false := by simpa using h18
   have j19 : (f == 19) = false := by simpa using h19
   have j20 : (f == 20) = false := by simpa using h20
   have j21 : (f == 21) = false := by simpa using h21
   have j22 : (f == 22) = false := by simpa using h22
   have j23 : (f == 23) = false := by simpa using h23
   clear h6 h7 h8 h9 h10 h11 h12 h13 h14 h15 h16 h17 h18 h19 h20 h21 h22 h23 e
   refine FnP.i Tryz.func190 rfl rfl fun G w => ?_
   repeat' (first | apply WK.s | apply WK.b | apply WK.n | apply WK.k | refine WK.cF rfl ?_ | (refine hQ.h _ _ ?_; clear hQ hA) | (refine WK.rH Tryz.ntmps190 (by kernel_rfl) ?_; intro A hA Q hQ; simp [needL, Need.enc, *]) | (refine WK.t Tryz.func190 ?_ ?_ <;> simp (maxDischargeDepth := 120) [Tryz.results190, needL, Need.enc, *]))
theorem rproto_c (x : BitVec 64) : FnP Tryz.prog 155 [.int .u64 (uI x)] (.agg (Need.enc ⟨9, [x].map w64⟩)) := by
 have e : wdL [w64 x] = [.int .u64 0, .int .u64 (uI x)] := by rw [← uZ_]; rfl
 refine FnP.i Tryz.func155 rfl rfl fun G w => ?_
 repeat' (first | apply WK.s | (refine hQ.h _ _ ?_; clear hQ hA) | (refine WK.rH Tryz.ntmps155 (by kernel_rfl) ?_; intro A hA Q hQ; simp [Need.enc, *]) | (refine WK.t Tryz.func155 ?_ ?_ <;> simp (maxDischargeDepth := 120) [Tryz.results155, Need.enc, *]))
theorem rether_c (l : List (BitVec 64)) (hl : l.length ≤ 1000) : FnP Tryz.prog 154 [.sl false l.length (u64L l)] (.agg (nEth l).enc) := by
 refine FnP.i Tryz.func154 rfl rfl fun G w => ?_
 repeat' (first | apply WK.s | apply WK.b | (refine hQ.h _ _ ?_; clear hQ hA) | (refine WK.rH Tryz.ntmps154 (by kernel_rfl) ?_; intro A hA Q hQ; simp [*]))
 refine WK.ghost (Ghost.ownVar 101 1 900 2 rfl rfl rfl) ?_
 refine WK.lI (fun n => if n = 1 then 101 else if n = 2 then 900 else n) (fun i : Nat => (⟨(upd (upd (upd (upd J 2 (.ptr 0 0)) 3 (.ptr 1 0)) 0 (.sl false l.length (u64L l))) 4 (.int .i64 i)), (upd (upd (upd B0 0 (.var [.junk, .junk])) 1 (.var [.int .i64 4, .msl 2 0 i])) 2 (.buf 2 (wdL ((l.map w64).take i)))), 0⟩ : St)) (fun i => i ≤ l.length) (fun i => l.length - i) (0) (by repeat (first | exact TmW.nil | refine TmW.upd ?_ (by simp (maxDischargeDepth := 120) [wdL]))) (by repeat (first | exact BxW.nil | refine BxW.upd ?_ (by simp (maxDischargeDepth := 120) [wdL]))) (by first | exact InjW.id | exact InjW.nil | exact InjW.one | exact InjW.two (by simp) | exact InjW.three (by simp) (by simp) (by simp)) (Nat.zero_le _) (fun i hi IH => ?_)
 by_cases h1 : i < l.length
 · have h4 := u64_get l i h1
   have h6 : IntKind.i64.wrap ((i : Int) + 1) = i + 1 := wrap_i64 (by omega) (by omega)
   have hb : (i + 1) * 16 ≤ 140737488355328 := by omega
   have h3 : ((l.map w64).take i).length = i := by rw [List.length_take, List.length_map]; omega
   have hs := w64_take h1
   repeat' (first | apply WK.s | apply WK.b | apply WK.n | apply WK.k | refine WK.cT rfl ?_ | (refine hQ.h _ _ ?_; clear hQ hA) | (refine WK.rH Tryz.ntmps154 (by kernel_rfl) ?_; intro A hA Q hQ; simp [*]) | (refine WK.rX (by kernel_rfl) Tryz.ntmps154 (by kernel_rfl) ?_; intro A hA Q hQ; simp [*]) | (refine hQ.h _ _ _ (by decide +kernel) ?_; clear hQ hA) | (refine RunX.append 901 app_wd rfl rfl rfl rfl rfl rfl rfl rfl ?_ ?_ ?_ ?_ ?_; (focus (first | omega | (simp [*]; done); done)); (focus (first | omega | (simp [*]; done); done)); (focus (first | omega | (simp [*]; done); done)); (focus (first | omega | (simp [*]; done); done)); refine RunX.e ?_; simp [*]))
   refine WK.next (fun n => if n = 2 then 901 else n) (IH (i + 1) (by omega) (by first | omega | (dsimp only; omega))) (by repeat (first | exact TmW.nil | refine TmW.upd ?_ (by simp (maxDischargeDepth := 120) [hs]))) (by repeat (first | exact BxW.nil | refine BxW.upd ?_ (by simp (maxDischargeDepth := 120) [hs]))) (by first | exact InjW.id | exact InjW.nil | exact InjW.one | exact InjW.two (by simp) | exact InjW.three (by simp) (by simp) (by simp))
 · have hT : (l.map w64).take i = l.map w64 := List.take_of_length_le (by rw [List.length_map]; omega)
   have hi' : i = l.length := by omega
   have hT2 : (wdL (l.map w64)).take (l.length * 2) = wdL (l.map w64) := List.take_of_length_le (by simp)
   rw [hT]
   repeat' (first | apply WK.s | refine WK.exit rfl ?_ | refine WK.cF rfl ?_ | (refine hQ.h _ _ ?_; clear hQ hA) | (refine WK.rH Tryz.ntmps154 (by kernel_rfl) ?_; intro A hA Q hQ; simp [*]))
   refine WK.ghost (Ghost.frzCell 0 1 2 _ 2 rfl rfl rfl (by decide)) ?_
   repeat' (first | (refine WK.t Tryz.func154 ?_ ?_ <;> simp (maxDischargeDepth := 120) [Tryz.results154, Need.enc, nEth, *]))
theorem rneeds_c (f : Int) : FnP Tryz.prog 124 [.int .i64 f] (needS (needs f)) := by
 have e1 := rether_c [0x800#64, 0x86dd#64] (by decide)
 have e2 := rether_c [0x800#64] (by decide)
 have e3 := rproto_c 6#64
 have e4 := rproto_c 17#64
 have e5 := rproto_c 1#64
 have e6 := rether_c [0x806#64] (by decide)
 have e7 := rether_c [0x86dd#64] (by decide)
 have e8 := rether_c [0x8847#64, 0x8848#64] (by decide)
 unfold needS
 simp only [u64_one, u64_two, List.length_cons, List.length_nil, Nat.zero_add, Nat.reduceAdd, show uI 0x800#64 = 2048 from rfl, show uI 0x86dd#64 = 34525 from rfl, show uI 6#64 = 6 from rfl, show uI 17#64 = 17 from rfl, show uI 1#64 = 1 from rfl, show uI 0x806#64 = 2054 from rfl, show uI 0x8847#64 = 34887 from rfl, show uI 0x8848#64 = 34888 from rfl] at *
 by_cases h : f = 6 ∨ f = 7 ∨ f = 8 ∨ f = 9 ∨ f = 10 ∨ f = 11 ∨ f = 12 ∨ f = 13 ∨ f = 14 ∨ f = 15 ∨ f = 16 ∨ f = 17 ∨ f = 18 ∨ f = 19 ∨ f = 20 ∨ f = 21 ∨ f = 22 ∨ f = 23
 · rcases h with rfl | rfl | rfl | rfl | rfl | rfl | rfl | rfl | rfl | rfl | rfl | rfl | rfl | rfl | rfl | rfl | rfl | rfl
   all_goals first | rw [show needs 6 = [⟨5, []⟩] from rfl] | rw [show needs 7 = [nEth [0x800#64, 0x86dd#64]] from rfl] | rw [show needs 8 = [nEth [0x800#64, 0x86dd#64]] from rfl] | rw [show needs 9 = [nEth [0x800#64, 0x86dd#64]] from rfl] | rw [show needs 10 = [nEth [0x800#64]] from rfl] | rw [show needs 11 = [nEth [0x800#64]] from rfl] | rw [show needs 12 = [nEth [0x800#64, 0x86dd#64], ⟨9, [6#64].map w64⟩] from rfl] | rw [show needs 13 = [nEth [0x800#64, 0x86dd#64], ⟨9, [6#64].map w64⟩] from rfl] | rw [show needs 14 = [nEth [0x800#64, 0x86dd#64], ⟨9, [17#64].map w64⟩] from rfl] | rw [show needs 15 = [nEth [0x800#64, 0x86dd#64], ⟨9, [17#64].map w64⟩] from rfl] | rw [show needs 16 = [nEth [0x800#64], ⟨9, [1#64].map w64⟩] from rfl] | rw [show needs 17 = [nEth [0x800#64], ⟨9, [1#64].map w64⟩] from rfl] | rw [show needs 18 = [nEth [0x806#64]] from rfl] | rw [show needs 19 = [nEth [0x806#64]] from rfl] | rw [show needs 20 = [nEth [0x806#64]] from rfl] | rw [show needs 21 = [nEth [0x86dd#64]] from rfl] | rw [show needs 22 = [nEth [0x86dd#64]] from rfl] | rw [show needs 23 = [nEth [0x8847#64, 0x8848#64]] from rfl]
   all_goals
   · refine FnP.i Tryz.func124 rfl rfl fun G w => ?_
     repeat' (first | apply WK.s | apply WK.b | apply WK.k | refine WK.cT rfl ?_ | refine WK.cF rfl ?_ | (refine hQ.h _ _ ?_; clear hQ hA) | (refine WK.rH Tryz.ntmps124 (by kernel_rfl) ?_; intro A hA Q hQ; simp [needL, Need.enc, *]) | (refine RunQ.k rfl rfl rfl rfl rfl ?_ (e1) ?_ ?_ <;> simp (maxDischargeDepth := 120) [needL, Need.enc, *] <;> refine ⟨?_⟩) | (refine RunQ.k rfl rfl rfl rfl rfl ?_ (e2) ?_ ?_ <;> simp (maxDischargeDepth := 120) [needL, Need.enc, *] <;> refine ⟨?_⟩) | (refine RunQ.k rfl rfl rfl rfl rfl ?_ (e3) ?_ ?_ <;> simp (maxDischargeDepth := 120) [needL, Need.enc, *] <;> refine ⟨?_⟩) | (refine RunQ.k rfl rfl rfl rfl rfl ?_ (e4) ?_ ?_ <;> simp (maxDischargeDepth := 120) [needL, Need.enc, *] <;> refine ⟨?_⟩) | (refine RunQ.k rfl rfl rfl rfl rfl ?_ (e5) ?_ ?_ <;> simp (maxDischargeDepth := 120) [needL, Need.enc, *] <;> refine ⟨?_⟩) | (refine RunQ.k rfl rfl rfl rfl rfl ?_ (e6) ?_ ?_ <;> simp (maxDischargeDepth := 120) [needL, Need.enc, *] <;> refine ⟨?_⟩) | (refine RunQ.k rfl rfl rfl rfl rfl ?_ (e7) ?_ ?_ <;> simp (maxDischargeDepth := 120) [needL, Need.enc, *] <;> refine ⟨?_⟩) | (refine RunQ.k rfl rfl rfl rfl rfl ?_ (e8) ?_ ?_ <;> simp (maxDischargeDepth := 120) [needL, Need.enc, *] <;> refine ⟨?_⟩) | (refine WK.t Tryz.func124 ?_ ?_ <;> simp (maxDischargeDepth := 120) [Tryz.results124, needL, Need.enc, *]))
 · simp only [not_or] at h
   obtain ⟨h6, h7, h8, h9, h10, h11, h12, h13, h14, h15, h16, h17, h18, h19, h20, h21, h22, h23⟩ := h
   have e : needs f = [] := by unfold needs; rw [if_neg h6, if_neg (by omega), if_neg (by omega), if_neg (by omega), if_neg (by omega), if_neg (by omega), if_neg (by omega), if_neg (by omega), if_neg h23]
   rw [e]
   have j6 : (f == 6) = false := by simpa using h6
   have j7 : (f == 7) = false := by simpa using h7
   have j8 : (f == 8) = false := by simpa using h8
   have j9 : (f == 9) = false := by simpa using h9
   have j10 : (f == 10) = false := by simpa using h10
   have j11 : (f == 11) = false := by simpa using h11
   have j12 : (f == 12) = false := by simpa using h12
   have j13 : (f == 13) = false := by simpa using h13
   have j14 : (f == 14) = false := by simpa using h14
   have j15 : (f == 15) = false := by simpa using h15
   have j16 : (f == 16) = false := by simpa using h16
   have j17 : (f == 17) = false := by simpa using h17
   have j18 : (f == 18) = false := by simpa using h18
   have j19 : (f == 19) = false := by simpa using h19
   have j20 : (f == 20) = false := by simpa using h20
   have j21 : (f == 21) = false := by simpa using h21
   have j22 : (f == 22) = false := by simpa using h22
   have j23 : (f == 23) = false := by simpa using h23
   clear h6 h7 h8 h9 h10 h11 h12 h13 h14 h15 h16 h17 h18 h19 h20 h21 h22 h23 e
   refine FnP.i Tryz.func124 rfl rfl fun G w => ?_
   repeat' (first | apply WK.s | apply WK.b | apply WK.n | apply WK.k | refine WK.cF rfl ?_ | (refine hQ.h _ _ ?_; clear hQ hA) | (refine WK.rH Tryz.ntmps124 (by kernel_rfl) ?_; intro A hA Q hQ; simp [needL, Need.enc, *]) | (refine WK.t Tryz.func124 ?_ ?_ <;> simp (maxDischargeDepth := 120) [Tryz.results124, needL, Need.enc, *]))

theorem windex_c (l : List Wide) (v : Wide) (hl : l.length ≤ 1000000) : FnP Tryz.prog 206 [wdS l, .agg v.enc] (.int .i64 (firstI (fun i => v == nth l i) l.length)) := by
 unfold wdS
 refine FnP.i Tryz.func206 rfl rfl fun G w => ?_
 repeat' (first | apply WK.s | apply WK.b | (refine hQ.h _ _ ?_; clear hQ hA) | (refine WK.rH Tryz.ntmps206 (by kernel_rfl) ?_; intro A hA Q hQ; simp [*]))
 refine WK.lI (fun n => n) (fun i : Nat => (⟨(upd (upd (upd (upd J 0 (.sl false l.length (wdL l))) 3 (.ptr 0 0)) 7 (.int .i64 l.length)) 8 (.int .i64 i)), (upd B0 0 (.var v.enc)), 0⟩ : St)) (fun i => i ≤ l.length ∧ ∀ j, j < i → (v == nth l j) = false) (fun i => l.length - i) (0) (by repeat (first | exact TmW.nil | refine TmW.upd ?_ (by simp (maxDischargeDepth := 120)))) (by repeat (first | exact BxW.nil | refine BxW.upd ?_ (by simp (maxDischargeDepth := 120)))) InjW.id (⟨by omega, by simp⟩) (fun i hi IH => ?_)
 by_cases h1 : i < l.length
 · obtain ⟨h4, h3⟩ := wd_load l i h1
   have h6 : IntKind.i64.wrap ((i : Int) + 1) = i + 1 := wrap_i64 (by omega) (by omega)
   cases h5 : v == nth l i
   · repeat' (first | apply WK.s | apply WK.b | apply WK.n | apply WK.k | refine WK.cT rfl ?_ | refine WK.cF rfl ?_ | (refine hQ.h _ _ ?_; clear hQ hA) | (refine WK.rH Tryz.ntmps206 (by kernel_rfl) ?_; intro A hA Q hQ; simp [*]) | (refine WK.rX (by kernel_rfl) Tryz.ntmps206 (by kernel_rfl) ?_; intro A hA Q hQ; simp [*]) | (refine hQ.h _ _ _ (by decide +kernel) ?_; clear hQ hA))
     refine WK.next (fun n => n) (IH (i + 1) (⟨by omega, fun j hj => by by_cases h7 : j = i; (subst h7; exact h5); exact hi.2 j (by omega)⟩) (by first | omega | (dsimp only; omega))) (by repeat (first | exact TmW.nil | refine TmW.upd ?_ (by simp (maxDischargeDepth := 120)))) (by repeat (first | exact BxW.nil | refine BxW.upd ?_ (by simp (maxDischargeDepth := 120)))) InjW.id
   · have e := firstI_some (p := fun i => v == nth l i) h1 h5 hi.2
     repeat' (first | apply WK.s | apply WK.b | apply WK.k | refine WK.cT rfl ?_ | (refine hQ.h _ _ ?_; clear hQ hA) | (refine WK.rH Tryz.ntmps206 (by kernel_rfl) ?_; intro A hA Q hQ; simp [*]) | (refine WK.rX (by kernel_rfl) Tryz.ntmps206 (by kernel_rfl) ?_; intro A hA Q hQ; simp [*]) | (refine hQ.h _ _ _ (by decide +kernel) ?_; clear hQ hA) | (refine WK.t Tryz.func206 ?_ ?_ <;> simp (maxDischargeDepth := 120) [Tryz.results206, e, *]))
 · have e := firstI_none (p := fun i => v == nth l i) (n := l.length) (fun j hj => hi.2 j (by omega))
   repeat' (first | apply WK.s | refine WK.exit rfl ?_ | refine WK.cF rfl ?_ | (refine hQ.h _ _ ?_; clear hQ hA) | (refine WK.rH Tryz.ntmps206 (by kernel_rfl) ?_; intro A hA Q hQ; simp [*]) | (refine WK.t Tryz.func206 ?_ ?_ <;> simp (maxDischargeDepth := 120) [Tryz.results206, e, *]))
theorem wcontains_c (l : List Wide) (v : Wide) (hl : l.length ≤ 1000000) : FnP Tryz.prog 199 [wdS l, .agg v.enc] (.bool (l.any fun x => v == x)) := by
 have e := firstI_ge (fun i => v == nth l i) l.length
 have e2 : (List.range l.length).any (fun i => v == nth l i) = l.any fun x => v == x := by
   rw [Bool.eq_iff_iff, List.any_eq_true, List.any_eq_true]
   constructor
   · rintro ⟨i, hi, h⟩; exact ⟨nth l i, nth_mem (by simpa using hi), h⟩
   · rintro ⟨x, hx, h⟩; obtain ⟨i, hi, rfl⟩ := mem_nth hx; exact ⟨i, by simpa using hi, h⟩
 rw [e2] at e
 refine FnP.i Tryz.func199 rfl rfl fun G w => ?_
 repeat apply WK.s
 refine WK.g 100 Tryz.ntmps199 (by kernel_rfl) ?_
 intro A hA Q hQ
 simp
 apply hQ
 clear hQ hA
 repeat apply WK.s
 refine WK.g 200 Tryz.ntmps199 (by kernel_rfl) ?_
 intro A hA Q hQ
 simp
 refine RunQ.call rfl rfl rfl rfl (by rfl) (by simp (maxDischargeDepth := 120)) (windex_c l v hl) (by simp) ?_
 refine RunQ.eval ?_
 simp
 apply hQ
 clear hQ hA
 refine WK.t Tryz.func199 (by simp (maxDischargeDepth := 120) [Tryz.results199, e]) (by simp [e])
theorem gives_c (o : Oxm) (n : Need) (hn : n.values.length ≤ 1000000) : FnP Tryz.prog 191 [.agg o.enc, .agg n.enc] (.bool (mGives o n)) := by
 have c := wcontains_c n.values o.value hn
 have e : mGives o n = (o.field == n.field && (n.values.length == 0 || (!o.masked && n.values.any fun v => o.value == v))) := rfl
 obtain ⟨z, hz⟩ : ∃ z, (n.values.any fun v => o.value == v) = z := ⟨_, rfl⟩
 rw [hz] at c e
 unfold wdS at c
 unfold Wide.enc at c
 clear hz
 cases h1 : o.field == n.field
 · rw [h1] at e
   refine FnP.i Tryz.func191 rfl rfl fun G w => ?_
   repeat' (first | apply WK.s | (refine hQ.h _ _ ?_; clear hQ hA) | (refine WK.rH Tryz.ntmps191 (by kernel_rfl) ?_; intro A hA Q hQ; simp [Oxm.enc, Need.enc, *]) | (refine RunQ.g rfl (by rw [hA.h]; rfl) ?_; simp [Oxm.enc, Need.enc, *]) | (refine WK.t Tryz.func191 ?_ ?_ <;> simp (maxDischargeDepth := 120) [Tryz.results191, Oxm.enc, Need.enc, *]))
 rw [h1] at e
 by_cases h2 : n.values.length = 0
 · rw [h2] at e
   refine FnP.i Tryz.func191 rfl rfl fun G w => ?_
   repeat' (first | apply WK.s | (refine hQ.h _ _ ?_; clear hQ hA) | (refine WK.rH Tryz.ntmps191 (by kernel_rfl) ?_; intro A hA Q hQ; simp [Oxm.enc, Need.enc, *]) | (refine RunQ.g rfl (by rw [hA.h]; rfl) ?_; simp [Oxm.enc, Need.enc, *]) | (refine WK.t Tryz.func191 ?_ ?_ <;> simp (maxDischargeDepth := 120) [Tryz.results191, Oxm.enc, Need.enc, *]))
 have h3 : (n.values.length == 0) = false := by simpa using h2
 have h4 : ((n.values.length : Int) == 0) = false := by rw [beq_eq_false_iff_ne]; omega
 rw [h3] at e
 cases h5 : o.masked
 · rw [h5] at e
   refine FnP.i Tryz.func191 rfl rfl fun G w => ?_
   repeat' (first | apply WK.s | (refine hQ.h _ _ ?_; clear hQ hA) | (refine WK.rH Tryz.ntmps191 (by kernel_rfl) ?_; intro A hA Q hQ; simp [Oxm.enc, Need.enc, *]) | (refine RunQ.g rfl (by rw [hA.h]; rfl) ?_; simp [Oxm.enc, Need.enc, *]) | (refine RunQW.k rfl rfl rfl rfl ?_ (c) ?_ ?_ <;> simp (maxDischargeDepth := 120) [Oxm.enc, Need.enc, *] <;> refine ⟨?_⟩) | (refine WK.t Tryz.func191 ?_ ?_ <;> simp (maxDischargeDepth := 120) [Tryz.results191, Oxm.enc, Need.enc, *]))
 · rw [h5] at e
   refine FnP.i Tryz.func191 rfl rfl fun G w => ?_
   repeat' (first | apply WK.s | (refine hQ.h _ _ ?_; clear hQ hA) | (refine WK.rH Tryz.ntmps191 (by kernel_rfl) ?_; intro A hA Q hQ; simp [Oxm.enc, Need.enc, *]) | (refine RunQ.g rfl (by rw [hA.h]; rfl) ?_; simp [Oxm.enc, Need.enc, *]) | (refine WK.t Tryz.func191 ?_ ?_ <;> simp (maxDischargeDepth := 120) [Tryz.results191, Oxm.enc, Need.enc, *]))
theorem met_c (l : List Oxm) (f : Int) (hl : l.length ≤ 1000000) : FnP Tryz.prog 164 [oxmS l, .int .i64 f] (.bool (mMet l f)) := by
 have cn := fneeds_c f
 have hsm := needs_small f
 have hF : ∀ i, i < (needs f).length → (l.any fun o => mGives o (nth (needs f) i)) = false → mMet l f = false := fun i h hp => mMet_false h hp
 have hT : (∀ j, j < (needs f).length → (l.any fun o => mGives o (nth (needs f) j)) = true) → mMet l f = true := mMet_true
 obtain ⟨N, hN⟩ : ∃ N, needs f = N := ⟨_, rfl⟩
 rw [hN] at cn hsm hF hT
 unfold needS at cn
 clear hN
 unfold oxmS
 refine FnP.i Tryz.func164 rfl rfl fun G w => ?_
 repeat' (first | apply WK.s | apply WK.b | apply WK.label | apply WK.scope | (refine hQ.h _ _ ?_; clear hQ hA) | (refine WK.rH Tryz.ntmps164 (by kernel_rfl) ?_; intro A hA Q hQ; simp [*]) | (refine RunQ.k rfl rfl rfl rfl rfl ?_ (cn) ?_ ?_ <;> simp (maxDischargeDepth := 120) [*] <;> refine ⟨?_⟩))
 refine WK.lI (fun n => n) (fun i : Nat => (⟨(upd (upd (upd (upd J 0 (.sl false l.length (oxmL l))) 10 (.sl false N.length (needL N))) 11 (.int .i64 N.length)) 12 (.int .i64 i)), B0, 0⟩ : St)) (fun i => i ≤ N.length ∧ ∀ j, j < i → (l.any fun o => mGives o (nth N j)) = true) (fun i => N.length - i) (0) (by repeat (first | exact TmW.nil | refine TmW.upd ?_ (by simp (maxDischargeDepth := 120)))) (by repeat (first | exact BxW.nil | refine BxW.upd ?_ (by simp (maxDischargeDepth := 120)))) InjW.id (⟨by omega, by simp⟩) (fun i hi IH => ?_)
 by_cases h1 : i < N.length
 · obtain ⟨h4, h3⟩ := need_load N i h1
   have h6 : IntKind.i64.wrap ((i : Int) + 1) = i + 1 := wrap_i64 (by omega) (by omega)
   have hv := hsm.2 _ (nth_mem h1)
   have hFi := hF i h1
   have hst : (l.any fun o => mGives o (nth N i)) = true → ∀ j, j < i + 1 → (l.any fun o => mGives o (nth N j)) = true := fun h j hj => by
     by_cases h7 : j = i
     · subst h7; exact h
     · exact hi.2 j (by omega)
   obtain ⟨n, hn⟩ : ∃ n, nth N i = n := ⟨_, rfl⟩
   rw [hn] at h4 hv hFi hst
   repeat' (first | apply WK.s | apply WK.b | apply WK.k | refine WK.cT rfl ?_ | (refine hQ.h _ _ ?_; clear hQ hA) | (refine WK.rH Tryz.ntmps164 (by kernel_rfl) ?_; intro A hA Q hQ; simp [*]))
   refine WK.lI (fun n => if n = 0 then 102 else n) (fun j : Nat => (⟨(upd (upd (upd (upd (upd (upd (upd (upd J 0 (.sl false l.length (oxmL l))) 6 (.ptr 0 0)) 10 (.sl false N.length (needL N))) 11 (.int .i64 N.length)) 12 (.int .i64 i)) 16 (.sl false l.length (oxmL l))) 17 (.int .i64 l.length)) 18 (.int .i64 j)), (upd B0 0 (.var n.enc)), 0⟩ : St)) (fun j => j ≤ l.length ∧ ∀ k, k < j → mGives (nth l k) n = false) (fun j => l.length - j) (0) (by repeat (first | exact TmW.nil | refine TmW.upd ?_ (by simp (maxDischargeDepth := 120)))) (by repeat (first | exact BxW.nil | refine BxW.upd ?_ (by simp (maxDischargeDepth := 120)))) (by first | exact InjW.id | exact InjW.nil | exact InjW.one | exact InjW.two (by simp) | exact InjW.three (by simp) (by simp) (by simp)) (⟨by omega, by simp⟩) (fun j hj IHj => ?_)
   by_cases g1 : j < l.length
   · have g4 := oxm_sub l j g1
     have g3 : 6 ≤ l.length * 6 - j * 6 := by omega
     have g6 : IntKind.i64.wrap ((j : Int) + 1) = j + 1 := wrap_i64 (by omega) (by omega)
     have gc := gives_c (nth l j) n (by omega)
     cases g5 : mGives (nth l j) n
     · rw [g5] at gc
       repeat' (first | apply WK.s | apply WK.b | apply WK.n | apply WK.k | refine WK.cT rfl ?_ | refine WK.cF rfl ?_ | (refine hQ.h _ _ ?_; clear hQ hA) | (refine WK.rH Tryz.ntmps164 (by kernel_rfl) ?_; intro A hA Q hQ; simp [*]) | (refine RunQ.k rfl rfl rfl rfl rfl ?_ (gc) ?_ ?_ <;> simp (maxDischargeDepth := 120) [*] <;> refine ⟨?_⟩))
       refine WK.next (fun n => n) (IHj (j + 1) (⟨by omega, fun k hk => by by_cases h7 : k = j; (subst h7; exact g5); exact hj.2 k (by omega)⟩) (by first | omega | (dsimp only; omega))) (by repeat (first | exact TmW.nil | refine TmW.upd ?_ (by simp (maxDischargeDepth := 120)))) (by repeat (first | exact BxW.nil | refine BxW.upd ?_ (by simp (maxDischargeDepth := 120)))) InjW.id
     · rw [g5] at gc
       have hst2 := hst (any_true' (p := fun o => mGives o n) g1 g5)
       clear hst
       repeat' (first | apply WK.s | apply WK.b | apply WK.k | refine WK.exit rfl ?_ | refine WK.cT rfl ?_ | (refine hQ.h _ _ ?_; clear hQ hA) | (refine WK.rH Tryz.ntmps164 (by kernel_rfl) ?_; intro A hA Q hQ; simp [*]) | (refine RunQ.k rfl rfl rfl rfl rfl ?_ (gc) ?_ ?_ <;> simp (maxDischargeDepth := 120) [*] <;> refine ⟨?_⟩))
       refine WK.next (fun n => n) (IH (i + 1) (⟨by omega, hst2⟩) (by first | omega | (dsimp only; omega))) (by repeat (first | exact TmW.nil | refine TmW.upd ?_ (by simp (maxDischargeDepth := 120)))) (by repeat (first | exact BxW.nil | refine BxW.upd ?_ (by simp (maxDischargeDepth := 120)))) InjW.id
   · have e := hFi (any_false' (p := fun o => mGives o n) fun k hk => hj.2 k (by omega))
     repeat' (first | apply WK.s | refine WK.exit rfl ?_ | refine WK.cF rfl ?_ | (refine hQ.h _ _ ?_; clear hQ hA) | (refine WK.rH Tryz.ntmps164 (by kernel_rfl) ?_; intro A hA Q hQ; simp [*]) | (refine WK.t Tryz.func164 ?_ ?_ <;> simp (maxDischargeDepth := 120) [Tryz.results164, *]))
 · have e := hT fun j hj => hi.2 j (by omega)
   repeat' (first | apply WK.s | refine WK.exit rfl ?_ | refine WK.cF rfl ?_ | (refine hQ.h _ _ ?_; clear hQ hA) | (refine WK.rH Tryz.ntmps164 (by kernel_rfl) ?_; intro A hA Q hQ; simp [*]) | (refine WK.t Tryz.func164 ?_ ?_ <;> simp (maxDischargeDepth := 120) [Tryz.results164, *]))
theorem check1_c (a b : Oxm) : FnP Tryz.prog 163 [.agg a.enc, .iptr b.enc] (.bool (a.field == b.field)) := by
 refine FnP.i Tryz.func163 rfl rfl fun G w => ?_
 repeat' (first | apply WK.s | (refine hQ.h _ _ ?_; clear hQ hA) | (refine WK.rH Tryz.ntmps163 (by kernel_rfl) ?_; intro A hA Q hQ; simp [Oxm.enc, *]) | (refine WK.t Tryz.func163 ?_ ?_ <;> simp (maxDischargeDepth := 120) [Tryz.results163, Oxm.enc, *]))
theorem mbad_c (n : Int) : FnP Tryz.prog 134 [.int .i64 n] (.agg (gF (some (4, n)))) := by
 refine FnP.i Tryz.func134 rfl rfl fun G w => ?_
 repeat' (first | apply WK.s | (refine hQ.h _ _ ?_; clear hQ hA) | (refine WK.rH Tryz.ntmps134 (by kernel_rfl) ?_; intro A hA Q hQ; simp [*]) | (refine WK.t Tryz.func134 ?_ ?_ <;> simp (maxDischargeDepth := 120) [Tryz.results134, gF, *]))
theorem rmbad_c (n : Int) : FnP Tryz.prog 111 [.int .i64 n] (.agg (gF (some (4, n)))) := by
 refine FnP.i Tryz.func111 rfl rfl fun G w => ?_
 repeat' (first | apply WK.s | (refine hQ.h _ _ ?_; clear hQ hA) | (refine WK.rH Tryz.ntmps111 (by kernel_rfl) ?_; intro A hA Q hQ; simp [*]) | (refine WK.t Tryz.func111 ?_ ?_ <;> simp (maxDischargeDepth := 120) [Tryz.results111, gF, *]))
def mF (c : Option Int) : List AV := gF (c.map fun c => (4, c))
@[simp] theorem mF_cl (c : Option Int) : ClL (mF c) = true := by cases c <;> rfl
theorem oxm_part (l : List Oxm) (i : Nat) (h : i ≤ l.length) : (oxmL l).take (i * 6) = oxmL (l.take i) ∧ (l.take i).length = i := ⟨fm_take Oxm.len l i, by rw [List.length_take]; omega⟩

theorem indexf_oxm (fid : Nat) (caps : List AV) (p : Oxm → Bool) (l : List Oxm) (hcl : ClL caps = true) (hl : l.length ≤ 1000000)
   (hf : ∀ x, x ∈ l → FnP Tryz.prog fid (.agg x.enc :: caps) (.bool (p x))) :
   FnP Tryz.prog 189 [oxmS l, .fn fid caps] (.int .i64 (idxI p l)) := by
 unfold oxmS
 refine FnP.i Tryz.func189 rfl rfl fun G w => ?_
 repeat apply WK.s
 refine WK.g 100 Tryz.ntmps189 (by kernel_rfl) ?_
 intro A hA Q hQ
 simp
 apply hQ
 clear hQ hA
 repeat apply WK.s
 refine WK.g 200 Tryz.ntmps189 (by kernel_rfl) ?_
 intro A hA Q hQ
 simp
 apply hQ
 clear hQ hA
 repeat (apply WK.b)
 refine WK.lI (fun n => n) (fun i : Nat => (⟨(upd (upd (upd (upd J 0 (.sl false l.length (oxmL l))) 1 (.fn fid caps)) 7 (.int .i64 l.length)) 8 (.int .i64 i)), B0, 0⟩ : St)) (fun i => i ≤ l.length ∧ ∀ j, j < i → p (nth l j) = false) (fun i => l.length - i) (0) (by repeat (first | exact TmW.nil | refine TmW.upd ?_ (by simp (maxDischargeDepth := 120) [hcl]))) (by repeat (first | exact BxW.nil | refine BxW.upd ?_ (by simp (maxDischargeDepth := 120) [hcl]))) InjW.id (⟨by omega, by simp⟩) (fun i hi IH => ?_)
 repeat apply WK.s
 refine WK.g 300 Tryz.ntmps189 (by kernel_rfl) ?_
 intro A hA Q hQ
 simp
 apply hQ
 clear hQ hA
 repeat apply WK.s
 refine WK.c2 rfl (fun h1 => ?_) (fun h1 => ?_)
 · simp at h1
   have h2 : i < l.length := by omega
   have h3 : 6 ≤ l.length * 6 - i * 6 := by omega
   have h4 := oxm_sub l i h2
   have h6 : IntKind.i64.wrap ((i : Int) + 1) = i + 1 := wrap_i64 (by omega) (by omega)
   repeat (first | apply WK.s | apply WK.b | apply WK.k)
   refine WK.g 400 Tryz.ntmps189 (by kernel_rfl) ?_
   intro A hA Q hQ
   simp
   apply hQ
   clear hQ hA
   repeat apply WK.s
   refine WK.g 500 Tryz.ntmps189 (by kernel_rfl) ?_
   intro A hA Q hQ
   simp [h2, h3, h4]
   refine RunQ.call rfl rfl rfl rfl (by rfl) (by simp (maxDischargeDepth := 120) [hcl]) (hf (nth l i) (nth_mem h2)) (by simp [hcl]) ?_
   refine RunQ.eval ?_
   simp [hcl]
   apply hQ
   clear hQ hA
   refine WK.c2 rfl (fun h5 => ?_) (fun h5 => ?_)
   · have e := idxI_some h2 h5 hi.2
     repeat apply WK.s
     refine WK.g 600 Tryz.ntmps189 (by kernel_rfl) ?_
     intro A hA Q hQ
     simp
     apply hQ
     clear hQ hA
     refine WK.t Tryz.func189 (by simp (maxDischargeDepth := 120) [Tryz.results189, e]) (by simp [e])
   · repeat (first | apply WK.n | apply WK.k)
     refine WK.g 700 Tryz.ntmps189 (by kernel_rfl) ?_
     intro A hA Q hQ
     simp [h6]
     apply hQ
     clear hQ hA
     refine WK.next (fun n => n) (IH (i + 1) (⟨by omega, fun j hj => by by_cases h7 : j = i; (subst h7; exact h5); exact hi.2 j (by omega)⟩) (by first | omega | (dsimp only; omega))) (by repeat (first | exact TmW.nil | refine TmW.upd ?_ (by simp (maxDischargeDepth := 120) [hcl]))) (by repeat (first | exact BxW.nil | refine BxW.upd ?_ (by simp (maxDischargeDepth := 120) [hcl]))) InjW.id
 · simp at h1
   have e := idxI_none (p := p) (l := l) (fun j hj => hi.2 j (by omega))
   repeat (first | apply WK.s | refine WK.exit rfl ?_)
   refine WK.g 800 Tryz.ntmps189 (by kernel_rfl) ?_
   intro A hA Q hQ
   simp
   apply hQ
   clear hQ hA
   refine WK.t Tryz.func189 (by simp (maxDischargeDepth := 120) [Tryz.results189, e]) (by simp [e])
theorem containsf_oxm (fid : Nat) (caps : List AV) (p : Oxm → Bool) (l : List Oxm) (hcl : ClL caps = true) (hl : l.length ≤ 1000000)
   (hf : ∀ x, x ∈ l → FnP Tryz.prog fid (.agg x.enc :: caps) (.bool (p x))) :
   FnP Tryz.prog 162 [oxmS l, .fn fid caps] (.bool (l.any p)) := by
 have e := idxI_ge p l
 simp only [ge_iff_le] at e
 refine FnP.i Tryz.func162 rfl rfl fun G w => ?_
 repeat apply WK.s
 refine WK.g 100 Tryz.ntmps162 (by kernel_rfl) ?_
 intro A hA Q hQ
 simp
 apply hQ
 clear hQ hA
 repeat apply WK.s
 refine WK.g 200 Tryz.ntmps162 (by kernel_rfl) ?_
 intro A hA Q hQ
 simp
 refine RunQ.call rfl rfl rfl rfl (by rfl) (by simp (maxDischargeDepth := 120) [hcl]) (indexf_oxm fid caps p l hcl hl hf) (by simp [hcl]) ?_
 refine RunQ.eval ?_
 simp [hcl]
 apply hQ
 clear hQ hA
 refine WK.t Tryz.func162 (by simp (maxDischargeDepth := 120) [Tryz.results162, e]) (by simp [e])
theorem nth_take' {α : Type} [Inhabited α] {l : List α} {i k : Nat} (h : k < i) : nth (l.take i) k = nth l k := by
 unfold nth; rw [List.getD_eq_getElem?_getD, List.getD_eq_getElem?_getD, List.getElem?_take_of_lt h]
theorem any_front {α : Type} [Inhabited α] {p : α → Bool} {l : List α} {i : Nat} (hi : i ≤ l.length) (h : ∀ k, k < i → p (nth l k) = false) : (l.take i).any p = false := by
 refine any_false' fun k hk => ?_
 rw [List.length_take] at hk
 rw [nth_take' (by omega)]; exact h k (by omega)
theorem any_front_true {α : Type} [Inhabited α] {p : α → Bool} {l : List α} {i k : Nat} (hi : i ≤ l.length) (hk : k < i) (h : p (nth l k) = true) : (l.take i).any p = true :=
 any_true' (i := k) (by rw [List.length_take]; omega) (by rw [nth_take' hk]; exact h)
theorem mcheck_c (l : List Oxm) (hl : l.length ≤ 1000000) : FnP Tryz.prog 130 [oxmS l] (.agg (mF (mCheck l))) := by
 have b10 := mbad_c 10
 have b9 := mbad_c 9
 unfold oxmS
 refine FnP.i Tryz.func130 rfl rfl fun G w => ?_
 repeat' (first | apply WK.s | apply WK.b | (refine hQ.h _ _ ?_; clear hQ hA) | (refine WK.rH Tryz.ntmps130 (by kernel_rfl) ?_; intro A hA Q hQ; simp [*]))
 refine WK.lI (fun n => n) (fun i : Nat => (⟨(upd (upd (upd (upd (upd J 0 (.sl false l.length (oxmL l))) 2 (.ptr 0 0)) 5 (.sl false l.length (oxmL l))) 6 (.int .i64 l.length)) 7 (.int .i64 i)), (upd B0 0 (.var [.junk, .junk, .junk])), 0⟩ : St)) (fun i => i ≤ l.length ∧ mCheck l = mCheckF (l.take i) (l.drop i)) (fun i => l.length - i) (0) (by repeat (first | exact TmW.nil | refine TmW.upd ?_ (by simp (maxDischargeDepth := 120)))) (by repeat (first | exact BxW.nil | refine BxW.upd ?_ (by simp (maxDischargeDepth := 120)))) InjW.id (⟨by omega, rfl⟩) (fun i hi IH => ?_)
 by_cases h1 : i < l.length
 · have g4 := oxm_sub l i h1
   have g3 : 6 ≤ l.length * 6 - i * 6 := by omega
   have g6 : IntKind.i64.wrap ((i : Int) + 1) = i + 1 := wrap_i64 (by omega) (by omega)
   obtain ⟨hp1, hp2⟩ := oxm_part l i (by omega)
   have hst := hi.2
   rw [mCheck_at h1] at hst
   have cc := containsf_oxm 163 [.iptr (nth l i).enc] (fun p => p.field == (nth l i).field) (l.take i) (by simp [ClL, Cl]) (by omega) (fun x _ => check1_c x (nth l i))
   have cm := met_c (l.take i) (nth l i).field (by omega)
   unfold oxmS at cc cm
   rw [hp2] at cc cm
   have hcl : ClL (oxmL (l.take i)) = true := oxmL_cl _
   have hln : (oxmL (l.take i)).length = i * 6 := by rw [oxmL_len, hp2]
   obtain ⟨o, ho⟩ : ∃ o, nth l i = o := ⟨_, rfl⟩
   rw [ho] at g4 hst cc cm
   obtain ⟨z1, hz1⟩ : ∃ z, ((l.take i).any fun p => p.field == o.field) = z := ⟨_, rfl⟩
   obtain ⟨z2, hz2⟩ : ∃ z, mMet (l.take i) o.field = z := ⟨_, rfl⟩
   rw [hz1] at cc hst
   rw [hz2] at cm hst
   obtain ⟨K, hK⟩ : ∃ K, oxmL (l.take i) = K := ⟨_, rfl⟩
   rw [hK] at cc cm hp1 hcl hln
   have hle := hi.1
   clear hz1 hz2 hK ho hi hp2
   unfold Oxm.enc at g4 cc
   cases z1
   case true =>
     rw [if_pos rfl] at hst
     rw [hst]
     clear cm b9
     repeat' (first | apply WK.s | apply WK.b | apply WK.k | refine WK.cT rfl ?_ | (refine hQ.h _ _ ?_; clear hQ hA) | (refine WK.rH (id := 0) Tryz.ntmps130 (by kernel_rfl) ?_; intro A hA Q hQ; simp [*]) | (refine WK.rH (id := 1) Tryz.ntmps130 (by kernel_rfl) ?_; intro A hA Q hQ; simp [*]) | (refine WK.rH (id := 2) Tryz.ntmps130 (by kernel_rfl) ?_; intro A hA Q hQ; simp [*]) | (refine WK.rH (id := 3) Tryz.ntmps130 (by kernel_rfl) ?_; intro A hA Q hQ; simp [*]))
     refine WK.ghost (Ghost.frzVar 4 rfl rfl) ?_
     repeat' (first | apply WK.s | refine WK.cT rfl ?_ | (refine hQ.h _ _ ?_; clear hQ hA) | (refine WK.rH Tryz.ntmps130 (by kernel_rfl) ?_; intro A hA Q hQ; simp [mF, gF, *]) | (refine RunQ.k rfl rfl rfl rfl rfl ?_ (cc) ?_ ?_ <;> simp (maxDischargeDepth := 120) [mF, gF, *] <;> refine ⟨?_⟩) | (refine RunQ.k rfl rfl rfl rfl rfl ?_ (b10) ?_ ?_ <;> simp (maxDischargeDepth := 120) [mF, gF, *] <;> refine ⟨?_⟩) | (refine WK.t Tryz.func130 ?_ ?_ <;> simp (maxDischargeDepth := 120) [Tryz.results130, mF, gF, *]))
   rw [if_neg (by simp)] at hst
   cases z2
   case false =>
     rw [if_pos rfl] at hst
     rw [hst]
     clear b10
     repeat' (first | apply WK.s | apply WK.b | apply WK.k | refine WK.cT rfl ?_ | (refine hQ.h _ _ ?_; clear hQ hA) | (refine WK.rH (id := 0) Tryz.ntmps130 (by kernel_rfl) ?_; intro A hA Q hQ; simp [*]) | (refine WK.rH (id := 1) Tryz.ntmps130 (by kernel_rfl) ?_; intro A hA Q hQ; simp [*]) | (refine WK.rH (id := 2) Tryz.ntmps130 (by kernel_rfl) ?_; intro A hA Q hQ; simp [*]) | (refine WK.rH (id := 3) Tryz.ntmps130 (by kernel_rfl) ?_; intro A hA Q hQ; simp [*]))
     refine WK.ghost (Ghost.frzVar 4 rfl rfl) ?_
     repeat' (first | apply WK.s | apply WK.k | refine WK.cT rfl ?_ | refine WK.cF rfl ?_ | (refine hQ.h _ _ ?_; clear hQ hA) | (refine WK.rH Tryz.ntmps130 (by kernel_rfl) ?_; intro A hA Q hQ; simp [mF, gF, *]) | (refine WK.rX (by kernel_rfl) Tryz.ntmps130 (by kernel_rfl) ?_; intro A hA Q hQ; simp [mF, gF, *]) | (refine hQ.h _ _ _ (by decide +kernel) ?_; clear hQ hA) | (refine RunQ.k rfl rfl rfl rfl rfl ?_ (cc) ?_ ?_ <;> simp (maxDischargeDepth := 120) [mF, gF, *] <;> refine ⟨?_⟩) | (refine RunQ.k rfl rfl rfl rfl rfl ?_ (b9) ?_ ?_ <;> simp (maxDischargeDepth := 120) [mF, gF, *] <;> refine ⟨?_⟩) | (refine RunX.k rfl rfl rfl rfl ?_ (cm) ?_ ?_ <;> simp (maxDischargeDepth := 120) [mF, gF, *] <;> refine ⟨?_⟩) | (refine WK.t Tryz.func130 ?_ ?_ <;> simp (maxDischargeDepth := 120) [Tryz.results130, mF, gF, *]))
   rw [if_neg (by simp)] at hst
   clear b10 b9
   repeat' (first | apply WK.s | apply WK.b | apply WK.k | refine WK.cT rfl ?_ | (refine hQ.h _ _ ?_; clear hQ hA) | (refine WK.rH (id := 0) Tryz.ntmps130 (by kernel_rfl) ?_; intro A hA Q hQ; simp [*]) | (refine WK.rH (id := 1) Tryz.ntmps130 (by kernel_rfl) ?_; intro A hA Q hQ; simp [*]) | (refine WK.rH (id := 2) Tryz.ntmps130 (by kernel_rfl) ?_; intro A hA Q hQ; simp [*]) | (refine WK.rH (id := 3) Tryz.ntmps130 (by kernel_rfl) ?_; intro A hA Q hQ; simp [*]))
   refine WK.ghost (Ghost.frzVar 4 rfl rfl) ?_
   repeat' (first | apply WK.s | apply WK.n | apply WK.k | refine WK.cF rfl ?_ | (refine hQ.h _ _ ?_; clear hQ hA) | (refine WK.rH Tryz.ntmps130 (by kernel_rfl) ?_; intro A hA Q hQ; simp [*]) | (refine WK.rX (by kernel_rfl) Tryz.ntmps130 (by kernel_rfl) ?_; intro A hA Q hQ; simp [*]) | (refine hQ.h _ _ _ (by decide +kernel) ?_; clear hQ hA) | (refine RunQ.k rfl rfl rfl rfl rfl ?_ (cc) ?_ ?_ <;> simp (maxDischargeDepth := 120) [*] <;> refine ⟨?_⟩) | (refine RunX.k rfl rfl rfl rfl ?_ (cm) ?_ ?_ <;> simp (maxDischargeDepth := 120) [*] <;> refine ⟨?_⟩))
   refine WK.next (fun n => n) (IH (i + 1) (⟨by omega, hst⟩) (by first | omega | (dsimp only; omega))) (by repeat (first | exact TmW.nil | refine TmW.upd ?_ (by simp (maxDischargeDepth := 120)))) (by repeat (first | exact BxW.nil | refine BxW.upd ?_ (by simp (maxDischargeDepth := 120)))) InjW.id
 · have hst := hi.2
   rw [show i = l.length by omega, mCheck_end] at hst
   rw [hst]
   clear b10 b9
   repeat' (first | apply WK.s | refine WK.exit rfl ?_ | refine WK.cF rfl ?_ | (refine hQ.h _ _ ?_; clear hQ hA) | (refine WK.rH Tryz.ntmps130 (by kernel_rfl) ?_; intro A hA Q hQ; simp [mF, gF, *]) | (refine WK.t Tryz.func130 ?_ ?_ <;> simp (maxDischargeDepth := 120) [Tryz.results130, mF, gF, *]))
theorem rone_c (l : List Wide) (v : Wide) (hl : l.length ≤ 1000000) : FnP Tryz.prog 125 [.agg v.enc, wdS l] (.bool ((l.any fun x => v == x) || l.length == 0)) := by
 unfold wdS
 refine FnP.i Tryz.func125 rfl rfl fun G w => ?_
 repeat' (first | apply WK.s | apply WK.b | (refine hQ.h _ _ ?_; clear hQ hA) | (refine WK.rH Tryz.ntmps125 (by kernel_rfl) ?_; intro A hA Q hQ; simp [*]))
 refine WK.lI (fun n => n) (fun i : Nat => (⟨(upd (upd (upd J 1 (.sl false l.length (wdL l))) 2 (.ptr 0 0)) 5 (.int .i64 i)), (upd B0 0 (.var v.enc)), 0⟩ : St)) (fun i => i ≤ l.length ∧ ∀ j, j < i → (v == nth l j) = false) (fun i => l.length - i) (0) (by repeat (first | exact TmW.nil | refine TmW.upd ?_ (by simp (maxDischargeDepth := 120)))) (by repeat (first | exact BxW.nil | refine BxW.upd ?_ (by simp (maxDischargeDepth := 120)))) InjW.id (⟨by omega, by simp⟩) (fun i hi IH => ?_)
 by_cases h1 : i < l.length
 · obtain ⟨h4, h3⟩ := wd_load l i h1
   have h6 : IntKind.i64.wrap ((i : Int) + 1) = i + 1 := wrap_i64 (by omega) (by omega)
   have h8 : (nth l i == v) = (v == nth l i) := by rw [Bool.eq_iff_iff, beq_iff_eq, beq_iff_eq]; exact eq_comm
   cases h5 : v == nth l i
   · rw [h5] at h8
     repeat' (first | apply WK.s | apply WK.b | apply WK.n | apply WK.k | refine WK.cT rfl ?_ | refine WK.cF rfl ?_ | (refine hQ.h _ _ ?_; clear hQ hA) | (refine WK.rH Tryz.ntmps125 (by kernel_rfl) ?_; intro A hA Q hQ; simp [*]) | (refine WK.rX (by kernel_rfl) Tryz.ntmps125 (by kernel_rfl) ?_; intro A hA Q hQ; simp [*]) | (refine hQ.h _ _ _ (by decide +kernel) ?_; clear hQ hA))
     refine WK.next (fun n => n) (IH (i + 1) (⟨by omega, fun j hj => by by_cases h7 : j = i; (subst h7; exact h5); exact hi.2 j (by omega)⟩) (by first | omega | (dsimp only; omega))) (by repeat (first | exact TmW.nil | refine TmW.upd ?_ (by simp (maxDischargeDepth := 120)))) (by repeat (first | exact BxW.nil | refine BxW.upd ?_ (by simp (maxDischargeDepth := 120)))) InjW.id
   · rw [h5] at h8
     have e := any_true' (p := fun x => v == x) h1 h5
     repeat' (first | apply WK.s | apply WK.b | apply WK.k | refine WK.cT rfl ?_ | (refine hQ.h _ _ ?_; clear hQ hA) | (refine WK.rH Tryz.ntmps125 (by kernel_rfl) ?_; intro A hA Q hQ; simp [*]) | (refine WK.rX (by kernel_rfl) Tryz.ntmps125 (by kernel_rfl) ?_; intro A hA Q hQ; simp [*]) | (refine hQ.h _ _ _ (by decide +kernel) ?_; clear hQ hA) | (refine WK.t Tryz.func125 ?_ ?_ <;> simp (maxDischargeDepth := 120) [Tryz.results125, *]))
 · have e := any_false' (p := fun x => v == x) (l := l) fun j hj => hi.2 j (by omega)
   have e2 : ((l.length : Int) == 0) = (l.length == 0) := by rw [Bool.eq_iff_iff, beq_iff_eq, beq_iff_eq]; omega
   repeat' (first | apply WK.s | refine WK.exit rfl ?_ | refine WK.cF rfl ?_ | (refine hQ.h _ _ ?_; clear hQ hA) | (refine WK.rH Tryz.ntmps125 (by kernel_rfl) ?_; intro A hA Q hQ; simp [*]) | (refine WK.t Tryz.func125 ?_ ?_ <;> simp (maxDischargeDepth := 120) [Tryz.results125, e, e2, *]))
end Go.Proofs.YtcccfbjkcahgfaaGreat
