/- Changes of groups: read and written by the program. -/
import Derived.Test.YteonfhnljphbpaaGreatWk11
set_option linter.all false
set_option linter.unnecessarySimpa false
section
set_option linter.unusedVariables false
set_option linter.unusedSimpArgs false
namespace Go.Proofs.YteonfhnljphbpaaGreat
open Go Go.AI Go.Proofs
attribute [local irreducible] FnP FnO FnB FnT FnSeq WK RunQ RunQW RunX RunXW

@[simp] theorem GroupMod.len (x : GroupMod) : x.enc.length = 4 := rfl
@[simp] theorem GroupMod.cl (x : GroupMod) : ClL x.enc = true := by simp [GroupMod.enc, ClL, Cl]
@[simp] theorem GroupMod.take (x : GroupMod) : x.enc.take 4 = x.enc := rfl
def prE (x : Int × Nat) : List AV := [.int .i64 x.1, .int .i64 x.2]
def prL (l : List (Int × Nat)) : List AV := l.flatMap prE
theorem prE_len (x : Int × Nat) : (prE x).length = 2 := rfl
@[simp] theorem prL_len (l : List (Int × Nat)) : (prL l).length = l.length * 2 := fm_length prE_len l
@[simp] theorem prL_cl (l : List (Int × Nat)) : ClL (prL l) = true := ClL_flatMap _ (fun x => by simp [prE, ClL, Cl]) l
theorem pr_load (l : List (Int × Nat)) (i : Nat) (h : i < l.length) : ((prL l).drop (i * 2)).take 2 = prE (nth l i) ∧ 2 ≤ l.length * 2 - i * 2 := ⟨fm_nth prE_len l i h, by omega⟩
def fldF (l : List (Int × Nat)) : List (BitVec 8) := l.foldl (fun b x => putN b x.1 x.2) []
theorem fldF_succ {l : List (Int × Nat)} {i : Nat} (h : i < l.length) : fldF (l.take (i + 1)) = putN (fldF (l.take i)) (nth l i).1 (nth l i).2 := by
  unfold fldF; rw [take_nth h, List.foldl_append]; rfl
theorem fldF_len {l : List (Int × Nat)} (hs : ∀ x, x ∈ l → Sz x.2) : ∀ i, (fldF (l.take i)).length ≤ i * 4
  | 0 => by simp [fldF]
  | i + 1 => by
    by_cases h : i < l.length
    · have h1 := fldF_len hs i
      have h2 := putN_len (fldF (l.take i)) (nth l i).1 (nth l i).2
      have h3 := hs _ (nth_mem h)
      unfold Sz at h3
      rw [fldF_succ h]; omega
    · have h1 := fldF_len hs i
      rw [List.take_of_length_le (by omega)] at h1 ⊢
      omega
theorem gfields_c (l : List (Int × Nat)) (hs : ∀ x, x ∈ l → Sz x.2) (hl : l.length ≤ 1000) : FnO Tryz.prog 45 [.sl true l.length (prL l)] (fldF l).length 1 (byL (fldF l)) := by
  refine FnO.intro Tryz.func45 rfl rfl fun G w => ?_
  repeat' (first
   | refine WK.seq ?_
   | refine WK.block ?_
   | refine WK.inBlock ?_
   | refine WK.skip ?_
   | refine WK.label ?_
   | refine WK.scope ?_
   | refine WK.inScope ?_
   | refine WK.exit rfl ?_
   | refine WK.condT rfl ?_
   | refine WK.condF rfl ?_
   | (refine Hid.h hQ _ _ ?_; clear hQ hA)
   | refine WK.condAny rfl ?_ ?_
   | ((first | refine WK.cond2 rfl (fun h => ?_) (fun h => ?_)) <;> (first | (simp [*] at h; done) | (have h2 := h; simp at h2; exfalso; omega) | (have h2 := h; simp at h2; try simp only [Bool.not_eq_true', Bool.not_eq_false'] at h) | skip))
   | (refine WK.regH Tryz.ntmps45 (by kernel_rfl) ?_; intro A hA Q hQ; simp [*])
   | fail)
  repeat (first | refine WK.seq ?_ | refine WK.block ?_ | refine WK.inBlock ?_ | refine WK.skip ?_ | refine WK.label ?_ | refine WK.scope ?_ | refine WK.inScope ?_ | refine WK.exit rfl ?_)
  refine WK.ghost (Ghost.own 3 900 1 rfl rfl) ?_
  repeat (first | refine WK.seq ?_ | refine WK.block ?_ | refine WK.inBlock ?_ | refine WK.skip ?_ | refine WK.label ?_ | refine WK.scope ?_ | refine WK.inScope ?_ | refine WK.exit rfl ?_)
  refine WK.loopI (fun n => if n = 1 then 900 else n) (fun i : Nat => (⟨(upd (upd (upd (upd J 3 (.msl 1 0 (fldF (l.take i)).length)) 6 (.sl true l.length (prL l))) 7 (.int .i64 l.length)) 8 (.int .i64 i)), (upd B0 1 (.buf 1 (byL (fldF (l.take i))))), 0⟩ : St)) (fun i => i ≤ l.length) (fun i => l.length - i) (0) (by repeat (first | exact TmW.nil | refine TmW.upd ?_ (by simp (maxDischargeDepth := 120) [fldF, byL_nil]))) (by repeat (first | exact BxW.nil | refine BxW.upd ?_ (by simp (maxDischargeDepth := 120) [fldF, byL_nil]))) (by first | exact InjW.id | exact InjW.nil | exact InjW.one | exact InjW.two (by simp) | exact InjW.three (by simp) (by simp) (by simp)) (Nat.zero_le _) (fun i hi IH => ?_)
  by_cases h1 : i < l.length
  · obtain ⟨h4, h3⟩ := pr_load l i h1
    have h6 : IntKind.i64.wrap ((i : Int) + 1) = i + 1 := wrap_i64 (by omega) (by omega)
    have hnx := fldF_succ h1
    have hln := fldF_len hs i
    have c := nput_c (fldF (l.take i)) (nth l i).1 (nth l i).2 (hs _ (nth_mem h1)) (by omega)
    obtain ⟨F, hF⟩ : ∃ F, fldF (l.take i) = F := ⟨_, rfl⟩
    rw [hF] at hnx c ⊢
    have hfu := by_full F F.length rfl
    unfold byS at c
    unfold prE at h4
    clear hF hln
    repeat' (first
     | refine WK.seq ?_
     | refine WK.block ?_
     | refine WK.inBlock ?_
     | refine WK.skip ?_
     | refine WK.label ?_
     | refine WK.scope ?_
     | refine WK.inScope ?_
     | refine WK.exit rfl ?_
     | refine WK.condT rfl ?_
     | refine WK.condF rfl ?_
     | (refine Hid.h hQ _ _ ?_; clear hQ hA)
     | refine WK.condAny rfl ?_ ?_
     | ((first | refine WK.cond2 rfl (fun h => ?_) (fun h => ?_)) <;> (first | (simp [*] at h; done) | (have h2 := h; simp at h2; exfalso; omega) | (have h2 := h; simp at h2; try simp only [Bool.not_eq_true', Bool.not_eq_false'] at h) | skip))
     | (refine WK.regH Tryz.ntmps45 (by kernel_rfl) ?_; intro A hA Q hQ; simp [*])
     | (refine RunQ.callOz 901 12 1 rfl rfl rfl rfl rfl rfl rfl ?_ (c) ?_ ?_ (by simp) (by decide) ?_; (focus (simp (maxDischargeDepth := 120) [*]; done)); (focus (simp [*]; done)); (focus (simp [*]; done)); refine RunQ.evalH ?_; simp [*])
     | fail)
    repeat (first | refine WK.seq ?_ | refine WK.block ?_ | refine WK.inBlock ?_ | refine WK.skip ?_ | refine WK.label ?_ | refine WK.scope ?_ | refine WK.inScope ?_ | refine WK.exit rfl ?_)
    refine WK.next (fun n => if n = 1 then 901 else n) (IH (i + 1) (by omega) (by first | omega | (dsimp only; omega))) (by repeat (first | exact TmW.nil | refine TmW.upd ?_ (by simp (maxDischargeDepth := 120) [hnx]))) (by repeat (first | exact BxW.nil | refine BxW.upd ?_ (by simp (maxDischargeDepth := 120) [hnx]))) (by first | exact InjW.id | exact InjW.nil | exact InjW.one | exact InjW.two (by simp) | exact InjW.three (by simp) (by simp) (by simp))
  · have hT : l.take i = l := List.take_of_length_le (by omega)
    rw [hT]
    repeat' (first
     | refine WK.seq ?_
     | refine WK.block ?_
     | refine WK.inBlock ?_
     | refine WK.skip ?_
     | refine WK.label ?_
     | refine WK.scope ?_
     | refine WK.inScope ?_
     | refine WK.exit rfl ?_
     | refine WK.condT rfl ?_
     | refine WK.condF rfl ?_
     | (refine Hid.h hQ _ _ ?_; clear hQ hA)
     | refine WK.condAny rfl ?_ ?_
     | ((first | refine WK.cond2 rfl (fun h => ?_) (fun h => ?_)) <;> (first | (simp [*] at h; done) | (have h2 := h; simp at h2; exfalso; omega) | (have h2 := h; simp at h2; try simp only [Bool.not_eq_true', Bool.not_eq_false'] at h) | skip))
     | (refine WK.regH Tryz.ntmps45 (by kernel_rfl) ?_; intro A hA Q hQ; simp [*])
     | (refine WK.retO Tryz.func45 rfl rfl ?_ ?_ <;> simp (maxDischargeDepth := 120) [*])
     | fail)
theorem gbad_c (k c : Int) : FnP Tryz.prog 33 [.int .i64 k, .int .i64 c] (.tup [.agg gm0.enc, .agg (gFault (some (k, c)))]) := by
  refine FnP.intro Tryz.func33 rfl rfl fun G w => ?_
  repeat' (first
   | refine WK.seq ?_
   | refine WK.block ?_
   | refine WK.inBlock ?_
   | refine WK.skip ?_
   | refine WK.label ?_
   | refine WK.scope ?_
   | refine WK.inScope ?_
   | refine WK.exit rfl ?_
   | refine WK.condT rfl ?_
   | refine WK.condF rfl ?_
   | (refine Hid.h hQ _ _ ?_; clear hQ hA)
   | refine WK.condAny rfl ?_ ?_
   | ((first | refine WK.cond2 rfl (fun h => ?_) (fun h => ?_)) <;> (first | (simp [*] at h; done) | (have h2 := h; simp at h2; exfalso; omega) | (have h2 := h; simp at h2; try simp only [Bool.not_eq_true', Bool.not_eq_false'] at h) | skip))
   | (refine WK.regH Tryz.ntmps33 (by kernel_rfl) ?_; intro A hA Q hQ; simp [*])
   | (refine WK.ret Tryz.func33 ?_ ?_ <;> simp (maxDischargeDepth := 120) [Tryz.results33, gFault, gm0, GroupMod.enc, *])
   | fail)
theorem gwithin_c (n t : Int) : FnP Tryz.prog 35 [.int .i64 n, .int .i64 t] (.bool (gmIn n t)) := by
  have e : gmIn n t = (decide (0 ≤ n) && decide (n ≤ t)) := rfl
  refine FnP.intro Tryz.func35 rfl rfl fun G w => ?_
  repeat' (first
   | refine WK.seq ?_
   | refine WK.block ?_
   | refine WK.inBlock ?_
   | refine WK.skip ?_
   | refine WK.label ?_
   | refine WK.scope ?_
   | refine WK.inScope ?_
   | refine WK.exit rfl ?_
   | refine WK.condT rfl ?_
   | refine WK.condF rfl ?_
   | (refine Hid.h hQ _ _ ?_; clear hQ hA)
   | refine WK.condAny rfl ?_ ?_
   | ((first | refine WK.cond2 rfl (fun h => ?_) (fun h => ?_) | refine Fork.mk (fun h => ?_) (fun h => ?_)) <;> (first | (simp [*] at h; done) | (have h2 := h; simp at h2; exfalso; omega) | (have h2 := h; simp at h2; try simp only [Bool.not_eq_true', Bool.not_eq_false'] at h) | skip))
   | (refine WK.regH Tryz.ntmps35 (by kernel_rfl) ?_; intro A hA Q hQ; simp [*])
   | (refine RunQ.gd rfl (by rw [hA.h]; rfl) ?_; simp [*])
   | (refine WK.ret Tryz.func35 ?_ ?_ <;> simp (maxDischargeDepth := 120) [Tryz.results35, *])
   | fail)
structure GmFit (g : GroupMod) : Prop where
  len : g.buckets.length ≤ 1000000
  acts : ∀ x, x ∈ g.buckets → x.acts.length ≤ 1000000
theorem gright_c (g : GroupMod) (hg : GmFit g) : FnP Tryz.prog 15 [.agg g.enc] (.bool (gmRight g)) := by
  have p := bkencP_c g.buckets hg.len hg.acts
  have n1 := gwithin_c g.command 2
  have n2 := gwithin_c g.kind 3
  have n3 := nright_c g.id 4 Sz4
  have e : gmRight g = ((bkEnc g.buckets).2 == 0 && (gmIn g.command 2 && (gmIn g.kind 3 && numOk g.id 4))) := rfl
  obtain ⟨R, hR⟩ : ∃ R, bkEnc g.buckets = R := ⟨_, rfl⟩
  rw [hR] at p e
  simp only [byS, bukS] at p
  refine FnP.intro Tryz.func15 rfl rfl fun G w => ?_
  repeat' (first
   | refine WK.seq ?_
   | refine WK.block ?_
   | refine WK.inBlock ?_
   | refine WK.skip ?_
   | refine WK.label ?_
   | refine WK.scope ?_
   | refine WK.inScope ?_
   | refine WK.exit rfl ?_
   | refine WK.condT rfl ?_
   | refine WK.condF rfl ?_
   | (refine Hid.h hQ _ _ ?_; clear hQ hA)
   | refine WK.condAny rfl ?_ ?_
   | ((first | refine WK.cond2 rfl (fun h => ?_) (fun h => ?_) | refine Fork.mk (fun h => ?_) (fun h => ?_)) <;> (first | (simp [*] at h; done) | (have h2 := h; simp at h2; exfalso; omega) | (have h2 := h; simp at h2; try simp only [Bool.not_eq_true', Bool.not_eq_false'] at h) | skip))
   | (refine WK.regH Tryz.ntmps15 (by kernel_rfl) ?_; intro A hA Q hQ; simp [GroupMod.enc, *])
   | (refine RunQ.gd rfl (by rw [hA.h]; rfl) ?_; simp [GroupMod.enc, *])
   | ((first | ((first | refine RunQ.call rfl rfl rfl rfl rfl ?_ (p) ?_ ?_ | refine RunQW.call rfl rfl rfl rfl ?_ (p) ?_ ?_); (focus (simp (maxDischargeDepth := 120) [GroupMod.enc, *]; done))) | ((first | refine RunQ.call rfl rfl rfl rfl rfl ?_ (n1) ?_ ?_ | refine RunQW.call rfl rfl rfl rfl ?_ (n1) ?_ ?_); (focus (simp (maxDischargeDepth := 120) [GroupMod.enc, *]; done))) | ((first | refine RunQ.call rfl rfl rfl rfl rfl ?_ (n2) ?_ ?_ | refine RunQW.call rfl rfl rfl rfl ?_ (n2) ?_ ?_); (focus (simp (maxDischargeDepth := 120) [GroupMod.enc, *]; done))) | ((first | refine RunQ.call rfl rfl rfl rfl rfl ?_ (n3) ?_ ?_ | refine RunQW.call rfl rfl rfl rfl ?_ (n3) ?_ ?_); (focus (simp (maxDischargeDepth := 120) [GroupMod.enc, *]; done)))); (focus (simp [GroupMod.enc, *]; done)); refine RunQ.evalH ?_; simp [GroupMod.enc, *])
   | (refine WK.ret Tryz.func15 ?_ ?_ <;> simp (maxDischargeDepth := 120) [Tryz.results15, GroupMod.enc, *])
   | fail)
theorem gmFld {g : GroupMod} (h : gmRight g = true) : fldF [(g.command, 2), (g.kind, 1), (0, 1), (g.id, 4)] = gmHead g ∧ (bkEnc g.buckets).2 = 0 := by
  unfold gmRight at h
  rw [Bool.and_eq_true, Bool.and_eq_true, Bool.and_eq_true, beq_iff_eq] at h
  obtain ⟨h0, h1, h2, h3⟩ := h
  refine ⟨?_, h0⟩
  show putN (putN (putN (putN [] g.command 2) g.kind 1) 0 1) g.id 4 = _
  rw [putN_beN (gmIn_ok h1 (by decide)), putN_beN (gmIn_ok h2 (by decide)), putN_beN h3, putN_beN (n := 0) (s := 1) (by decide)]
  unfold gmHead
  simp only [List.nil_append, List.append_assoc]
theorem gmHead_len (g : GroupMod) : (gmHead g).length = 8 := by unfold gmHead; simp [beN_len]
theorem genc_c (g : GroupMod) (hg : GmFit g) : FnT Tryz.prog 12 [.agg g.enc] (gmEnc g).1.length 1 (byL (gmEnc g).1) [.int .i64 (gmEnc g).2] := by
  have r := gright_c g hg
  cases hr : gmRight g
  · have e : gmEnc g = ([], 1) := by unfold gmEnc; rw [if_neg (by rw [hr]; exact Bool.false_ne_true)]
    rw [hr] at r
    rw [e]
    unfold GroupMod.enc at *
    refine FnT.intro Tryz.func12 rfl rfl fun G w => ?_
    repeat' (first
     | refine WK.seq ?_
     | refine WK.block ?_
     | refine WK.inBlock ?_
     | refine WK.skip ?_
     | refine WK.label ?_
     | refine WK.scope ?_
     | refine WK.inScope ?_
     | refine WK.exit rfl ?_
     | refine WK.condT rfl ?_
     | refine WK.condF rfl ?_
     | (refine Hid.h hQ _ _ ?_; clear hQ hA)
     | refine WK.condAny rfl ?_ ?_
     | ((first | refine WK.cond2 rfl (fun h => ?_) (fun h => ?_)) <;> (first | (simp [*] at h; done) | (have h2 := h; simp at h2; exfalso; omega) | (have h2 := h; simp at h2; try simp only [Bool.not_eq_true', Bool.not_eq_false'] at h) | skip))
     | (refine WK.regH Tryz.ntmps12 (by kernel_rfl) ?_; intro A hA Q hQ; simp [*])
     | ((refine RunQ.call rfl rfl rfl rfl rfl ?_ (r) ?_ ?_; (focus (simp (maxDischargeDepth := 120) [*]; done))); (focus (simp [*]; done)); refine RunQ.evalH ?_; simp [*])
     | fail)
    repeat (first | refine WK.seq ?_ | refine WK.block ?_ | refine WK.inBlock ?_ | refine WK.skip ?_ | refine WK.label ?_ | refine WK.scope ?_ | refine WK.inScope ?_ | refine WK.exit rfl ?_)
    refine WK.ghost (Ghost.own 2 900 1 rfl rfl) ?_
    repeat (first | refine WK.seq ?_ | refine WK.block ?_ | refine WK.inBlock ?_ | refine WK.skip ?_ | refine WK.label ?_ | refine WK.scope ?_ | refine WK.inScope ?_ | refine WK.exit rfl ?_)
    refine WK.retT2 Tryz.func12 ?_ ?_ ?_ <;> simp (maxDischargeDepth := 120) [Tryz.results12, byL_nil]
  obtain ⟨hf, h0⟩ := gmFld hr
  have e : gmEnc g = (gmHead g ++ (bkEnc g.buckets).1, 0) := by unfold gmEnc; rw [if_pos hr]
  have p := bkencP_c g.buckets hg.len hg.acts
  have hEl := bkEnc_len g.buckets
  have hHl := gmHead_len g
  have c := gfields_c [(g.command, 2), (g.kind, 1), (0, 1), (g.id, 4)] (by simp [Sz]) (by simp)
  rw [hf] at c
  rw [h0] at p
  rw [hr] at r
  obtain ⟨E, hE⟩ : ∃ E, (bkEnc g.buckets).1 = E := ⟨_, rfl⟩
  obtain ⟨F, hF⟩ : ∃ F, gmHead g = F := ⟨_, rfl⟩
  rw [hE] at p e hEl
  rw [hF] at c e hHl
  rw [e]
  have hbd : F.length + E.length ≤ 140737488355328 := by omega
  have hfu := by_full E E.length rfl
  simp only [byS, bukS, prL, prE, List.flatMap_cons, List.flatMap_nil, List.append_nil, List.cons_append, List.nil_append, List.length_cons, List.length_nil, Nat.zero_add, Nat.reduceAdd] at p c
  unfold GroupMod.enc at *
  clear hE hF hf hEl hHl hg e hr h0
  refine FnT.intro Tryz.func12 rfl rfl fun G w => ?_
  repeat' (first
   | refine WK.seq ?_
   | refine WK.block ?_
   | refine WK.inBlock ?_
   | refine WK.skip ?_
   | refine WK.label ?_
   | refine WK.scope ?_
   | refine WK.inScope ?_
   | refine WK.exit rfl ?_
   | refine WK.condT rfl ?_
   | refine WK.condF rfl ?_
   | (refine Hid.h hQ _ _ ?_; clear hQ hA)
   | refine WK.condAny rfl ?_ ?_
   | ((first | refine WK.cond2 rfl (fun h => ?_) (fun h => ?_)) <;> (first | (simp [*] at h; done) | (have h2 := h; simp at h2; exfalso; omega) | (have h2 := h; simp at h2; try simp only [Bool.not_eq_true', Bool.not_eq_false'] at h) | skip))
   | (refine WK.regH Tryz.ntmps12 (by kernel_rfl) ?_; intro A hA Q hQ; simp [*])
   | (refine RunQ.callO 900 rfl rfl rfl rfl rfl ?_ (c) ?_ ?_ ?_ ?_; (focus (simp (maxDischargeDepth := 120) [*]; done)); (focus (simp [*]; done)); (focus (simp [*]; done)); (focus (simp [*]; done)); refine RunQ.evalH ?_; simp [*])
   | (refine RunQ.append 901 appByte rfl rfl rfl rfl rfl rfl rfl rfl rfl ?_ ?_ ?_ ?_ ?_; (focus (first | omega | (simp [*]; done); done)); (focus (first | omega | (simp [*]; done); done)); (focus (first | omega | (simp [*]; done); done)); (focus (first | omega | (simp [*]; done); done)); refine RunQ.evalH ?_; simp [*])
   | ((first | (refine RunQ.call rfl rfl rfl rfl rfl ?_ (r) ?_ ?_; (focus (simp (maxDischargeDepth := 120) [*]; done))) | (refine RunQ.call rfl rfl rfl rfl rfl ?_ (p) ?_ ?_; (focus (simp (maxDischargeDepth := 120) [*]; done)))); (focus (simp [*]; done)); refine RunQ.evalH ?_; simp [*])
   | (refine WK.retT2 Tryz.func12 ?_ ?_ ?_ <;> simp (maxDischargeDepth := 120) [Tryz.results12, byL_app, *])
   | fail)
theorem getN_one {b : List (BitVec 8)} {p : Nat} (h : p < b.length) : getN b p 1 = (bI (nth b p), 0) := by
  unfold getN
  rw [if_pos (by omega)]
  have : (b.drop p).take 1 = [nth b p] := by
    rw [nth_eq h, List.drop_eq_getElem_cons h]; rfl
  rw [this]
  simp [valN, bI]
set_option maxHeartbeats 4000000 in
theorem gdec_c (b : List (BitVec 8)) (hb : b.length ≤ 1000000) : FnP Tryz.prog 8 [byS b] (.tup [.agg (gmDec b).1.enc, .agg (gFault (gmDec b).2)]) := by
  have b16 := gbad_c 1 6
  have b611 := gbad_c 6 11
  have b610 := gbad_c 6 10
  by_cases c0 : b.length < 8
  · have e : gmDec b = (gm0, some (1, 6)) := by unfold gmDec; rw [if_pos (.inl c0)]
    have c0' : (b.length : Int) < 8 := by omega
    rw [e]
    unfold byS
    clear b611 b610
    refine FnP.intro Tryz.func8 rfl rfl fun G w => ?_
    repeat' (first
     | refine WK.seq ?_
     | refine WK.block ?_
     | refine WK.inBlock ?_
     | refine WK.skip ?_
     | refine WK.label ?_
     | refine WK.scope ?_
     | refine WK.inScope ?_
     | refine WK.exit rfl ?_
     | refine WK.condT rfl ?_
     | refine WK.condF rfl ?_
     | (refine Hid.h hQ _ _ ?_; clear hQ hA)
     | refine WK.condAny rfl ?_ ?_
     | ((first | refine WK.cond2 rfl (fun h => ?_) (fun h => ?_) | refine Fork.mk (fun h => ?_) (fun h => ?_)) <;> (first | (simp [*] at h; done) | (have h2 := h; simp at h2; exfalso; omega) | (have h2 := h; simp at h2; try simp only [Bool.not_eq_true', Bool.not_eq_false'] at h) | skip))
     | ((first | refine WK.regH Tryz.ntmps8 (by kernel_rfl) ?_ | refine WK.regX (by kernel_rfl) Tryz.ntmps8 (by kernel_rfl) ?_); intro A hA Q hQ; simp [gFault, gm0, GroupMod.enc, *])
     | (refine Hid.h hQ _ _ _ (by decide +kernel) ?_; clear hQ hA)
     | ((first | refine RunQ.gd rfl (by rw [hA.h]; rfl) ?_ | refine RunX.gd rfl (by rw [hA.h]; rfl) ?_); simp [gFault, gm0, GroupMod.enc, *])
     | (((first | refine RunQ.call rfl rfl rfl rfl rfl ?_ (b16) ?_ ?_ | refine RunQW.call rfl rfl rfl rfl ?_ (b16) ?_ ?_ | refine RunX.call rfl rfl rfl rfl ?_ (b16) ?_ ?_ | refine RunXW.call rfl rfl rfl ?_ (b16) ?_ ?_); (focus (simp (maxDischargeDepth := 120) [gFault, gm0, GroupMod.enc, *]; done))); (focus (simp [gFault, gm0, GroupMod.enc, *]; done)); (first | refine RunQ.evalH ?_ | refine RunX.evalY ?_); simp [gFault, gm0, GroupMod.enc, *])
     | (refine WK.ret Tryz.func8 ?_ ?_ <;> simp (maxDischargeDepth := 120) [Tryz.results8, gFault, gm0, GroupMod.enc, *])
     | fail)
  have c0' : ¬ (b.length : Int) < 8 := by omega
  have x3 := by_get b 3 (by omega)
  have y3 := bI_zero (nth b 3)
  have u3 : (3 : Int) < b.length := by omega
  have v3 : 3 < b.length := by omega
  have hdef : gmDec b = if (nth b 3 == 0#8) = false then (gm0, some (1, 6)) else if gmIn (getN b 0 2).1 2 = false then (gm0, some (6, 11))
    else if gmIn (getN b 2 1).1 3 = false then (gm0, some (6, 10))
    else match (bkDec (b.drop 8)).2 with
      | some c => (gm0, some c)
      | none => (⟨(getN b 0 2).1, (getN b 2 1).1, (getN b 4 4).1, (bkDec (b.drop 8)).1⟩, none) := by
    unfold gmDec
    rw [getN_one v3]
    by_cases h : (nth b 3 == 0#8) = false
    · rw [if_pos h, if_pos (.inr (by rw [← y3] at h; simpa using h))]
    · rw [if_neg h, if_neg (by rintro (h' | h'); exact c0 h'; rw [Bool.not_eq_false] at h; rw [h] at y3; exact h' (by simpa using y3))]; rfl
  have g0 := nget_c b 0 2 Sz2 (by omega) (by omega)
  have g1 := nget_c b 2 1 Sz1 (by omega) (by omega)
  have g2 := nget_c b 4 4 Sz4 (by omega) (by omega)
  obtain ⟨k3, hk3⟩ : ∃ k, nth b 3 = k := ⟨_, rfl⟩
  rw [hk3] at x3 y3 hdef
  obtain ⟨z3, hz3⟩ : ∃ k, (k3 == 0#8) = k := ⟨_, rfl⟩
  rw [hz3] at y3 hdef
  obtain ⟨q0, hq0⟩ : ∃ q, getN b 0 2 = q := ⟨_, rfl⟩
  obtain ⟨q1, hq1⟩ : ∃ q, getN b 2 1 = q := ⟨_, rfl⟩
  obtain ⟨q2, hq2⟩ : ∃ q, getN b 4 4 = q := ⟨_, rfl⟩
  rw [hq0] at g0 hdef
  rw [hq1] at g1 hdef
  rw [hq2] at g2 hdef
  have w1 := gwithin_c q0.1 2
  have w2 := gwithin_c q1.1 3
  have d := bkdecP_c (b.drop 8) (by rw [List.length_drop]; omega)
  have hs : ((byL b).drop 8).take (b.length - 8) = byL (b.drop 8) := by rw [byL_drop]; exact by_full _ _ (by rw [List.length_drop])
  have u8 : (8 : Int) ≤ b.length := by omega
  simp only [byS, bukS, List.length_drop] at d g0 g1 g2 ⊢
  obtain ⟨S, hS⟩ : ∃ S, b.drop 8 = S := ⟨_, rfl⟩
  rw [hS] at hs d hdef
  clear hk3 hz3 hq0 hq1 hq2 hS
  cases z3
  · rw [if_pos rfl] at hdef
    rw [hdef]
    clear d w1 w2 g0 g1 g2 hs
    refine FnP.intro Tryz.func8 rfl rfl fun G w => ?_
    repeat' (first
     | refine WK.seq ?_
     | refine WK.block ?_
     | refine WK.inBlock ?_
     | refine WK.skip ?_
     | refine WK.label ?_
     | refine WK.scope ?_
     | refine WK.inScope ?_
     | refine WK.exit rfl ?_
     | refine WK.condT rfl ?_
     | refine WK.condF rfl ?_
     | (refine Hid.h hQ _ _ ?_; clear hQ hA)
     | refine WK.condAny rfl ?_ ?_
     | ((first | refine WK.cond2 rfl (fun h => ?_) (fun h => ?_) | refine Fork.mk (fun h => ?_) (fun h => ?_)) <;> (first | (simp [*] at h; done) | (have h2 := h; simp at h2; exfalso; omega) | (have h2 := h; simp at h2; try simp only [Bool.not_eq_true', Bool.not_eq_false'] at h) | skip))
     | ((first | refine WK.regH Tryz.ntmps8 (by kernel_rfl) ?_ | refine WK.regX (by kernel_rfl) Tryz.ntmps8 (by kernel_rfl) ?_); intro A hA Q hQ; simp [gFault, gm0, GroupMod.enc, bne, *])
     | (refine Hid.h hQ _ _ _ (by decide +kernel) ?_; clear hQ hA)
     | ((first | refine RunQ.gd rfl (by rw [hA.h]; rfl) ?_ | refine RunX.gd rfl (by rw [hA.h]; rfl) ?_); simp [gFault, gm0, GroupMod.enc, bne, *])
     | (((first | refine RunQ.call rfl rfl rfl rfl rfl ?_ (b16) ?_ ?_ | refine RunQW.call rfl rfl rfl rfl ?_ (b16) ?_ ?_ | refine RunX.call rfl rfl rfl rfl ?_ (b16) ?_ ?_ | refine RunXW.call rfl rfl rfl ?_ (b16) ?_ ?_); (focus (simp (maxDischargeDepth := 120) [gFault, gm0, GroupMod.enc, bne, *]; done))); (focus (simp [gFault, gm0, GroupMod.enc, bne, *]; done)); (first | refine RunQ.evalH ?_ | refine RunX.evalY ?_); simp [gFault, gm0, GroupMod.enc, bne, *])
     | (refine WK.ret Tryz.func8 ?_ ?_ <;> simp (maxDischargeDepth := 120) [Tryz.results8, gFault, gm0, GroupMod.enc, bne, *])
     | fail)
  rw [if_neg (by simp)] at hdef
  obtain ⟨i1, hi1⟩ : ∃ i, gmIn q0.1 2 = i := ⟨_, rfl⟩
  rw [hi1] at w1 hdef
  cases i1
  · rw [if_pos rfl] at hdef
    rw [hdef]
    clear d w2 hs
    refine FnP.intro Tryz.func8 rfl rfl fun G w => ?_
    repeat' (first
     | refine WK.seq ?_
     | refine WK.block ?_
     | refine WK.inBlock ?_
     | refine WK.skip ?_
     | refine WK.label ?_
     | refine WK.scope ?_
     | refine WK.inScope ?_
     | refine WK.exit rfl ?_
     | refine WK.condT rfl ?_
     | refine WK.condF rfl ?_
     | (refine Hid.h hQ _ _ ?_; clear hQ hA)
     | refine WK.condAny rfl ?_ ?_
     | ((first | refine WK.cond2 rfl (fun h => ?_) (fun h => ?_) | refine Fork.mk (fun h => ?_) (fun h => ?_)) <;> (first | (simp [*] at h; done) | (have h2 := h; simp at h2; exfalso; omega) | (have h2 := h; simp at h2; try simp only [Bool.not_eq_true', Bool.not_eq_false'] at h) | skip))
     | ((first | refine WK.regH Tryz.ntmps8 (by kernel_rfl) ?_ | refine WK.regX (by kernel_rfl) Tryz.ntmps8 (by kernel_rfl) ?_); intro A hA Q hQ; simp [gFault, gm0, GroupMod.enc, bne, *])
     | (refine Hid.h hQ _ _ _ (by decide +kernel) ?_; clear hQ hA)
     | ((first | refine RunQ.gd rfl (by rw [hA.h]; rfl) ?_ | refine RunX.gd rfl (by rw [hA.h]; rfl) ?_); simp [gFault, gm0, GroupMod.enc, bne, *])
     | ((first | ((first | refine RunQ.call rfl rfl rfl rfl rfl ?_ (g0) ?_ ?_ | refine RunQW.call rfl rfl rfl rfl ?_ (g0) ?_ ?_ | refine RunX.call rfl rfl rfl rfl ?_ (g0) ?_ ?_ | refine RunXW.call rfl rfl rfl ?_ (g0) ?_ ?_); (focus (simp (maxDischargeDepth := 120) [gFault, gm0, GroupMod.enc, bne, *]; done))) | ((first | refine RunQ.call rfl rfl rfl rfl rfl ?_ (g1) ?_ ?_ | refine RunQW.call rfl rfl rfl rfl ?_ (g1) ?_ ?_ | refine RunX.call rfl rfl rfl rfl ?_ (g1) ?_ ?_ | refine RunXW.call rfl rfl rfl ?_ (g1) ?_ ?_); (focus (simp (maxDischargeDepth := 120) [gFault, gm0, GroupMod.enc, bne, *]; done))) | ((first | refine RunQ.call rfl rfl rfl rfl rfl ?_ (g2) ?_ ?_ | refine RunQW.call rfl rfl rfl rfl ?_ (g2) ?_ ?_ | refine RunX.call rfl rfl rfl rfl ?_ (g2) ?_ ?_ | refine RunXW.call rfl rfl rfl ?_ (g2) ?_ ?_); (focus (simp (maxDischargeDepth := 120) [gFault, gm0, GroupMod.enc, bne, *]; done))) | ((first | refine RunQ.call rfl rfl rfl rfl rfl ?_ (w1) ?_ ?_ | refine RunQW.call rfl rfl rfl rfl ?_ (w1) ?_ ?_ | refine RunX.call rfl rfl rfl rfl ?_ (w1) ?_ ?_ | refine RunXW.call rfl rfl rfl ?_ (w1) ?_ ?_); (focus (simp (maxDischargeDepth := 120) [gFault, gm0, GroupMod.enc, bne, *]; done))) | ((first | refine RunQ.call rfl rfl rfl rfl rfl ?_ (b611) ?_ ?_ | refine RunQW.call rfl rfl rfl rfl ?_ (b611) ?_ ?_ | refine RunX.call rfl rfl rfl rfl ?_ (b611) ?_ ?_ | refine RunXW.call rfl rfl rfl ?_ (b611) ?_ ?_); (focus (simp (maxDischargeDepth := 120) [gFault, gm0, GroupMod.enc, bne, *]; done)))); (focus (simp [gFault, gm0, GroupMod.enc, bne, *]; done)); (first | refine RunQ.evalH ?_ | refine RunX.evalY ?_); simp [gFault, gm0, GroupMod.enc, bne, *])
     | (refine WK.ret Tryz.func8 ?_ ?_ <;> simp (maxDischargeDepth := 120) [Tryz.results8, gFault, gm0, GroupMod.enc, bne, *])
     | fail)
  rw [if_neg (by simp)] at hdef
  obtain ⟨i2, hi2⟩ : ∃ i, gmIn q1.1 3 = i := ⟨_, rfl⟩
  rw [hi2] at w2 hdef
  cases i2
  · rw [if_pos rfl] at hdef
    rw [hdef]
    clear d hs
    refine FnP.intro Tryz.func8 rfl rfl fun G w => ?_
    repeat' (first
     | refine WK.seq ?_
     | refine WK.block ?_
     | refine WK.inBlock ?_
     | refine WK.skip ?_
     | refine WK.label ?_
     | refine WK.scope ?_
     | refine WK.inScope ?_
     | refine WK.exit rfl ?_
     | refine WK.condT rfl ?_
     | refine WK.condF rfl ?_
     | (refine Hid.h hQ _ _ ?_; clear hQ hA)
     | refine WK.condAny rfl ?_ ?_
     | ((first | refine WK.cond2 rfl (fun h => ?_) (fun h => ?_) | refine Fork.mk (fun h => ?_) (fun h => ?_)) <;> (first | (simp [*] at h; done) | (have h2 := h; simp at h2; exfalso; omega) | (have h2 := h; simp at h2; try simp only [Bool.not_eq_true', Bool.not_eq_false'] at h) | skip))
     | ((first | refine WK.regH Tryz.ntmps8 (by kernel_rfl) ?_ | refine WK.regX (by kernel_rfl) Tryz.ntmps8 (by kernel_rfl) ?_); intro A hA Q hQ; simp [gFault, gm0, GroupMod.enc, bne, *])
     | (refine Hid.h hQ _ _ _ (by decide +kernel) ?_; clear hQ hA)
     | ((first | refine RunQ.gd rfl (by rw [hA.h]; rfl) ?_ | refine RunX.gd rfl (by rw [hA.h]; rfl) ?_); simp [gFault, gm0, GroupMod.enc, bne, *])
     | ((first | ((first | refine RunQ.call rfl rfl rfl rfl rfl ?_ (g0) ?_ ?_ | refine RunQW.call rfl rfl rfl rfl ?_ (g0) ?_ ?_ | refine RunX.call rfl rfl rfl rfl ?_ (g0) ?_ ?_ | refine RunXW.call rfl rfl rfl ?_ (g0) ?_ ?_); (focus (simp (maxDischargeDepth := 120) [gFault, gm0, GroupMod.enc, bne, *]; done))) | ((first | refine RunQ.call rfl rfl rfl rfl rfl ?_ (g1) ?_ ?_ | refine RunQW.call rfl rfl rfl rfl ?_ (g1) ?_ ?_ | refine RunX.call rfl rfl rfl rfl ?_ (g1) ?_ ?_ | refine RunXW.call rfl rfl rfl ?_ (g1) ?_ ?_); (focus (simp (maxDischargeDepth := 120) [gFault, gm0, GroupMod.enc, bne, *]; done))) | ((first | refine RunQ.call rfl rfl rfl rfl rfl ?_ (g2) ?_ ?_ | refine RunQW.call rfl rfl rfl rfl ?_ (g2) ?_ ?_ | refine RunX.call rfl rfl rfl rfl ?_ (g2) ?_ ?_ | refine RunXW.call rfl rfl rfl ?_ (g2) ?_ ?_); (focus (simp (maxDischargeDepth := 120) [gFault, gm0, GroupMod.enc, bne, *]; done))) | ((first | refine RunQ.call rfl rfl rfl rfl rfl ?_ (w1) ?_ ?_ | refine RunQW.call rfl rfl rfl rfl ?_ (w1) ?_ ?_ | refine RunX.call rfl rfl rfl rfl ?_ (w1) ?_ ?_ | refine RunXW.call rfl rfl rfl ?_ (w1) ?_ ?_); (focus (simp (maxDischargeDepth := 120) [gFault, gm0, GroupMod.enc, bne, *]; done))) | ((first | refine RunQ.call rfl rfl rfl rfl rfl ?_ (w2) ?_ ?_ | refine RunQW.call rfl rfl rfl rfl ?_ (w2) ?_ ?_ | refine RunX.call rfl rfl rfl rfl ?_ (w2) ?_ ?_ | refine RunXW.call rfl rfl rfl ?_ (w2) ?_ ?_); (focus (simp (maxDischargeDepth := 120) [gFault, gm0, GroupMod.enc, bne, *]; done))) | ((first | refine RunQ.call rfl rfl rfl rfl rfl ?_ (b610) ?_ ?_ | refine RunQW.call rfl rfl rfl rfl ?_ (b610) ?_ ?_ | refine RunX.call rfl rfl rfl rfl ?_ (b610) ?_ ?_ | refine RunXW.call rfl rfl rfl ?_ (b610) ?_ ?_); (focus (simp (maxDischargeDepth := 120) [gFault, gm0, GroupMod.enc, bne, *]; done)))); (focus (simp [gFault, gm0, GroupMod.enc, bne, *]; done)); (first | refine RunQ.evalH ?_ | refine RunX.evalY ?_); simp [gFault, gm0, GroupMod.enc, bne, *])
     | (refine WK.ret Tryz.func8 ?_ ?_ <;> simp (maxDischargeDepth := 120) [Tryz.results8, gFault, gm0, GroupMod.enc, bne, *])
     | fail)
  rw [if_neg (by simp)] at hdef
  obtain ⟨R, hR⟩ : ∃ R, bkDec S = R := ⟨_, rfl⟩
  rw [hR] at d hdef
  obtain ⟨l, f⟩ := R
  rw [hdef]
  clear hdef hR hi1 hi2
  refine FnP.intro Tryz.func8 rfl rfl fun G w => ?_
  cases f <;>
  · repeat' (first
     | refine WK.seq ?_
     | refine WK.block ?_
     | refine WK.inBlock ?_
     | refine WK.skip ?_
     | refine WK.label ?_
     | refine WK.scope ?_
     | refine WK.inScope ?_
     | refine WK.exit rfl ?_
     | refine WK.condT rfl ?_
     | refine WK.condF rfl ?_
     | (refine Hid.h hQ _ _ ?_; clear hQ hA)
     | refine WK.condAny rfl ?_ ?_
     | ((first | refine WK.cond2 rfl (fun h => ?_) (fun h => ?_) | refine Fork.mk (fun h => ?_) (fun h => ?_)) <;> (first | (simp [*] at h; done) | (have h2 := h; simp at h2; exfalso; omega) | (have h2 := h; simp at h2; try simp only [Bool.not_eq_true', Bool.not_eq_false'] at h) | skip))
     | ((first | refine WK.regH Tryz.ntmps8 (by kernel_rfl) ?_ | refine WK.regX (by kernel_rfl) Tryz.ntmps8 (by kernel_rfl) ?_); intro A hA Q hQ; simp [gFault, gm0, GroupMod.enc, bne, *])
     | (refine Hid.h hQ _ _ _ (by decide +kernel) ?_; clear hQ hA)
     | ((first | refine RunQ.gd rfl (by rw [hA.h]; rfl) ?_ | refine RunX.gd rfl (by rw [hA.h]; rfl) ?_); simp [gFault, gm0, GroupMod.enc, bne, *])
     | ((first | ((first | refine RunQ.call rfl rfl rfl rfl rfl ?_ (g0) ?_ ?_ | refine RunQW.call rfl rfl rfl rfl ?_ (g0) ?_ ?_ | refine RunX.call rfl rfl rfl rfl ?_ (g0) ?_ ?_ | refine RunXW.call rfl rfl rfl ?_ (g0) ?_ ?_); (focus (simp (maxDischargeDepth := 120) [gFault, gm0, GroupMod.enc, bne, *]; done))) | ((first | refine RunQ.call rfl rfl rfl rfl rfl ?_ (g1) ?_ ?_ | refine RunQW.call rfl rfl rfl rfl ?_ (g1) ?_ ?_ | refine RunX.call rfl rfl rfl rfl ?_ (g1) ?_ ?_ | refine RunXW.call rfl rfl rfl ?_ (g1) ?_ ?_); (focus (simp (maxDischargeDepth := 120) [gFault, gm0, GroupMod.enc, bne, *]; done))) | ((first | refine RunQ.call rfl rfl rfl rfl rfl ?_ (g2) ?_ ?_ | refine RunQW.call rfl rfl rfl rfl ?_ (g2) ?_ ?_ | refine RunX.call rfl rfl rfl rfl ?_ (g2) ?_ ?_ | refine RunXW.call rfl rfl rfl ?_ (g2) ?_ ?_); (focus (simp (maxDischargeDepth := 120) [gFault, gm0, GroupMod.enc, bne, *]; done))) | ((first | refine RunQ.call rfl rfl rfl rfl rfl ?_ (w1) ?_ ?_ | refine RunQW.call rfl rfl rfl rfl ?_ (w1) ?_ ?_ | refine RunX.call rfl rfl rfl rfl ?_ (w1) ?_ ?_ | refine RunXW.call rfl rfl rfl ?_ (w1) ?_ ?_); (focus (simp (maxDischargeDepth := 120) [gFault, gm0, GroupMod.enc, bne, *]; done))) | ((first | refine RunQ.call rfl rfl rfl rfl rfl ?_ (w2) ?_ ?_ | refine RunQW.call rfl rfl rfl rfl ?_ (w2) ?_ ?_ | refine RunX.call rfl rfl rfl rfl ?_ (w2) ?_ ?_ | refine RunXW.call rfl rfl rfl ?_ (w2) ?_ ?_); (focus (simp (maxDischargeDepth := 120) [gFault, gm0, GroupMod.enc, bne, *]; done))) | ((first | refine RunQ.call rfl rfl rfl rfl rfl ?_ (d) ?_ ?_ | refine RunQW.call rfl rfl rfl rfl ?_ (d) ?_ ?_ | refine RunX.call rfl rfl rfl rfl ?_ (d) ?_ ?_ | refine RunXW.call rfl rfl rfl ?_ (d) ?_ ?_); (focus (simp (maxDischargeDepth := 120) [gFault, gm0, GroupMod.enc, bne, *]; done)))); (focus (simp [gFault, gm0, GroupMod.enc, bne, *]; done)); (first | refine RunQ.evalH ?_ | refine RunX.evalY ?_); simp [gFault, gm0, GroupMod.enc, bne, *])
     | (refine WK.ret Tryz.func8 ?_ ?_ <;> simp (maxDischargeDepth := 120) [Tryz.results8, gFault, gm0, GroupMod.enc, bne, *])
     | fail)
end Go.Proofs.YteonfhnljphbpaaGreat
end

section
set_option linter.unusedVariables false
set_option linter.unusedSimpArgs false
namespace Go.Proofs.YteonfhnljphbpaaGreat
open Go Go.AI Go.Proofs
attribute [local irreducible] FnP FnO FnB FnT FnSeq WK RunQ RunQW RunX RunXW

def GroupMod.same (a b : GroupMod) : Bool := (a.command == b.command && (a.kind == b.kind && a.id == b.id)) && eqBy Bucket.same a.buckets b.buckets
theorem gmSame_self (x : GroupMod) : GroupMod.same x x = true := by unfold GroupMod.same; simp [eqBy_refl bkSame_self]
theorem gsame_c (a b : GroupMod) (ha : GmFit a) : FnP Tryz.prog 17 [.agg a.enc, .agg b.enc] (.bool (GroupMod.same a b)) := by
  have hsa := bsameL_c a.buckets b.buckets ha.len ha.acts
  have e : GroupMod.same a b = ((a.command == b.command && (a.kind == b.kind && a.id == b.id)) && eqBy Bucket.same a.buckets b.buckets) := rfl
  obtain ⟨s, hs⟩ : ∃ s, eqBy Bucket.same a.buckets b.buckets = s := ⟨_, rfl⟩
  rw [hs] at hsa e
  unfold bukS at hsa
  refine FnP.intro Tryz.func17 rfl rfl fun G w => ?_
  repeat' (first
   | refine WK.seq ?_
   | refine WK.block ?_
   | refine WK.inBlock ?_
   | refine WK.skip ?_
   | refine WK.label ?_
   | refine WK.scope ?_
   | refine WK.inScope ?_
   | refine WK.exit rfl ?_
   | refine WK.condT rfl ?_
   | refine WK.condF rfl ?_
   | (refine Hid.h hQ _ _ ?_; clear hQ hA)
   | refine WK.condAny rfl ?_ ?_
   | ((first | refine WK.cond2 rfl (fun h => ?_) (fun h => ?_) | refine Fork.mk (fun h => ?_) (fun h => ?_)) <;> (first | (simp [*] at h; done) | (have h2 := h; simp at h2; exfalso; omega) | (have h2 := h; simp at h2; try simp only [Bool.not_eq_true', Bool.not_eq_false'] at h) | skip))
   | (refine WK.regH Tryz.ntmps17 (by kernel_rfl) ?_; intro A hA Q hQ; simp [GroupMod.enc, *])
   | (refine RunQ.gd rfl (by rw [hA.h]; rfl) ?_; simp [GroupMod.enc, *])
   | (((first | refine RunQ.call rfl rfl rfl rfl rfl ?_ (hsa) ?_ ?_ | refine RunQW.call rfl rfl rfl rfl ?_ (hsa) ?_ ?_); (focus (simp (maxDischargeDepth := 120) [GroupMod.enc, *]; done))); (focus (simp [GroupMod.enc, *]; done)); refine RunQ.evalH ?_; simp [GroupMod.enc, *])
   | (refine WK.ret Tryz.func17 ?_ ?_ <;> simp (maxDischargeDepth := 120) [Tryz.results17, GroupMod.enc, *])
   | fail)
theorem gencP_c (g : GroupMod) (hg : GmFit g) : FnP Tryz.prog 12 [.agg g.enc] (.tup [byS (gmEnc g).1, .int .i64 (gmEnc g).2]) := by
  have h := (genc_c g hg).toP (by simp [byL_take]) (by rfl)
  rwa [Nat.mul_one, by_full _ _ rfl] at h
theorem gmEnc_len (g : GroupMod) : (gmEnc g).1.length ≤ 60008 := by
  unfold gmEnc
  split
  · have := gmHead_len g
    have := bkEnc_len g.buckets
    simp only [List.length_append]; omega
  · simp
def L18 : GroupMod := ⟨1, 3, 9, [⟨0, 2, 0, []⟩]⟩
theorem fL18a : (gmEnc L18).1.length = 24 := by kernel_rfl
theorem fL18b : (gmEnc L18).2 = 0 := by kernel_rfl
theorem fL18c : gmDec (gmEnc L18).1 = (L18, none) := by kernel_rfl
theorem fL18d : gmDec [0#8, 5#8, 0#8, 0#8, 0#8, 0#8, 0#8, 0#8] = (gm0, some (6, 11)) := by kernel_rfl
theorem fL18e : gmRight L18 = true := by kernel_rfl
set_option maxHeartbeats 4000000 in
theorem awake18_c : FnP Tryz.prog 7 [] (.bool true) := by
  have hg : GmFit L18 := ⟨by decide, by intro x hx; simp [L18] at hx; subst hx; simp⟩
  have p := gencP_c L18 hg
  have d := gdec_c (gmEnc L18).1 (by rw [fL18a]; omega)
  have d1 := gdec_c [0#8, 5#8, 0#8, 0#8, 0#8, 0#8, 0#8, 0#8] (by decide)
  have s := gsame_c L18 L18 hg
  have r := gright_c L18 hg
  rw [fL18c] at d
  rw [fL18d] at d1
  rw [fL18b] at p
  rw [fL18e] at r
  rw [gmSame_self] at s
  have hB := fL18a
  obtain ⟨B, hBB⟩ : ∃ B, (gmEnc L18).1 = B := ⟨_, rfl⟩
  rw [hBB] at p d hB
  clear hBB
  unfold byS at p d d1
  rw [hB] at p d
  have e1 : byL [0#8, 5#8, 0#8, 0#8, 0#8, 0#8, 0#8, 0#8] = [.int .u8 0, .int .u8 5, .int .u8 0, .int .u8 0, .int .u8 0, .int .u8 0, .int .u8 0, .int .u8 0] := rfl
  rw [e1] at d1
  simp only [gFault, gm0, GroupMod.enc, bukL, L18, actL_nil, List.flatMap_cons, List.flatMap_nil, List.append_nil, List.cons_append, List.nil_append, List.length_cons, List.length_nil, Bucket.enc, Nat.zero_add, Nat.reduceAdd] at p d d1 s r
  refine FnP.intro Tryz.func7 rfl rfl fun G w => ?_
  repeat' (first
   | refine WK.seq ?_
   | refine WK.block ?_
   | refine WK.inBlock ?_
   | refine WK.skip ?_
   | refine WK.label ?_
   | refine WK.scope ?_
   | refine WK.inScope ?_
   | refine WK.exit rfl ?_
   | refine WK.condT rfl ?_
   | refine WK.condF rfl ?_
   | (refine Hid.h hQ _ _ ?_; clear hQ hA)
   | refine WK.condAny rfl ?_ ?_
   | ((first | refine WK.cond2 rfl (fun h => ?_) (fun h => ?_) | refine Fork.mk (fun h => ?_) (fun h => ?_)) <;> (first | (simp [*] at h; done) | (have h2 := h; simp at h2; exfalso; omega) | (have h2 := h; simp at h2; try simp only [Bool.not_eq_true', Bool.not_eq_false'] at h) | skip))
   | (refine WK.regH Tryz.ntmps7 (by kernel_rfl) ?_; intro A hA Q hQ; simp [*])
   | (refine RunQ.gd rfl (by rw [hA.h]; rfl) ?_; simp [*])
   | ((first | ((first | refine RunQ.call rfl rfl rfl rfl rfl ?_ (p) ?_ ?_ | refine RunQW.call rfl rfl rfl rfl ?_ (p) ?_ ?_); (focus (simp (maxDischargeDepth := 120) [*]; done))) | ((first | refine RunQ.call rfl rfl rfl rfl rfl ?_ (d) ?_ ?_ | refine RunQW.call rfl rfl rfl rfl ?_ (d) ?_ ?_); (focus (simp (maxDischargeDepth := 120) [*]; done))) | ((first | refine RunQ.call rfl rfl rfl rfl rfl ?_ (d1) ?_ ?_ | refine RunQW.call rfl rfl rfl rfl ?_ (d1) ?_ ?_); (focus (simp (maxDischargeDepth := 120) [*]; done))) | ((first | refine RunQ.call rfl rfl rfl rfl rfl ?_ (s) ?_ ?_ | refine RunQW.call rfl rfl rfl rfl ?_ (s) ?_ ?_); (focus (simp (maxDischargeDepth := 120) [*]; done))) | ((first | refine RunQ.call rfl rfl rfl rfl rfl ?_ (r) ?_ ?_ | refine RunQW.call rfl rfl rfl rfl ?_ (r) ?_ ?_); (focus (simp (maxDischargeDepth := 120) [*]; done)))); (focus (simp [*]; done)); refine RunQ.evalH ?_; simp [*])
   | (refine WK.ret Tryz.func7 ?_ ?_ <;> simp (maxDischargeDepth := 120) [Tryz.results7, *])
   | fail)
end Go.Proofs.YteonfhnljphbpaaGreat
end

section
set_option linter.unusedVariables false
set_option linter.unusedSimpArgs false
namespace Go.Proofs.YteonfhnljphbpaaGreat
open Go Go.AI Go.Proofs
attribute [local irreducible] FnP FnO FnB FnT FnSeq WK RunQ RunQW RunX RunXW

theorem rgright_c (g : GroupMod) (hg : GmFit g) : FnP Tryz.prog 16 [.agg g.enc] (.bool (gmRight g)) := by
  have p := rbkencP_c g.buckets hg.len hg.acts
  have n3 := rright_c g.id 4 Sz4
  have e : gmRight g = ((bkEnc g.buckets).2 == 0 && ((decide (0 ≤ g.command) && decide (g.command ≤ 2)) && ((decide (0 ≤ g.kind) && decide (g.kind ≤ 3)) && numOk g.id 4))) := rfl
  obtain ⟨R, hR⟩ : ∃ R, bkEnc g.buckets = R := ⟨_, rfl⟩
  rw [hR] at p e
  simp only [byS, bukS] at p
  refine FnP.intro Tryz.func16 rfl rfl fun G w => ?_
  repeat' (first
   | refine WK.seq ?_
   | refine WK.block ?_
   | refine WK.inBlock ?_
   | refine WK.skip ?_
   | refine WK.label ?_
   | refine WK.scope ?_
   | refine WK.inScope ?_
   | refine WK.exit rfl ?_
   | refine WK.condT rfl ?_
   | refine WK.condF rfl ?_
   | (refine Hid.h hQ _ _ ?_; clear hQ hA)
   | refine WK.condAny rfl ?_ ?_
   | ((first | refine WK.cond2 rfl (fun h => ?_) (fun h => ?_) | refine Fork.mk (fun h => ?_) (fun h => ?_)) <;> (first | (simp [*] at h; done) | (have h2 := h; simp at h2; exfalso; omega) | (have h2 := h; simp at h2; try simp only [Bool.not_eq_true', Bool.not_eq_false'] at h) | skip))
   | (refine WK.regH Tryz.ntmps16 (by kernel_rfl) ?_; intro A hA Q hQ; simp [GroupMod.enc, *])
   | (refine RunQ.gd rfl (by rw [hA.h]; rfl) ?_; simp [GroupMod.enc, *])
   | ((first | ((first | refine RunQ.call rfl rfl rfl rfl rfl ?_ (p) ?_ ?_ | refine RunQW.call rfl rfl rfl rfl ?_ (p) ?_ ?_); (focus (simp (maxDischargeDepth := 120) [GroupMod.enc, *]; done))) | ((first | refine RunQ.call rfl rfl rfl rfl rfl ?_ (n3) ?_ ?_ | refine RunQW.call rfl rfl rfl rfl ?_ (n3) ?_ ?_); (focus (simp (maxDischargeDepth := 120) [GroupMod.enc, *]; done)))); (focus (simp [GroupMod.enc, *]; done)); refine RunQ.evalH ?_; simp [GroupMod.enc, *])
   | (refine WK.ret Tryz.func16 ?_ ?_ <;> simp (maxDischargeDepth := 120) [Tryz.results16, GroupMod.enc, *])
   | fail)
theorem rgsame_c (a b : GroupMod) (ha : GmFit a) : FnP Tryz.prog 10 [.agg a.enc, .agg b.enc] (.bool (GroupMod.same a b)) := by
  have hsa := rbsameL_c a.buckets b.buckets ha.len ha.acts
  have e : GroupMod.same a b = ((a.command == b.command && (a.kind == b.kind && a.id == b.id)) && eqBy Bucket.same a.buckets b.buckets) := rfl
  obtain ⟨s, hs⟩ : ∃ s, eqBy Bucket.same a.buckets b.buckets = s := ⟨_, rfl⟩
  rw [hs] at hsa e
  unfold bukS at hsa
  refine FnP.intro Tryz.func10 rfl rfl fun G w => ?_
  repeat' (first
   | refine WK.seq ?_
   | refine WK.block ?_
   | refine WK.inBlock ?_
   | refine WK.skip ?_
   | refine WK.label ?_
   | refine WK.scope ?_
   | refine WK.inScope ?_
   | refine WK.exit rfl ?_
   | refine WK.condT rfl ?_
   | refine WK.condF rfl ?_
   | (refine Hid.h hQ _ _ ?_; clear hQ hA)
   | refine WK.condAny rfl ?_ ?_
   | ((first | refine WK.cond2 rfl (fun h => ?_) (fun h => ?_) | refine Fork.mk (fun h => ?_) (fun h => ?_)) <;> (first | (simp [*] at h; done) | (have h2 := h; simp at h2; exfalso; omega) | (have h2 := h; simp at h2; try simp only [Bool.not_eq_true', Bool.not_eq_false'] at h) | skip))
   | (refine WK.regH Tryz.ntmps10 (by kernel_rfl) ?_; intro A hA Q hQ; simp [GroupMod.enc, *])
   | (refine RunQ.gd rfl (by rw [hA.h]; rfl) ?_; simp [GroupMod.enc, *])
   | (((first | refine RunQ.call rfl rfl rfl rfl rfl ?_ (hsa) ?_ ?_ | refine RunQW.call rfl rfl rfl rfl ?_ (hsa) ?_ ?_); (focus (simp (maxDischargeDepth := 120) [GroupMod.enc, *]; done))); (focus (simp [GroupMod.enc, *]; done)); refine RunQ.evalH ?_; simp [GroupMod.enc, *])
   | (refine WK.ret Tryz.func10 ?_ ?_ <;> simp (maxDischargeDepth := 120) [Tryz.results10, GroupMod.enc, *])
   | fail)
set_option maxHeartbeats 4000000 in
theorem rgenc_c (g : GroupMod) (hg : GmFit g) : FnT Tryz.prog 13 [.agg g.enc] (gmEnc g).1.length 1 (byL (gmEnc g).1) [.int .i64 (gmEnc g).2] := by
  have r := rgright_c g hg
  cases hr : gmRight g
  · have e : gmEnc g = ([], 1) := by unfold gmEnc; rw [if_neg (by rw [hr]; exact Bool.false_ne_true)]
    rw [hr] at r
    rw [e]
    unfold GroupMod.enc at *
    refine FnT.intro Tryz.func13 rfl rfl fun G w => ?_
    repeat' (first
     | refine WK.seq ?_
     | refine WK.block ?_
     | refine WK.inBlock ?_
     | refine WK.skip ?_
     | refine WK.label ?_
     | refine WK.scope ?_
     | refine WK.inScope ?_
     | refine WK.exit rfl ?_
     | refine WK.condT rfl ?_
     | refine WK.condF rfl ?_
     | (refine Hid.h hQ _ _ ?_; clear hQ hA)
     | refine WK.condAny rfl ?_ ?_
     | ((first | refine WK.cond2 rfl (fun h => ?_) (fun h => ?_)) <;> (first | (simp [*] at h; done) | (have h2 := h; simp at h2; exfalso; omega) | (have h2 := h; simp at h2; try simp only [Bool.not_eq_true', Bool.not_eq_false'] at h) | skip))
     | ((first | refine WK.regH Tryz.ntmps13 (by kernel_rfl) ?_ | refine WK.regX (by kernel_rfl) Tryz.ntmps13 (by kernel_rfl) ?_); intro A hA Q hQ; simp [*])
     | (refine Hid.h hQ _ _ _ (by decide +kernel) ?_; clear hQ hA)
     | (((first | refine RunQ.call rfl rfl rfl rfl rfl ?_ (r) ?_ ?_ | refine RunX.call rfl rfl rfl rfl ?_ (r) ?_ ?_); (focus (simp (maxDischargeDepth := 120) [*]; done))); (focus (simp [*]; done)); (first | refine RunQ.evalH ?_ | refine RunX.evalY ?_); simp [*])
     | fail)
    repeat (first | refine WK.seq ?_ | refine WK.block ?_ | refine WK.inBlock ?_ | refine WK.skip ?_ | refine WK.label ?_ | refine WK.scope ?_ | refine WK.inScope ?_ | refine WK.exit rfl ?_)
    refine WK.ghost (Ghost.own 2 900 1 rfl rfl) ?_
    repeat (first | refine WK.seq ?_ | refine WK.block ?_ | refine WK.inBlock ?_ | refine WK.skip ?_ | refine WK.label ?_ | refine WK.scope ?_ | refine WK.inScope ?_ | refine WK.exit rfl ?_)
    refine WK.retT2 Tryz.func13 ?_ ?_ ?_ <;> simp (maxDischargeDepth := 120) [Tryz.results13, byL_nil]
  have h0 := (gmFld hr).2
  have e : gmEnc g = (gmHead g ++ (bkEnc g.buckets).1, 0) := by unfold gmEnc; rw [if_pos hr]
  have hh := hr
  unfold gmRight at hh
  rw [Bool.and_eq_true, Bool.and_eq_true, Bool.and_eq_true, beq_iff_eq] at hh
  obtain ⟨_, h1, h2, h3⟩ := hh
  have p := rbkencP_c g.buckets hg.len hg.acts
  have hEl := bkEnc_len g.buckets
  have c1 := rput_c [] g.command 2 Sz2 (by simp)
  rw [putN_beN (gmIn_ok h1 (by decide)), List.nil_append] at c1
  have c2 := rput_c (beN g.command 2) g.kind 1 Sz1 (by rw [beN_len]; omega)
  rw [putN_beN (gmIn_ok h2 (by decide))] at c2
  have c3 := rput_c (beN g.command 2 ++ beN g.kind 1 ++ [0#8]) g.id 4 Sz4 (by simp [beN_len])
  rw [putN_beN h3] at c3
  have l1 : (beN g.command 2).length = 2 := beN_len _ _
  have l2 : (beN g.command 2 ++ beN g.kind 1).length = 3 := by simp [beN_len]
  have l3 : (beN g.command 2 ++ beN g.kind 1 ++ [0#8]).length = 4 := by simp [beN_len]
  have l4 : (beN g.command 2 ++ beN g.kind 1 ++ [0#8] ++ beN g.id 4).length = 8 := by simp [beN_len]
  have hH : gmHead g = beN g.command 2 ++ beN g.kind 1 ++ [0#8] ++ beN g.id 4 := by
    unfold gmHead; rw [show beN 0 1 = [0#8] from rfl]; simp only [List.append_assoc]
  have b3 : byL (beN g.command 2 ++ beN g.kind 1 ++ [0#8]) = byL (beN g.command 2 ++ beN g.kind 1) ++ [.int .u8 0] := by rw [byL_app]; rfl
  rw [h0] at p
  rw [hr] at r
  rw [hH] at e
  obtain ⟨E, hE⟩ : ∃ E, (bkEnc g.buckets).1 = E := ⟨_, rfl⟩
  rw [hE] at p e hEl
  obtain ⟨F3, hF3⟩ : ∃ F, beN g.command 2 ++ beN g.kind 1 ++ [0#8] ++ beN g.id 4 = F := ⟨_, rfl⟩
  rw [hF3] at c3 e l4
  obtain ⟨F2b, hF2b⟩ : ∃ F, beN g.command 2 ++ beN g.kind 1 ++ [0#8] = F := ⟨_, rfl⟩
  rw [hF2b] at c3 l3 b3
  obtain ⟨F2, hF2⟩ : ∃ F, beN g.command 2 ++ beN g.kind 1 = F := ⟨_, rfl⟩
  rw [hF2] at c2 l2 b3
  obtain ⟨F1, hF1⟩ : ∃ F, beN g.command 2 = F := ⟨_, rfl⟩
  rw [hF1] at c1 c2 l1
  have hKl : (F3 ++ E).length = 8 + E.length := by rw [List.length_append, l4]
  rw [e]
  simp only
  rw [hKl]
  have hbd : 8 + E.length ≤ 140737488355328 := by omega
  have hfu := by_full E E.length rfl
  have f1 := by_full F1 2 l1.symm
  have f2 := by_full F2b 4 l3.symm
  simp only [byS, bukS, l1, l2, l3, l4, byL_nil, List.length_nil] at p c1 c2 c3
  rw [b3] at c3 f2
  unfold GroupMod.enc at *
  clear hE hF1 hF2 hF2b hF3 hEl hg e hr h0 hH h1 h2 h3 b3 hKl
  refine FnT.intro Tryz.func13 rfl rfl fun G w => ?_
  repeat' (first
   | refine WK.seq ?_
   | refine WK.block ?_
   | refine WK.inBlock ?_
   | refine WK.skip ?_
   | refine WK.label ?_
   | refine WK.scope ?_
   | refine WK.inScope ?_
   | refine WK.exit rfl ?_
   | refine WK.condT rfl ?_
   | refine WK.condF rfl ?_
   | (refine Hid.h hQ _ _ ?_; clear hQ hA)
   | refine WK.condAny rfl ?_ ?_
   | ((first | refine WK.cond2 rfl (fun h => ?_) (fun h => ?_)) <;> (first | (simp [*] at h; done) | (have h2 := h; simp at h2; exfalso; omega) | (have h2 := h; simp at h2; try simp only [Bool.not_eq_true', Bool.not_eq_false'] at h) | skip))
   | ((first | refine WK.regH Tryz.ntmps13 (by kernel_rfl) ?_ | refine WK.regX (by kernel_rfl) Tryz.ntmps13 (by kernel_rfl) ?_); intro A hA Q hQ; simp [*])
   | (refine Hid.h hQ _ _ _ (by decide +kernel) ?_; clear hQ hA)
   | (refine RunQ.callO 901 rfl rfl rfl rfl rfl ?_ (c1) ?_ ?_ ?_ ?_; (focus (simp (maxDischargeDepth := 120) [*]; done)); (focus (simp [*]; done)); (focus (simp [*]; done)); (focus (simp [*]; done)); refine RunQ.evalH ?_; simp [*])
   | (refine RunX.callO 901 rfl rfl rfl rfl ?_ (c1) ?_ ?_ ?_ ?_; (focus (simp (maxDischargeDepth := 120) [*]; done)); (focus (simp [*]; done)); (focus (simp [*]; done)); (focus (simp [*]; done)); refine RunX.evalY ?_; simp [*])
   | (refine RunQ.callOz 902 18 1 rfl rfl rfl rfl rfl rfl rfl ?_ (c2) ?_ ?_ (by simp) (by decide) ?_; (focus (simp (maxDischargeDepth := 120) [*]; done)); (focus (simp [*]; done)); (focus (simp [*]; done)); refine RunQ.evalH ?_; simp [*])
   | (refine RunX.callOz 902 18 1 rfl rfl rfl rfl rfl rfl ?_ (c2) ?_ ?_ (by simp) (by decide) ?_; (focus (simp (maxDischargeDepth := 120) [*]; done)); (focus (simp [*]; done)); (focus (simp [*]; done)); refine RunX.evalY ?_; simp [*])
   | (refine RunQ.append 903 appByte rfl rfl rfl rfl rfl rfl rfl rfl rfl ?_ ?_ ?_ ?_ ?_; (focus (first | omega | (simp [*]; done); done)); (focus (first | omega | (simp [*]; done); done)); (focus (first | omega | (simp [*]; done); done)); (focus (first | omega | (simp [*]; done); done)); refine RunQ.evalH ?_; simp [*])
   | (refine RunX.append 903 appByte rfl rfl rfl rfl rfl rfl rfl rfl ?_ ?_ ?_ ?_ ?_; (focus (first | omega | (simp [*]; done); done)); (focus (first | omega | (simp [*]; done); done)); (focus (first | omega | (simp [*]; done); done)); (focus (first | omega | (simp [*]; done); done)); refine RunX.evalY ?_; simp [*])
   | (refine RunQ.callOz 904 24 1 rfl rfl rfl rfl rfl rfl rfl ?_ (c3) ?_ ?_ (by simp) (by decide) ?_; (focus (simp (maxDischargeDepth := 120) [*]; done)); (focus (simp [*]; done)); (focus (simp [*]; done)); refine RunQ.evalH ?_; simp [*])
   | (refine RunX.callOz 904 24 1 rfl rfl rfl rfl rfl rfl ?_ (c3) ?_ ?_ (by simp) (by decide) ?_; (focus (simp (maxDischargeDepth := 120) [*]; done)); (focus (simp [*]; done)); (focus (simp [*]; done)); refine RunX.evalY ?_; simp [*])
   | (refine RunQ.append 905 appByte rfl rfl rfl rfl rfl rfl rfl rfl rfl ?_ ?_ ?_ ?_ ?_; (focus (first | omega | (simp [*]; done); done)); (focus (first | omega | (simp [*]; done); done)); (focus (first | omega | (simp [*]; done); done)); (focus (first | omega | (simp [*]; done); done)); refine RunQ.evalH ?_; simp [*])
   | (refine RunX.append 905 appByte rfl rfl rfl rfl rfl rfl rfl rfl ?_ ?_ ?_ ?_ ?_; (focus (first | omega | (simp [*]; done); done)); (focus (first | omega | (simp [*]; done); done)); (focus (first | omega | (simp [*]; done); done)); (focus (first | omega | (simp [*]; done); done)); refine RunX.evalY ?_; simp [*])
   | ((first | ((first | refine RunQ.call rfl rfl rfl rfl rfl ?_ (r) ?_ ?_ | refine RunX.call rfl rfl rfl rfl ?_ (r) ?_ ?_); (focus (simp (maxDischargeDepth := 120) [*]; done))) | ((first | refine RunQ.call rfl rfl rfl rfl rfl ?_ (p) ?_ ?_ | refine RunX.call rfl rfl rfl rfl ?_ (p) ?_ ?_); (focus (simp (maxDischargeDepth := 120) [*]; done)))); (focus (simp [*]; done)); (first | refine RunQ.evalH ?_ | refine RunX.evalY ?_); simp [*])
   | (refine WK.retT2 Tryz.func13 ?_ ?_ ?_ <;> simp (maxDischargeDepth := 120) [Tryz.results13, byL_app, *])
   | fail)
theorem rgencP_c (g : GroupMod) (hg : GmFit g) : FnP Tryz.prog 13 [.agg g.enc] (.tup [byS (gmEnc g).1, .int .i64 (gmEnc g).2]) := by
  have h := (rgenc_c g hg).toP (by simp [byL_take]) (by rfl)
  rwa [Nat.mul_one, by_full _ _ rfl] at h
theorem groupmodEncodes_c (m n : GroupMod) : FnP Tryz.prog 4 [.agg m.enc, .agg n.enc] (.bool true) := by
  have p1 := pbuckets_c m.buckets 110 (by omega)
  have p2 := pbuckets_c n.buckets 110 (by omega)
  cases h1 : bucketsPlain m.buckets 110
  · rw [h1] at p1
    unfold bukS at *
    unfold GroupMod.enc at *
    refine FnP.intro Tryz.func4 rfl rfl fun G w => ?_
    repeat' (first
     | refine WK.seq ?_
     | refine WK.block ?_
     | refine WK.inBlock ?_
     | refine WK.skip ?_
     | refine WK.label ?_
     | refine WK.scope ?_
     | refine WK.inScope ?_
     | refine WK.exit rfl ?_
     | refine WK.condT rfl ?_
     | refine WK.condF rfl ?_
     | (refine Hid.h hQ _ _ ?_; clear hQ hA)
     | refine WK.condAny rfl ?_ ?_
     | ((first | refine WK.cond2 rfl (fun h => ?_) (fun h => ?_) | refine Fork.mk (fun h => ?_) (fun h => ?_)) <;> (first | (simp [*] at h; done) | (have h2 := h; simp at h2; exfalso; omega) | (have h2 := h; simp at h2; try simp only [Bool.not_eq_true', Bool.not_eq_false'] at h) | skip))
     | ((first | refine WK.regH Tryz.ntmps4 (by kernel_rfl) ?_ | refine WK.regX (by kernel_rfl) Tryz.ntmps4 (by kernel_rfl) ?_); intro A hA Q hQ; simp [*])
     | (refine Hid.h hQ _ _ _ (by decide +kernel) ?_; clear hQ hA)
     | ((first | refine RunQ.gd rfl (by rw [hA.h]; rfl) ?_ | refine RunX.gd rfl (by rw [hA.h]; rfl) ?_); simp [*])
     | ((first | ((first | refine RunQ.call rfl rfl rfl rfl rfl ?_ (p1) ?_ ?_ | refine RunQW.call rfl rfl rfl rfl ?_ (p1) ?_ ?_ | refine RunX.call rfl rfl rfl rfl ?_ (p1) ?_ ?_ | refine RunXW.call rfl rfl rfl ?_ (p1) ?_ ?_); (focus (simp (maxDischargeDepth := 120) [*]; done))) | ((first | refine RunQ.call rfl rfl rfl rfl rfl ?_ (awake18_c) ?_ ?_ | refine RunQW.call rfl rfl rfl rfl ?_ (awake18_c) ?_ ?_ | refine RunX.call rfl rfl rfl rfl ?_ (awake18_c) ?_ ?_ | refine RunXW.call rfl rfl rfl ?_ (awake18_c) ?_ ?_); (focus (simp (maxDischargeDepth := 120) [*]; done)))); (focus (simp [*]; done)); (first | refine RunQ.evalH ?_ | refine RunX.evalY ?_); simp [*])
     | (refine WK.ret Tryz.func4 ?_ ?_ <;> simp (maxDischargeDepth := 120) [Tryz.results4, *])
     | fail)
  cases h2 : bucketsPlain n.buckets 110
  · rw [h1] at p1
    rw [h2] at p2
    unfold bukS at *
    unfold GroupMod.enc at *
    refine FnP.intro Tryz.func4 rfl rfl fun G w => ?_
    repeat' (first
     | refine WK.seq ?_
     | refine WK.block ?_
     | refine WK.inBlock ?_
     | refine WK.skip ?_
     | refine WK.label ?_
     | refine WK.scope ?_
     | refine WK.inScope ?_
     | refine WK.exit rfl ?_
     | refine WK.condT rfl ?_
     | refine WK.condF rfl ?_
     | (refine Hid.h hQ _ _ ?_; clear hQ hA)
     | refine WK.condAny rfl ?_ ?_
     | ((first | refine WK.cond2 rfl (fun h => ?_) (fun h => ?_) | refine Fork.mk (fun h => ?_) (fun h => ?_)) <;> (first | (simp [*] at h; done) | (have h2 := h; simp at h2; exfalso; omega) | (have h2 := h; simp at h2; try simp only [Bool.not_eq_true', Bool.not_eq_false'] at h) | skip))
     | ((first | refine WK.regH Tryz.ntmps4 (by kernel_rfl) ?_ | refine WK.regX (by kernel_rfl) Tryz.ntmps4 (by kernel_rfl) ?_); intro A hA Q hQ; simp [*])
     | (refine Hid.h hQ _ _ _ (by decide +kernel) ?_; clear hQ hA)
     | ((first | refine RunQ.gd rfl (by rw [hA.h]; rfl) ?_ | refine RunX.gd rfl (by rw [hA.h]; rfl) ?_); simp [*])
     | ((first | ((first | refine RunQ.call rfl rfl rfl rfl rfl ?_ (p1) ?_ ?_ | refine RunQW.call rfl rfl rfl rfl ?_ (p1) ?_ ?_ | refine RunX.call rfl rfl rfl rfl ?_ (p1) ?_ ?_ | refine RunXW.call rfl rfl rfl ?_ (p1) ?_ ?_); (focus (simp (maxDischargeDepth := 120) [*]; done))) | ((first | refine RunQ.call rfl rfl rfl rfl rfl ?_ (p2) ?_ ?_ | refine RunQW.call rfl rfl rfl rfl ?_ (p2) ?_ ?_ | refine RunX.call rfl rfl rfl rfl ?_ (p2) ?_ ?_ | refine RunXW.call rfl rfl rfl ?_ (p2) ?_ ?_); (focus (simp (maxDischargeDepth := 120) [*]; done))) | ((first | refine RunQ.call rfl rfl rfl rfl rfl ?_ (awake18_c) ?_ ?_ | refine RunQW.call rfl rfl rfl rfl ?_ (awake18_c) ?_ ?_ | refine RunX.call rfl rfl rfl rfl ?_ (awake18_c) ?_ ?_ | refine RunXW.call rfl rfl rfl ?_ (awake18_c) ?_ ?_); (focus (simp (maxDischargeDepth := 120) [*]; done)))); (focus (simp [*]; done)); (first | refine RunQ.evalH ?_ | refine RunX.evalY ?_); simp [*])
     | (refine WK.ret Tryz.func4 ?_ ?_ <;> simp (maxDischargeDepth := 120) [Tryz.results4, *])
     | fail)
  obtain ⟨hl, ha0⟩ := bucketsPlain_facts h1
  have hg : GmFit m := ⟨by omega, fun x hx => by have := ha0 x hx; omega⟩
  have a := gencP_c m hg
  have b := rgencP_c m hg
  have r1 := gright_c m hg
  have r2 := rgright_c m hg
  have s1 := gsame_c m n hg
  have s2 := rgsame_c m n hg
  have hE := gmEnc_len m
  have q := bequal_c (gmEnc m).1 (gmEnc m).1 (by omega)
  rw [beq_self_eq_true] at q
  rw [h1] at p1
  rw [h2] at p2
  simp only [bukS, GroupMod.enc] at *
  clear h1 h2 hl ha0 hg
  refine FnP.intro Tryz.func4 rfl rfl fun G w => ?_
  repeat' (first
   | refine WK.seq ?_
   | refine WK.block ?_
   | refine WK.inBlock ?_
   | refine WK.skip ?_
   | refine WK.label ?_
   | refine WK.scope ?_
   | refine WK.inScope ?_
   | refine WK.exit rfl ?_
   | refine WK.condT rfl ?_
   | refine WK.condF rfl ?_
   | (refine Hid.h hQ _ _ ?_; clear hQ hA)
   | refine WK.condAny rfl ?_ ?_
   | ((first | refine WK.cond2 rfl (fun h => ?_) (fun h => ?_) | refine Fork.mk (fun h => ?_) (fun h => ?_)) <;> (first | (simp [*] at h; done) | (have h2 := h; simp at h2; exfalso; omega) | (have h2 := h; simp at h2; try simp only [Bool.not_eq_true', Bool.not_eq_false'] at h) | skip))
   | ((first | refine WK.regH Tryz.ntmps4 (by kernel_rfl) ?_ | refine WK.regX (by kernel_rfl) Tryz.ntmps4 (by kernel_rfl) ?_); intro A hA Q hQ; simp [*])
   | (refine Hid.h hQ _ _ _ (by decide +kernel) ?_; clear hQ hA)
   | ((first | refine RunQ.gd rfl (by rw [hA.h]; rfl) ?_ | refine RunX.gd rfl (by rw [hA.h]; rfl) ?_); simp [*])
   | ((first | ((first | refine RunQ.call rfl rfl rfl rfl rfl ?_ (p1) ?_ ?_ | refine RunQW.call rfl rfl rfl rfl ?_ (p1) ?_ ?_ | refine RunX.call rfl rfl rfl rfl ?_ (p1) ?_ ?_ | refine RunXW.call rfl rfl rfl ?_ (p1) ?_ ?_); (focus (simp (maxDischargeDepth := 120) [*]; done))) | ((first | refine RunQ.call rfl rfl rfl rfl rfl ?_ (p2) ?_ ?_ | refine RunQW.call rfl rfl rfl rfl ?_ (p2) ?_ ?_ | refine RunX.call rfl rfl rfl rfl ?_ (p2) ?_ ?_ | refine RunXW.call rfl rfl rfl ?_ (p2) ?_ ?_); (focus (simp (maxDischargeDepth := 120) [*]; done))) | ((first | refine RunQ.call rfl rfl rfl rfl rfl ?_ (a) ?_ ?_ | refine RunQW.call rfl rfl rfl rfl ?_ (a) ?_ ?_ | refine RunX.call rfl rfl rfl rfl ?_ (a) ?_ ?_ | refine RunXW.call rfl rfl rfl ?_ (a) ?_ ?_); (focus (simp (maxDischargeDepth := 120) [*]; done))) | ((first | refine RunQ.call rfl rfl rfl rfl rfl ?_ (b) ?_ ?_ | refine RunQW.call rfl rfl rfl rfl ?_ (b) ?_ ?_ | refine RunX.call rfl rfl rfl rfl ?_ (b) ?_ ?_ | refine RunXW.call rfl rfl rfl ?_ (b) ?_ ?_); (focus (simp (maxDischargeDepth := 120) [*]; done))) | ((first | refine RunQ.call rfl rfl rfl rfl rfl ?_ (q) ?_ ?_ | refine RunQW.call rfl rfl rfl rfl ?_ (q) ?_ ?_ | refine RunX.call rfl rfl rfl rfl ?_ (q) ?_ ?_ | refine RunXW.call rfl rfl rfl ?_ (q) ?_ ?_); (focus (simp (maxDischargeDepth := 120) [*]; done))) | ((first | refine RunQ.call rfl rfl rfl rfl rfl ?_ (r1) ?_ ?_ | refine RunQW.call rfl rfl rfl rfl ?_ (r1) ?_ ?_ | refine RunX.call rfl rfl rfl rfl ?_ (r1) ?_ ?_ | refine RunXW.call rfl rfl rfl ?_ (r1) ?_ ?_); (focus (simp (maxDischargeDepth := 120) [*]; done))) | ((first | refine RunQ.call rfl rfl rfl rfl rfl ?_ (r2) ?_ ?_ | refine RunQW.call rfl rfl rfl rfl ?_ (r2) ?_ ?_ | refine RunX.call rfl rfl rfl rfl ?_ (r2) ?_ ?_ | refine RunXW.call rfl rfl rfl ?_ (r2) ?_ ?_); (focus (simp (maxDischargeDepth := 120) [*]; done))) | ((first | refine RunQ.call rfl rfl rfl rfl rfl ?_ (s1) ?_ ?_ | refine RunQW.call rfl rfl rfl rfl ?_ (s1) ?_ ?_ | refine RunX.call rfl rfl rfl rfl ?_ (s1) ?_ ?_ | refine RunXW.call rfl rfl rfl ?_ (s1) ?_ ?_); (focus (simp (maxDischargeDepth := 120) [*]; done))) | ((first | refine RunQ.call rfl rfl rfl rfl rfl ?_ (s2) ?_ ?_ | refine RunQW.call rfl rfl rfl rfl ?_ (s2) ?_ ?_ | refine RunX.call rfl rfl rfl rfl ?_ (s2) ?_ ?_ | refine RunXW.call rfl rfl rfl ?_ (s2) ?_ ?_); (focus (simp (maxDischargeDepth := 120) [*]; done))) | ((first | refine RunQ.call rfl rfl rfl rfl rfl ?_ (awake18_c) ?_ ?_ | refine RunQW.call rfl rfl rfl rfl ?_ (awake18_c) ?_ ?_ | refine RunX.call rfl rfl rfl rfl ?_ (awake18_c) ?_ ?_ | refine RunXW.call rfl rfl rfl ?_ (awake18_c) ?_ ?_); (focus (simp (maxDischargeDepth := 120) [*]; done)))); (focus (simp [*]; done)); (first | refine RunQ.evalH ?_ | refine RunX.evalY ?_); simp [*])
   | (refine WK.ret Tryz.func4 ?_ ?_ <;> simp (maxDischargeDepth := 120) [Tryz.results4, *])
   | fail)
end Go.Proofs.YteonfhnljphbpaaGreat
end
