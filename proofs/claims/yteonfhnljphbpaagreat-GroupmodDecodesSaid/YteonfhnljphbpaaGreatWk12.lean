/- Rows of buckets: read by the program and by the reference. -/
import Derived.Test.YteonfhnljphbpaaGreatWk11
import Derived.Test.YteonfhnljphbpaaGreatAf
set_option linter.all false
set_option linter.unnecessarySimpa false
section
set_option linter.unusedVariables false
set_option linter.unusedSimpArgs false
namespace Go.Proofs.YteonfhnljphbpaaGreat
open Go Go.AI Go.Proofs
attribute [local irreducible] FnP FnO FnB FnT FnSeq WK RunQ RunQW RunX RunXW

theorem bkDec_eq {b : List (BitVec 8)} (h : ¬ 60000 < b.length) : bkDec b = if (rwDec bkRead b).2 = none ∧ 100 < (rwDec bkRead b).1.length then ([], some (6, 4)) else rwDec bkRead b := by unfold bkDec; rw [if_neg h]
set_option maxHeartbeats 4000000 in
theorem bkdec_c (b : List (BitVec 8)) (hb : b.length ≤ 1000000) : FnT Tryz.prog 36 [byS b] (bkDec b).1.length 4 (bukL (bkDec b).1) [.agg (gFault (bkDec b).2)] := by
  have b12 := bbad_c 12
  have b4 := bbad_c 4
  unfold byS
  by_cases h6 : 60000 < b.length
  · have e : bkDec b = ([], some (6, 12)) := by unfold bkDec; rw [if_pos h6]
    have h6' : (60000 : Int) < b.length := by omega
    rw [e]
    refine FnT.intro Tryz.func36 rfl rfl fun G w => ?_
    repeat' (first
     | refine WK.seq ?_
     | refine WK.block ?_
     | refine WK.inBlock ?_
     | refine WK.skip ?_
     | refine WK.label ?_
     | refine WK.scope ?_
     | refine WK.inScope ?_
     | refine WK.exit rfl ?_
     | refine WK.condT rfl ?_
     | refine WK.condF rfl ?_
     | (refine Hid.h hQ _ _ ?_; clear hQ hA)
     | refine WK.condAny rfl ?_ ?_
     | ((first | refine WK.cond2 rfl (fun h => ?_) (fun h => ?_)) <;> (first | (simp [*] at h; done) | (have h2 := h; simp at h2; exfalso; omega) | (have h2 := h; simp at h2; try simp only [Bool.not_eq_true', Bool.not_eq_false'] at h) | skip))
     | ((first | refine WK.regH Tryz.ntmps36 (by kernel_rfl) ?_ | refine WK.regX (by kernel_rfl) Tryz.ntmps36 (by kernel_rfl) ?_); intro A hA Q hQ; simp [gFault, *])
     | (refine Hid.h hQ _ _ _ (by decide +kernel) ?_; clear hQ hA)
     | (((first | refine RunQ.call rfl rfl rfl rfl rfl ?_ (b12) ?_ ?_ | refine RunX.call rfl rfl rfl rfl ?_ (b12) ?_ ?_); (focus (simp (maxDischargeDepth := 120) [gFault, *]; done))); (focus (simp [gFault, *]; done)); (first | refine RunQ.evalH ?_ | refine RunX.evalY ?_); simp [gFault, *])
     | fail)
    repeat (first | refine WK.seq ?_ | refine WK.block ?_ | refine WK.inBlock ?_ | refine WK.skip ?_ | refine WK.label ?_ | refine WK.scope ?_ | refine WK.inScope ?_ | refine WK.exit rfl ?_)
    refine WK.ghost (Ghost.own 2 900 4 rfl rfl) ?_
    repeat (first | refine WK.seq ?_ | refine WK.block ?_ | refine WK.inBlock ?_ | refine WK.skip ?_ | refine WK.label ?_ | refine WK.scope ?_ | refine WK.inScope ?_ | refine WK.exit rfl ?_)
    refine WK.retT2 Tryz.func36 ?_ ?_ ?_ <;> simp (maxDischargeDepth := 120) [Tryz.results36, bukL_nil, gFault]
  have h6' : ¬ (60000 : Int) < b.length := by omega
  have hde := bkDec_eq h6
  refine FnT.intro Tryz.func36 rfl rfl fun G w => ?_
  repeat' (first
   | refine WK.seq ?_
   | refine WK.block ?_
   | refine WK.inBlock ?_
   | refine WK.skip ?_
   | refine WK.label ?_
   | refine WK.scope ?_
   | refine WK.inScope ?_
   | refine WK.exit rfl ?_
   | refine WK.condT rfl ?_
   | refine WK.condF rfl ?_
   | (refine Hid.h hQ _ _ ?_; clear hQ hA)
   | refine WK.condAny rfl ?_ ?_
   | ((first | refine WK.cond2 rfl (fun h => ?_) (fun h => ?_)) <;> (first | (simp [*] at h; done) | (have h2 := h; simp at h2; exfalso; omega) | (have h2 := h; simp at h2; try simp only [Bool.not_eq_true', Bool.not_eq_false'] at h) | skip))
   | ((first | refine WK.regH Tryz.ntmps36 (by kernel_rfl) ?_ | refine WK.regX (by kernel_rfl) Tryz.ntmps36 (by kernel_rfl) ?_); intro A hA Q hQ; simp [*])
   | (refine Hid.h hQ _ _ _ (by decide +kernel) ?_; clear hQ hA)
   | fail)
  repeat (first | refine WK.seq ?_ | refine WK.block ?_ | refine WK.inBlock ?_ | refine WK.skip ?_ | refine WK.label ?_ | refine WK.scope ?_ | refine WK.inScope ?_ | refine WK.exit rfl ?_)
  refine WK.ghost (Ghost.own 4 900 4 rfl rfl) ?_
  repeat (first | refine WK.seq ?_ | refine WK.block ?_ | refine WK.inBlock ?_ | refine WK.skip ?_ | refine WK.label ?_ | refine WK.scope ?_ | refine WK.inScope ?_ | refine WK.exit rfl ?_)
  refine WK.loopI (fun n => if n = 60 then 900 else n) (fun x : Nat × Nat × List Bucket => (⟨(upd (upd (upd (upd J 0 (.sl false (b.length - x.2.1) (byL (b.drop x.2.1)))) 2 (.sl true 0 [])) 3 (.ptr 1 0)) 4 (.msl 60 0 x.2.2.length)), (upd (upd B0 1 (.var (gFault none))) 60 (.buf 4 (bukL x.2.2))), 0⟩ : St)) (fun x => RwAt bkRead 16 b x) (fun x => b.length - x.2.1) ((b.length, 0, [])) (by repeat (first | exact TmW.nil | refine TmW.upd ?_ (by simp (maxDischargeDepth := 120) [gFault]))) (by repeat (first | exact BxW.nil | refine BxW.upd ?_ (by simp (maxDischargeDepth := 120) [gFault]))) (by first | exact InjW.id | exact InjW.nil | exact InjW.one | exact InjW.two (by simp) | exact InjW.three (by simp) (by simp) (by simp)) (RwAt.start bkRead 16 b) (fun i hi IH => ?_)
  obtain ⟨f, p, acc⟩ := i
  have hsm := hi.small
  have hle := hi.le
  simp only at hsm hle hi ⊢
  by_cases h1 : p < b.length
  · have hc := bone_c (b.drop p) (by rw [List.length_drop]; omega)
    obtain ⟨⟨y, n, c⟩, hd⟩ : ∃ R, bkRead (b.drop p) = R := ⟨_, rfl⟩
    rw [hd] at hc
    unfold byS at hc
    rw [List.length_drop] at hc
    have hpos : 0 < b.length - p := by omega
    have hpos' : (0 : Int) < ((b.length - p : Nat) : Int) := by omega
    obtain ⟨L, hL⟩ : ∃ L, b.length - p = L := ⟨_, rfl⟩
    cases c with
    | some c =>
      have e0 := RwAt.bad hi h1 hd
      have e : bkDec b = ([], some c) := by rw [hde, e0]; rfl
      rw [hL] at hc hpos hpos' ⊢
      rw [e]
      clear hL hde e0 b12 b4
      repeat' (first
       | refine WK.seq ?_
       | refine WK.block ?_
       | refine WK.inBlock ?_
       | refine WK.skip ?_
       | refine WK.label ?_
       | refine WK.scope ?_
       | refine WK.inScope ?_
       | refine WK.exit rfl ?_
       | refine WK.condT rfl ?_
       | refine WK.condF rfl ?_
       | (refine Hid.h hQ _ _ ?_; clear hQ hA)
       | refine WK.condAny rfl ?_ ?_
       | ((first | refine WK.cond2 rfl (fun h => ?_) (fun h => ?_)) <;> (first | (simp [*] at h; done) | (have h2 := h; simp at h2; exfalso; omega) | (have h2 := h; simp at h2; try simp only [Bool.not_eq_true', Bool.not_eq_false'] at h) | skip))
       | ((first | refine WK.regH Tryz.ntmps36 (by kernel_rfl) ?_ | refine WK.regX (by kernel_rfl) Tryz.ntmps36 (by kernel_rfl) ?_); intro A hA Q hQ; simp [gFault, Bucket.enc, *])
       | (refine Hid.h hQ _ _ _ (by decide +kernel) ?_; clear hQ hA)
       | (((first | refine RunQ.call rfl rfl rfl rfl rfl ?_ (hc) ?_ ?_ | refine RunX.call rfl rfl rfl rfl ?_ (hc) ?_ ?_); (focus (simp (maxDischargeDepth := 120) [gFault, Bucket.enc, *]; done))); (focus (simp [gFault, Bucket.enc, *]; done)); (first | refine RunQ.evalH ?_ | refine RunX.evalY ?_); simp [gFault, Bucket.enc, *])
       | fail)
      repeat (first | refine WK.seq ?_ | refine WK.block ?_ | refine WK.inBlock ?_ | refine WK.skip ?_ | refine WK.label ?_ | refine WK.scope ?_ | refine WK.inScope ?_ | refine WK.exit rfl ?_)
      refine WK.ghost (Ghost.own 2 901 4 rfl rfl) ?_
      repeat (first | refine WK.seq ?_ | refine WK.block ?_ | refine WK.inBlock ?_ | refine WK.skip ?_ | refine WK.label ?_ | refine WK.scope ?_ | refine WK.inScope ?_ | refine WK.exit rfl ?_)
      refine WK.retT2 Tryz.func36 ?_ ?_ ?_ <;> simp (maxDischargeDepth := 120) [Tryz.results36, bukL_nil, gFault]
    | none =>
      obtain ⟨k, rfl, hk1, hk2, hn⟩ := RwAt.next (by decide) bkKeeps hi h1 hd
      simp only at hk1 hn
      have hkL : (k : Int) ≤ ((b.length - p : Nat) : Int) := by omega
      have hdd : ((byL (b.drop p)).drop k).take (b.length - p - k) = byL (b.drop (p + k)) := by
        rw [byL_drop, List.drop_drop]; exact by_full _ _ (by rw [List.length_drop]; omega)
      have hll : b.length - (p + k) = b.length - p - k := by omega
      have hbd : (acc.length + 1) * 48 ≤ 140737488355328 := by omega
      have hsn := bukL_snoc acc y
      rw [hL] at hc hpos hpos' hkL hdd hll ⊢
      simp only [Bucket.enc] at hsn hc
      clear hL hd hde b12 b4
      repeat' (first
       | refine WK.seq ?_
       | refine WK.block ?_
       | refine WK.inBlock ?_
       | refine WK.skip ?_
       | refine WK.label ?_
       | refine WK.scope ?_
       | refine WK.inScope ?_
       | refine WK.exit rfl ?_
       | refine WK.condT rfl ?_
       | refine WK.condF rfl ?_
       | (refine Hid.h hQ _ _ ?_; clear hQ hA)
       | refine WK.condAny rfl ?_ ?_
       | ((first | refine WK.cond2 rfl (fun h => ?_) (fun h => ?_)) <;> (first | (simp [*] at h; done) | (have h2 := h; simp at h2; exfalso; omega) | (have h2 := h; simp at h2; try simp only [Bool.not_eq_true', Bool.not_eq_false'] at h) | skip))
       | ((first | refine WK.regH Tryz.ntmps36 (by kernel_rfl) ?_ | refine WK.regX (by kernel_rfl) Tryz.ntmps36 (by kernel_rfl) ?_); intro A hA Q hQ; simp [gFault, *])
       | (refine Hid.h hQ _ _ _ (by decide +kernel) ?_; clear hQ hA)
       | (refine RunQ.append 902 app_buk rfl rfl rfl rfl rfl rfl rfl rfl rfl ?_ ?_ ?_ ?_ ?_; (focus (first | omega | (simp [gFault, *]; done); done)); (focus (first | omega | (simp [gFault, *]; done); done)); (focus (first | omega | (simp [gFault, *]; done); done)); (focus (first | omega | (simp [gFault, *]; done); done)); refine RunQ.evalH ?_; simp [gFault, *])
       | (refine RunX.append 902 app_buk rfl rfl rfl rfl rfl rfl rfl rfl ?_ ?_ ?_ ?_ ?_; (focus (first | omega | (simp [gFault, *]; done); done)); (focus (first | omega | (simp [gFault, *]; done); done)); (focus (first | omega | (simp [gFault, *]; done); done)); (focus (first | omega | (simp [gFault, *]; done); done)); refine RunX.evalY ?_; simp [gFault, *])
       | (((first | refine RunQ.call rfl rfl rfl rfl rfl ?_ (hc) ?_ ?_ | refine RunX.call rfl rfl rfl rfl ?_ (hc) ?_ ?_); (focus (simp (maxDischargeDepth := 120) [gFault, *]; done))); (focus (simp [gFault, *]; done)); (first | refine RunQ.evalH ?_ | refine RunX.evalY ?_); simp [gFault, *])
       | fail)
      repeat (first | refine WK.seq ?_ | refine WK.block ?_ | refine WK.inBlock ?_ | refine WK.skip ?_ | refine WK.label ?_ | refine WK.scope ?_ | refine WK.inScope ?_ | refine WK.exit rfl ?_)
      refine WK.next (fun n => if n = 60 then 902 else n) (IH ((f - 1, p + k, acc ++ [y])) (hn) (by first | omega | (dsimp only; omega))) (by repeat (first | exact TmW.nil | refine TmW.upd ?_ (by simp (maxDischargeDepth := 120) [hsn, hll, gFault]))) (by repeat (first | exact BxW.nil | refine BxW.upd ?_ (by simp (maxDischargeDepth := 120) [hsn, hll, gFault]))) (by first | exact InjW.id | exact InjW.nil | exact InjW.one | exact InjW.two (by simp) | exact InjW.three (by simp) (by simp) (by simp))
  · have hstop := RwAt.stop hi h1
    simp only at hstop
    have hpos : ¬ 0 < b.length - p := by omega
    have hpos' : ¬ (0 : Int) < ((b.length - p : Nat) : Int) := by omega
    obtain ⟨L, hL⟩ : ∃ L, b.length - p = L := ⟨_, rfl⟩
    rw [hL] at hpos hpos' ⊢
    clear hL
    by_cases h100 : 100 < acc.length
    · have e : bkDec b = ([], some (6, 4)) := by rw [hde, hstop, if_pos ⟨rfl, h100⟩]
      have h100' : (100 : Int) < acc.length := by omega
      rw [e]
      repeat' (first
       | refine WK.seq ?_
       | refine WK.block ?_
       | refine WK.inBlock ?_
       | refine WK.skip ?_
       | refine WK.label ?_
       | refine WK.scope ?_
       | refine WK.inScope ?_
       | refine WK.exit rfl ?_
       | refine WK.condT rfl ?_
       | refine WK.condF rfl ?_
       | (refine Hid.h hQ _ _ ?_; clear hQ hA)
       | refine WK.condAny rfl ?_ ?_
       | ((first | refine WK.cond2 rfl (fun h => ?_) (fun h => ?_)) <;> (first | (simp [*] at h; done) | (have h2 := h; simp at h2; exfalso; omega) | (have h2 := h; simp at h2; try simp only [Bool.not_eq_true', Bool.not_eq_false'] at h) | skip))
       | ((first | refine WK.regH Tryz.ntmps36 (by kernel_rfl) ?_ | refine WK.regX (by kernel_rfl) Tryz.ntmps36 (by kernel_rfl) ?_); intro A hA Q hQ; simp [gFault, *])
       | (refine Hid.h hQ _ _ _ (by decide +kernel) ?_; clear hQ hA)
       | (((first | refine RunQ.call rfl rfl rfl rfl rfl ?_ (b4) ?_ ?_ | refine RunX.call rfl rfl rfl rfl ?_ (b4) ?_ ?_); (focus (simp (maxDischargeDepth := 120) [gFault, *]; done))); (focus (simp [gFault, *]; done)); (first | refine RunQ.evalH ?_ | refine RunX.evalY ?_); simp [gFault, *])
       | fail)
      repeat (first | refine WK.seq ?_ | refine WK.block ?_ | refine WK.inBlock ?_ | refine WK.skip ?_ | refine WK.label ?_ | refine WK.scope ?_ | refine WK.inScope ?_ | refine WK.exit rfl ?_)
      refine WK.ghost (Ghost.own 2 901 4 rfl rfl) ?_
      repeat (first | refine WK.seq ?_ | refine WK.block ?_ | refine WK.inBlock ?_ | refine WK.skip ?_ | refine WK.label ?_ | refine WK.scope ?_ | refine WK.inScope ?_ | refine WK.exit rfl ?_)
      refine WK.retT2 Tryz.func36 ?_ ?_ ?_ <;> simp (maxDischargeDepth := 120) [Tryz.results36, bukL_nil, gFault]
    · have e : bkDec b = (acc, none) := by rw [hde, hstop, if_neg (fun h => h100 h.2)]
      have h100' : ¬ (100 : Int) < acc.length := by omega
      rw [e]
      repeat' (first
       | refine WK.seq ?_
       | refine WK.block ?_
       | refine WK.inBlock ?_
       | refine WK.skip ?_
       | refine WK.label ?_
       | refine WK.scope ?_
       | refine WK.inScope ?_
       | refine WK.exit rfl ?_
       | refine WK.condT rfl ?_
       | refine WK.condF rfl ?_
       | (refine Hid.h hQ _ _ ?_; clear hQ hA)
       | refine WK.condAny rfl ?_ ?_
       | ((first | refine WK.cond2 rfl (fun h => ?_) (fun h => ?_)) <;> (first | (simp [*] at h; done) | (have h2 := h; simp at h2; exfalso; omega) | (have h2 := h; simp at h2; try simp only [Bool.not_eq_true', Bool.not_eq_false'] at h) | skip))
       | ((first | refine WK.regH Tryz.ntmps36 (by kernel_rfl) ?_ | refine WK.regX (by kernel_rfl) Tryz.ntmps36 (by kernel_rfl) ?_); intro A hA Q hQ; simp [gFault, *])
       | (refine Hid.h hQ _ _ _ (by decide +kernel) ?_; clear hQ hA)
       | (refine WK.retT2 Tryz.func36 ?_ ?_ ?_ <;> simp (maxDischargeDepth := 120) [Tryz.results36, gFault, *])
       | fail)
theorem rbbad_c (c : Int) : FnP Tryz.prog 74 [.int .i64 c] (.agg (gFault (some (6, c)))) := by
  refine FnP.intro Tryz.func74 rfl rfl fun G w => ?_
  repeat' (first
   | refine WK.seq ?_
   | refine WK.block ?_
   | refine WK.inBlock ?_
   | refine WK.skip ?_
   | refine WK.label ?_
   | refine WK.scope ?_
   | refine WK.inScope ?_
   | refine WK.exit rfl ?_
   | refine WK.condT rfl ?_
   | refine WK.condF rfl ?_
   | (refine Hid.h hQ _ _ ?_; clear hQ hA)
   | refine WK.condAny rfl ?_ ?_
   | ((first | refine WK.cond2 rfl (fun h => ?_) (fun h => ?_)) <;> (first | (simp [*] at h; done) | (have h2 := h; simp at h2; exfalso; omega) | (have h2 := h; simp at h2; try simp only [Bool.not_eq_true', Bool.not_eq_false'] at h) | skip))
   | (refine WK.regH Tryz.ntmps74 (by kernel_rfl) ?_; intro A hA Q hQ; simp [*])
   | (refine WK.ret Tryz.func74 ?_ ?_ <;> simp (maxDischargeDepth := 120) [Tryz.results74, gFault, *])
   | fail)
theorem getN_drop {b : List (BitVec 8)} {p : Nat} (q s : Nat) (h : p ≤ b.length) : getN (b.drop p) q s = getN b (p + q) s := by
  unfold getN
  rw [List.length_drop, List.drop_drop]
  by_cases hh : q + s ≤ b.length - p
  · rw [if_pos hh, if_pos (by omega)]
  · rw [if_neg hh, if_neg (by omega)]
theorem take4 {α : Type} [Inhabited α] {l : List α} {p : Nat} (h : p + 4 ≤ l.length) : (l.drop p).take 4 = [nth l p, nth l (p + 1), nth l (p + 2), nth l (p + 3)] := by
  rw [nth_eq (by omega), nth_eq (by omega), nth_eq (by omega), nth_eq (by omega)]
  refine List.ext_getElem (by simp; omega) fun i h1 h2 => ?_
  simp only [List.length_cons, List.length_nil] at h2
  rw [List.getElem_take, List.getElem_drop]
  match i, h2 with
  | 0, _ => rfl
  | 1, _ => rfl
  | 2, _ => rfl
  | 3, _ => rfl
/-- what the reference looks at, by place -/
theorem bkRead_at {b : List (BitVec 8)} {p n : Nat} (hp : p + 16 ≤ b.length) (hn : getN b p 2 = ((n : Int), 0)) : bkRead (b.drop p) =
    if n < 16 ∨ ¬ n % 8 = 0 ∨ b.length - p < n ∨ (nth b (p + 12) == 0#8 && (nth b (p + 13) == 0#8 && (nth b (p + 14) == 0#8 && nth b (p + 15) == 0#8))) = false then (buk0, 0, some (6, 12))
    else (⟨(getN b (p + 2) 2).1, (getN b (p + 4) 4).1, (getN b (p + 8) 4).1, (acDec ((b.drop (p + 16)).take (n - 16))).1⟩, (n : Int), (acDec ((b.drop (p + 16)).take (n - 16))).2.map fun c => (2, c)) := by
  have hz : allZ (((b.drop p).drop 12).take 4) = (nth b (p + 12) == 0#8 && (nth b (p + 13) == 0#8 && (nth b (p + 14) == 0#8 && nth b (p + 15) == 0#8))) := by
    rw [List.drop_drop, take4 (by omega)]
    unfold allZ
    simp [Nat.add_assoc]
  unfold bkRead
  rw [hz, getN_drop 0 2 (by omega), getN_drop 2 2 (by omega), getN_drop 4 4 (by omega), getN_drop 8 4 (by omega), Nat.add_zero, hn, List.drop_drop, List.length_drop]
  simp only [Int.toNat_natCast]
  by_cases hh : n < 16 ∨ ¬ n % 8 = 0 ∨ b.length - p < n ∨ (nth b (p + 12) == 0#8 && (nth b (p + 13) == 0#8 && (nth b (p + 14) == 0#8 && nth b (p + 15) == 0#8))) = false
  · rw [if_pos hh, if_pos]
    rcases hh with h | h | h | h
    · exact .inr (.inl (by omega))
    · exact .inr (.inr (.inl (by omega)))
    · exact .inr (.inr (.inr (.inl (by omega))))
    · exact .inr (.inr (.inr (.inr h)))
  · rw [if_neg hh, if_neg]
    rintro (h | h | h | h | h)
    · omega
    · exact hh (.inl (by omega))
    · exact hh (.inr (.inl (by omega)))
    · exact hh (.inr (.inr (.inl (by omega))))
    · exact hh (.inr (.inr (.inr h)))
theorem and4_false {a b c d : Bool} (h : (a && (b && (c && d))) = false) : a = false ∨ (a = true ∧ b = false) ∨ (a = true ∧ b = true ∧ c = false) ∨ (a = true ∧ b = true ∧ c = true ∧ d = false) := by
  revert h; cases a <;> cases b <;> cases c <;> cases d <;> simp
theorem and4_true {a b c d : Bool} (h : (a && (b && (c && d))) = true) : a = true ∧ b = true ∧ c = true ∧ d = true := by
  revert h; cases a <;> cases b <;> cases c <;> cases d <;> simp
set_option maxHeartbeats 4000000 in
theorem rbkdec_c (b : List (BitVec 8)) (hb : b.length ≤ 1000000) : FnT Tryz.prog 39 [byS b] (bkDec b).1.length 4 (bukL (bkDec b).1) [.agg (gFault (bkDec b).2)] := by
  have b12 := rbbad_c 12
  have b4 := rbbad_c 4
  unfold byS
  by_cases h6 : 60000 < b.length
  · have e : bkDec b = ([], some (6, 12)) := by unfold bkDec; rw [if_pos h6]
    have h6' : (60000 : Int) < b.length := by omega
    rw [e]
    refine FnT.intro Tryz.func39 rfl rfl fun G w => ?_
    repeat' (first
     | refine WK.seq ?_
     | refine WK.block ?_
     | refine WK.inBlock ?_
     | refine WK.skip ?_
     | refine WK.label ?_
     | refine WK.scope ?_
     | refine WK.inScope ?_
     | refine WK.exit rfl ?_
     | refine WK.condT rfl ?_
     | refine WK.condF rfl ?_
     | (refine Hid.h hQ _ _ ?_; clear hQ hA)
     | refine WK.condAny rfl ?_ ?_
     | ((first | refine WK.cond2 rfl (fun h => ?_) (fun h => ?_) | refine Fork.mk (fun h => ?_) (fun h => ?_)) <;> (first | (simp [*] at h; done) | (have h2 := h; simp at h2; exfalso; omega) | (have h2 := h; simp at h2; try simp only [Bool.not_eq_true', Bool.not_eq_false'] at h) | skip))
     | ((first | refine WK.regH Tryz.ntmps39 (by kernel_rfl) ?_ | refine WK.regX (by kernel_rfl) Tryz.ntmps39 (by kernel_rfl) ?_); intro A hA Q hQ; simp [gFault, *])
     | (refine Hid.h hQ _ _ _ (by decide +kernel) ?_; clear hQ hA)
     | ((first | refine RunQ.gd rfl (by rw [hA.h]; rfl) ?_ | refine RunX.gd rfl (by rw [hA.h]; rfl) ?_); simp [gFault, *])
     | (((first | refine RunQ.call rfl rfl rfl rfl rfl ?_ (b12) ?_ ?_ | refine RunQW.call rfl rfl rfl rfl ?_ (b12) ?_ ?_ | refine RunX.call rfl rfl rfl rfl ?_ (b12) ?_ ?_ | refine RunXW.call rfl rfl rfl ?_ (b12) ?_ ?_); (focus (simp (maxDischargeDepth := 120) [gFault, *]; done))); (focus (simp [gFault, *]; done)); (first | refine RunQ.evalH ?_ | refine RunX.evalY ?_); simp [gFault, *])
     | fail)
    repeat (first | refine WK.seq ?_ | refine WK.block ?_ | refine WK.inBlock ?_ | refine WK.skip ?_ | refine WK.label ?_ | refine WK.scope ?_ | refine WK.inScope ?_ | refine WK.exit rfl ?_)
    refine WK.ghost (Ghost.own 2 900 4 rfl rfl) ?_
    repeat (first | refine WK.seq ?_ | refine WK.block ?_ | refine WK.inBlock ?_ | refine WK.skip ?_ | refine WK.label ?_ | refine WK.scope ?_ | refine WK.inScope ?_ | refine WK.exit rfl ?_)
    refine WK.retT2 Tryz.func39 ?_ ?_ ?_ <;> simp (maxDischargeDepth := 120) [Tryz.results39, bukL_nil, gFault]
  have h6' : ¬ (60000 : Int) < b.length := by omega
  have hde := bkDec_eq h6
  refine FnT.intro Tryz.func39 rfl rfl fun G w => ?_
  repeat' (first
   | refine WK.seq ?_
   | refine WK.block ?_
   | refine WK.inBlock ?_
   | refine WK.skip ?_
   | refine WK.label ?_
   | refine WK.scope ?_
   | refine WK.inScope ?_
   | refine WK.exit rfl ?_
   | refine WK.condT rfl ?_
   | refine WK.condF rfl ?_
   | (refine Hid.h hQ _ _ ?_; clear hQ hA)
   | refine WK.condAny rfl ?_ ?_
   | ((first | refine WK.cond2 rfl (fun h => ?_) (fun h => ?_) | refine Fork.mk (fun h => ?_) (fun h => ?_)) <;> (first | (simp [*] at h; done) | (have h2 := h; simp at h2; exfalso; omega) | (have h2 := h; simp at h2; try simp only [Bool.not_eq_true', Bool.not_eq_false'] at h) | skip))
   | ((first | refine WK.regH Tryz.ntmps39 (by kernel_rfl) ?_ | refine WK.regX (by kernel_rfl) Tryz.ntmps39 (by kernel_rfl) ?_); intro A hA Q hQ; simp [*])
   | (refine Hid.h hQ _ _ _ (by decide +kernel) ?_; clear hQ hA)
   | ((first | refine RunQ.gd rfl (by rw [hA.h]; rfl) ?_ | refine RunX.gd rfl (by rw [hA.h]; rfl) ?_); simp [*])
   | fail)
  repeat (first | refine WK.seq ?_ | refine WK.block ?_ | refine WK.inBlock ?_ | refine WK.skip ?_ | refine WK.label ?_ | refine WK.scope ?_ | refine WK.inScope ?_ | refine WK.exit rfl ?_)
  refine WK.ghost (Ghost.own 4 900 4 rfl rfl) ?_
  repeat (first | refine WK.seq ?_ | refine WK.block ?_ | refine WK.inBlock ?_ | refine WK.skip ?_ | refine WK.label ?_ | refine WK.scope ?_ | refine WK.inScope ?_ | refine WK.exit rfl ?_)
  refine WK.loopI (fun n => if n = 60 then 900 else n) (fun x : Nat × Nat × List Bucket => (⟨(upd (upd (upd (upd (upd J 0 (.sl false b.length (byL b))) 2 (.sl true 0 [])) 3 (.ptr 1 0)) 4 (.msl 60 0 x.2.2.length)) 5 (.int .i64 x.2.1)), (upd (upd B0 1 (.var (gFault none))) 60 (.buf 4 (bukL x.2.2))), 0⟩ : St)) (fun x => RwAt bkRead 16 b x) (fun x => b.length - x.2.1) ((b.length, 0, [])) (by repeat (first | exact TmW.nil | refine TmW.upd ?_ (by simp (maxDischargeDepth := 120) [gFault]))) (by repeat (first | exact BxW.nil | refine BxW.upd ?_ (by simp (maxDischargeDepth := 120) [gFault]))) (by first | exact InjW.id | exact InjW.nil | exact InjW.one | exact InjW.two (by simp) | exact InjW.three (by simp) (by simp) (by simp)) (RwAt.start bkRead 16 b) (fun i hi IH => ?_)
  obtain ⟨f, p, acc⟩ := i
  have hsm := hi.small
  have hle := hi.le
  simp only at hsm hle hi ⊢
  by_cases h1 : p < b.length
  · have h1' : (p : Int) < b.length := by omega
    have w1 : IntKind.i64.wrap ((b.length : Int) - (p : Int)) = (b.length : Int) - (p : Int) := wrap_i64 (by omega) (by omega)
    by_cases c0 : b.length - p < 16
    · have hd : bkRead (b.drop p) = (buk0, 0, some (6, 12)) := by unfold bkRead; rw [if_pos (.inl (by rw [List.length_drop]; exact c0))]
      have e0 := RwAt.bad hi h1 hd
      have e : bkDec b = ([], some (6, 12)) := by rw [hde, e0]; rfl
      have c0' : (b.length : Int) - p < 16 := by omega
      rw [e]
      clear hde e0 b4 hd c0
      repeat' (first
       | refine WK.seq ?_
       | refine WK.block ?_
       | refine WK.inBlock ?_
       | refine WK.skip ?_
       | refine WK.label ?_
       | refine WK.scope ?_
       | refine WK.inScope ?_
       | refine WK.exit rfl ?_
       | refine WK.condT rfl ?_
       | refine WK.condF rfl ?_
       | (refine Hid.h hQ _ _ ?_; clear hQ hA)
       | refine WK.condAny rfl ?_ ?_
       | ((first | refine WK.cond2 rfl (fun h => ?_) (fun h => ?_) | refine Fork.mk (fun h => ?_) (fun h => ?_)) <;> (first | (simp [*] at h; done) | (have h2 := h; simp at h2; exfalso; omega) | (have h2 := h; simp at h2; try simp only [Bool.not_eq_true', Bool.not_eq_false'] at h) | skip))
       | ((first | refine WK.regH Tryz.ntmps39 (by kernel_rfl) ?_ | refine WK.regX (by kernel_rfl) Tryz.ntmps39 (by kernel_rfl) ?_); intro A hA Q hQ; simp [gFault, *])
       | (refine Hid.h hQ _ _ _ (by decide +kernel) ?_; clear hQ hA)
       | ((first | refine RunQ.gd rfl (by rw [hA.h]; rfl) ?_ | refine RunX.gd rfl (by rw [hA.h]; rfl) ?_); simp [gFault, *])
       | (((first | refine RunQ.call rfl rfl rfl rfl rfl ?_ (b12) ?_ ?_ | refine RunQW.call rfl rfl rfl rfl ?_ (b12) ?_ ?_ | refine RunX.call rfl rfl rfl rfl ?_ (b12) ?_ ?_ | refine RunXW.call rfl rfl rfl ?_ (b12) ?_ ?_); (focus (simp (maxDischargeDepth := 120) [gFault, *]; done))); (focus (simp [gFault, *]; done)); (first | refine RunQ.evalH ?_ | refine RunX.evalY ?_); simp [gFault, *])
       | fail)
      repeat (first | refine WK.seq ?_ | refine WK.block ?_ | refine WK.inBlock ?_ | refine WK.skip ?_ | refine WK.label ?_ | refine WK.scope ?_ | refine WK.inScope ?_ | refine WK.exit rfl ?_)
      refine WK.ghost (Ghost.own 2 901 4 rfl rfl) ?_
      repeat (first | refine WK.seq ?_ | refine WK.block ?_ | refine WK.inBlock ?_ | refine WK.skip ?_ | refine WK.label ?_ | refine WK.scope ?_ | refine WK.inScope ?_ | refine WK.exit rfl ?_)
      refine WK.retT2 Tryz.func39 ?_ ?_ ?_ <;> simp (maxDischargeDepth := 120) [Tryz.results39, bukL_nil, gFault]
    have c0' : ¬ (b.length : Int) - p < 16 := by omega
    have g0 := rget_c b p 2 Sz2 (by omega) (by omega)
    have hgn : getN b p 2 = ((valN ((b.drop p).take 2) : Int), 0) := getN_val (by omega)
    have hlt : valN ((b.drop p).take 2) < 65536 := valN_lt 2 _ (by rw [List.length_take, List.length_drop]; omega)
    obtain ⟨n, hn⟩ : ∃ n, valN ((b.drop p).take 2) = n := ⟨_, rfl⟩
    rw [hn] at hgn hlt
    have hd := bkRead_at (by omega) hgn
    rw [hgn] at g0
    have z7 : ((n : Int).tmod 8 == 0) = (n % 8 == 0) := by rw [Int.tmod_eq_emod_of_nonneg (by omega), Bool.eq_iff_iff, beq_iff_eq, beq_iff_eq]; omega
    have pw_p12 : IntKind.i64.wrap ((p : Int) + 12) = (p : Int) + 12 := wrap_i64 (by omega) (by omega)
    have pu_p12 : (p : Int) + 12 < (b.length : Int) := by omega
    have pv_p12 : p + 12 < b.length := by omega
    have pw_p13 : IntKind.i64.wrap ((p : Int) + 13) = (p : Int) + 13 := wrap_i64 (by omega) (by omega)
    have pu_p13 : (p : Int) + 13 < (b.length : Int) := by omega
    have pv_p13 : p + 13 < b.length := by omega
    have pw_p14 : IntKind.i64.wrap ((p : Int) + 14) = (p : Int) + 14 := wrap_i64 (by omega) (by omega)
    have pu_p14 : (p : Int) + 14 < (b.length : Int) := by omega
    have pv_p14 : p + 14 < b.length := by omega
    have pw_p15 : IntKind.i64.wrap ((p : Int) + 15) = (p : Int) + 15 := wrap_i64 (by omega) (by omega)
    have pu_p15 : (p : Int) + 15 < (b.length : Int) := by omega
    have pv_p15 : p + 15 < b.length := by omega
    have x12 := by_get b (p + 12) (by omega)
    have x13 := by_get b (p + 13) (by omega)
    have x14 := by_get b (p + 14) (by omega)
    have x15 := by_get b (p + 15) (by omega)
    have y12 := bI_zero (nth b (p + 12))
    have y13 := bI_zero (nth b (p + 13))
    have y14 := bI_zero (nth b (p + 14))
    have y15 := bI_zero (nth b (p + 15))
    obtain ⟨k12, hk12⟩ : ∃ k, nth b (p + 12) = k := ⟨_, rfl⟩
    obtain ⟨k13, hk13⟩ : ∃ k, nth b (p + 13) = k := ⟨_, rfl⟩
    obtain ⟨k14, hk14⟩ : ∃ k, nth b (p + 14) = k := ⟨_, rfl⟩
    obtain ⟨k15, hk15⟩ : ∃ k, nth b (p + 15) = k := ⟨_, rfl⟩
    rw [hk12] at x12 y12 hd
    rw [hk13] at x13 y13 hd
    rw [hk14] at x14 y14 hd
    rw [hk15] at x15 y15 hd
    obtain ⟨z12, hz12⟩ : ∃ k, (k12 == 0#8) = k := ⟨_, rfl⟩
    obtain ⟨z13, hz13⟩ : ∃ k, (k13 == 0#8) = k := ⟨_, rfl⟩
    obtain ⟨z14, hz14⟩ : ∃ k, (k14 == 0#8) = k := ⟨_, rfl⟩
    obtain ⟨z15, hz15⟩ : ∃ k, (k15 == 0#8) = k := ⟨_, rfl⟩
    rw [hz12] at y12 hd
    rw [hz13] at y13 hd
    rw [hz14] at y14 hd
    rw [hz15] at y15 hd
    unfold byS at g0
    clear hn hk12 hk13 hk14 hk15 hz12 hz13 hz14 hz15
    have bad : (n < 16 ∨ ¬ n % 8 = 0 ∨ b.length - p < n ∨ (z12 && (z13 && (z14 && z15))) = false) → bkDec b = ([], some (6, 12)) := fun h => by
      rw [if_pos h] at hd
      have e0 := RwAt.bad hi h1 hd
      rw [hde, e0]; rfl
    by_cases c1 : n < 16
    · have e := bad (.inl c1)
      have d1 : (n : Int) < 16 := by omega
      rw [e]
      clear bad hd hde b4 x12 x13 x14 x15
      repeat' (first
       | refine WK.seq ?_
       | refine WK.block ?_
       | refine WK.inBlock ?_
       | refine WK.skip ?_
       | refine WK.label ?_
       | refine WK.scope ?_
       | refine WK.inScope ?_
       | refine WK.exit rfl ?_
       | refine WK.condT rfl ?_
       | refine WK.condF rfl ?_
       | (refine Hid.h hQ _ _ ?_; clear hQ hA)
       | refine WK.condAny rfl ?_ ?_
       | ((first | refine WK.cond2 rfl (fun h => ?_) (fun h => ?_) | refine Fork.mk (fun h => ?_) (fun h => ?_)) <;> (first | (simp [*] at h; done) | (have h2 := h; simp at h2; exfalso; omega) | (have h2 := h; simp at h2; try simp only [Bool.not_eq_true', Bool.not_eq_false'] at h) | skip))
       | ((first | refine WK.regH Tryz.ntmps39 (by kernel_rfl) ?_ | refine WK.regX (by kernel_rfl) Tryz.ntmps39 (by kernel_rfl) ?_); intro A hA Q hQ; simp [gFault, bne, *])
       | (refine Hid.h hQ _ _ _ (by decide +kernel) ?_; clear hQ hA)
       | ((first | refine RunQ.gd rfl (by rw [hA.h]; rfl) ?_ | refine RunX.gd rfl (by rw [hA.h]; rfl) ?_); simp [gFault, bne, *])
       | ((first | ((first | refine RunQ.call rfl rfl rfl rfl rfl ?_ (g0) ?_ ?_ | refine RunQW.call rfl rfl rfl rfl ?_ (g0) ?_ ?_ | refine RunX.call rfl rfl rfl rfl ?_ (g0) ?_ ?_ | refine RunXW.call rfl rfl rfl ?_ (g0) ?_ ?_); (focus (simp (maxDischargeDepth := 120) [gFault, bne, *]; done))) | ((first | refine RunQ.call rfl rfl rfl rfl rfl ?_ (b12) ?_ ?_ | refine RunQW.call rfl rfl rfl rfl ?_ (b12) ?_ ?_ | refine RunX.call rfl rfl rfl rfl ?_ (b12) ?_ ?_ | refine RunXW.call rfl rfl rfl ?_ (b12) ?_ ?_); (focus (simp (maxDischargeDepth := 120) [gFault, bne, *]; done)))); (focus (simp [gFault, bne, *]; done)); (first | refine RunQ.evalH ?_ | refine RunX.evalY ?_); simp [gFault, bne, *])
       | fail)
      repeat (first | refine WK.seq ?_ | refine WK.block ?_ | refine WK.inBlock ?_ | refine WK.skip ?_ | refine WK.label ?_ | refine WK.scope ?_ | refine WK.inScope ?_ | refine WK.exit rfl ?_)
      refine WK.ghost (Ghost.own 2 901 4 rfl rfl) ?_
      repeat (first | refine WK.seq ?_ | refine WK.block ?_ | refine WK.inBlock ?_ | refine WK.skip ?_ | refine WK.label ?_ | refine WK.scope ?_ | refine WK.inScope ?_ | refine WK.exit rfl ?_)
      refine WK.retT2 Tryz.func39 ?_ ?_ ?_ <;> simp (maxDischargeDepth := 120) [Tryz.results39, bukL_nil, gFault]
    have d1 : ¬ (n : Int) < 16 := by omega
    by_cases c2 : n % 8 = 0
    case neg =>
      have e := bad (.inr (.inl c2))
      have d2 : (n % 8 == 0) = false := by simpa using c2
      rw [d2] at z7
      rw [e]
      clear bad hd hde b4 x12 x13 x14 x15 c2 d2
      repeat' (first
       | refine WK.seq ?_
       | refine WK.block ?_
       | refine WK.inBlock ?_
       | refine WK.skip ?_
       | refine WK.label ?_
       | refine WK.scope ?_
       | refine WK.inScope ?_
       | refine WK.exit rfl ?_
       | refine WK.condT rfl ?_
       | refine WK.condF rfl ?_
       | (refine Hid.h hQ _ _ ?_; clear hQ hA)
       | refine WK.condAny rfl ?_ ?_
       | ((first | refine WK.cond2 rfl (fun h => ?_) (fun h => ?_) | refine Fork.mk (fun h => ?_) (fun h => ?_)) <;> (first | (simp [*] at h; done) | (have h2 := h; simp at h2; exfalso; omega) | (have h2 := h; simp at h2; try simp only [Bool.not_eq_true', Bool.not_eq_false'] at h) | skip))
       | ((first | refine WK.regH Tryz.ntmps39 (by kernel_rfl) ?_ | refine WK.regX (by kernel_rfl) Tryz.ntmps39 (by kernel_rfl) ?_); intro A hA Q hQ; simp [gFault, bne, *])
       | (refine Hid.h hQ _ _ _ (by decide +kernel) ?_; clear hQ hA)
       | ((first | refine RunQ.gd rfl (by rw [hA.h]; rfl) ?_ | refine RunX.gd rfl (by rw [hA.h]; rfl) ?_); simp [gFault, bne, *])
       | ((first | ((first | refine RunQ.call rfl rfl rfl rfl rfl ?_ (g0) ?_ ?_ | refine RunQW.call rfl rfl rfl rfl ?_ (g0) ?_ ?_ | refine RunX.call rfl rfl rfl rfl ?_ (g0) ?_ ?_ | refine RunXW.call rfl rfl rfl ?_ (g0) ?_ ?_); (focus (simp (maxDischargeDepth := 120) [gFault, bne, *]; done))) | ((first | refine RunQ.call rfl rfl rfl rfl rfl ?_ (b12) ?_ ?_ | refine RunQW.call rfl rfl rfl rfl ?_ (b12) ?_ ?_ | refine RunX.call rfl rfl rfl rfl ?_ (b12) ?_ ?_ | refine RunXW.call rfl rfl rfl ?_ (b12) ?_ ?_); (focus (simp (maxDischargeDepth := 120) [gFault, bne, *]; done)))); (focus (simp [gFault, bne, *]; done)); (first | refine RunQ.evalH ?_ | refine RunX.evalY ?_); simp [gFault, bne, *])
       | fail)
      repeat (first | refine WK.seq ?_ | refine WK.block ?_ | refine WK.inBlock ?_ | refine WK.skip ?_ | refine WK.label ?_ | refine WK.scope ?_ | refine WK.inScope ?_ | refine WK.exit rfl ?_)
      refine WK.ghost (Ghost.own 2 901 4 rfl rfl) ?_
      repeat (first | refine WK.seq ?_ | refine WK.block ?_ | refine WK.inBlock ?_ | refine WK.skip ?_ | refine WK.label ?_ | refine WK.scope ?_ | refine WK.inScope ?_ | refine WK.exit rfl ?_)
      refine WK.retT2 Tryz.func39 ?_ ?_ ?_ <;> simp (maxDischargeDepth := 120) [Tryz.results39, bukL_nil, gFault]
    have d2 : (n % 8 == 0) = true := by simpa using c2
    rw [d2] at z7
    by_cases c3 : b.length - p < n
    · have e := bad (.inr (.inr (.inl c3)))
      have d3 : (b.length : Int) - p < n := by omega
      rw [e]
      clear bad hd hde b4 x12 x13 x14 x15 c2 d2
      repeat' (first
       | refine WK.seq ?_
       | refine WK.block ?_
       | refine WK.inBlock ?_
       | refine WK.skip ?_
       | refine WK.label ?_
       | refine WK.scope ?_
       | refine WK.inScope ?_
       | refine WK.exit rfl ?_
       | refine WK.condT rfl ?_
       | refine WK.condF rfl ?_
       | (refine Hid.h hQ _ _ ?_; clear hQ hA)
       | refine WK.condAny rfl ?_ ?_
       | ((first | refine WK.cond2 rfl (fun h => ?_) (fun h => ?_) | refine Fork.mk (fun h => ?_) (fun h => ?_)) <;> (first | (simp [*] at h; done) | (have h2 := h; simp at h2; exfalso; omega) | (have h2 := h; simp at h2; try simp only [Bool.not_eq_true', Bool.not_eq_false'] at h) | skip))
       | ((first | refine WK.regH Tryz.ntmps39 (by kernel_rfl) ?_ | refine WK.regX (by kernel_rfl) Tryz.ntmps39 (by kernel_rfl) ?_); intro A hA Q hQ; simp [gFault, bne, *])
       | (refine Hid.h hQ _ _ _ (by decide +kernel) ?_; clear hQ hA)
       | ((first | refine RunQ.gd rfl (by rw [hA.h]; rfl) ?_ | refine RunX.gd rfl (by rw [hA.h]; rfl) ?_); simp [gFault, bne, *])
       | ((first | ((first | refine RunQ.call rfl rfl rfl rfl rfl ?_ (g0) ?_ ?_ | refine RunQW.call rfl rfl rfl rfl ?_ (g0) ?_ ?_ | refine RunX.call rfl rfl rfl rfl ?_ (g0) ?_ ?_ | refine RunXW.call rfl rfl rfl ?_ (g0) ?_ ?_); (focus (simp (maxDischargeDepth := 120) [gFault, bne, *]; done))) | ((first | refine RunQ.call rfl rfl rfl rfl rfl ?_ (b12) ?_ ?_ | refine RunQW.call rfl rfl rfl rfl ?_ (b12) ?_ ?_ | refine RunX.call rfl rfl rfl rfl ?_ (b12) ?_ ?_ | refine RunXW.call rfl rfl rfl ?_ (b12) ?_ ?_); (focus (simp (maxDischargeDepth := 120) [gFault, bne, *]; done)))); (focus (simp [gFault, bne, *]; done)); (first | refine RunQ.evalH ?_ | refine RunX.evalY ?_); simp [gFault, bne, *])
       | fail)
      repeat (first | refine WK.seq ?_ | refine WK.block ?_ | refine WK.inBlock ?_ | refine WK.skip ?_ | refine WK.label ?_ | refine WK.scope ?_ | refine WK.inScope ?_ | refine WK.exit rfl ?_)
      refine WK.ghost (Ghost.own 2 901 4 rfl rfl) ?_
      repeat (first | refine WK.seq ?_ | refine WK.block ?_ | refine WK.inBlock ?_ | refine WK.skip ?_ | refine WK.label ?_ | refine WK.scope ?_ | refine WK.inScope ?_ | refine WK.exit rfl ?_)
      refine WK.retT2 Tryz.func39 ?_ ?_ ?_ <;> simp (maxDischargeDepth := 120) [Tryz.results39, bukL_nil, gFault]
    have d3 : ¬ (b.length : Int) - p < n := by omega
    obtain ⟨z, hz⟩ : ∃ z, (z12 && (z13 && (z14 && z15))) = z := ⟨_, rfl⟩
    cases z
    · have e := bad (.inr (.inr (.inr hz)))
      rw [e]
      clear bad hd hde b4 c2 d2
      rcases and4_false hz with rfl | ⟨rfl, rfl⟩ | ⟨rfl, rfl, rfl⟩ | ⟨rfl, rfl, rfl, rfl⟩ <;>
      · clear hz
        repeat' (first
         | refine WK.seq ?_
         | refine WK.block ?_
         | refine WK.inBlock ?_
         | refine WK.skip ?_
         | refine WK.label ?_
         | refine WK.scope ?_
         | refine WK.inScope ?_
         | refine WK.exit rfl ?_
         | refine WK.condT rfl ?_
         | refine WK.condF rfl ?_
         | (refine Hid.h hQ _ _ ?_; clear hQ hA)
         | refine WK.condAny rfl ?_ ?_
         | ((first | refine WK.cond2 rfl (fun h => ?_) (fun h => ?_) | refine Fork.mk (fun h => ?_) (fun h => ?_)) <;> (first | (simp [*] at h; done) | (have h2 := h; simp at h2; exfalso; omega) | (have h2 := h; simp at h2; try simp only [Bool.not_eq_true', Bool.not_eq_false'] at h) | skip))
         | ((first | refine WK.regH Tryz.ntmps39 (by kernel_rfl) ?_ | refine WK.regX (by kernel_rfl) Tryz.ntmps39 (by kernel_rfl) ?_); intro A hA Q hQ; simp [gFault, bne, *])
         | (refine Hid.h hQ _ _ _ (by decide +kernel) ?_; clear hQ hA)
         | ((first | refine RunQ.gd rfl (by rw [hA.h]; rfl) ?_ | refine RunX.gd rfl (by rw [hA.h]; rfl) ?_); simp [gFault, bne, *])
         | ((first | ((first | refine RunQ.call rfl rfl rfl rfl rfl ?_ (g0) ?_ ?_ | refine RunQW.call rfl rfl rfl rfl ?_ (g0) ?_ ?_ | refine RunX.call rfl rfl rfl rfl ?_ (g0) ?_ ?_ | refine RunXW.call rfl rfl rfl ?_ (g0) ?_ ?_); (focus (simp (maxDischargeDepth := 120) [gFault, bne, *]; done))) | ((first | refine RunQ.call rfl rfl rfl rfl rfl ?_ (b12) ?_ ?_ | refine RunQW.call rfl rfl rfl rfl ?_ (b12) ?_ ?_ | refine RunX.call rfl rfl rfl rfl ?_ (b12) ?_ ?_ | refine RunXW.call rfl rfl rfl ?_ (b12) ?_ ?_); (focus (simp (maxDischargeDepth := 120) [gFault, bne, *]; done)))); (focus (simp [gFault, bne, *]; done)); (first | refine RunQ.evalH ?_ | refine RunX.evalY ?_); simp [gFault, bne, *])
         | fail)
        repeat (first | refine WK.seq ?_ | refine WK.block ?_ | refine WK.inBlock ?_ | refine WK.skip ?_ | refine WK.label ?_ | refine WK.scope ?_ | refine WK.inScope ?_ | refine WK.exit rfl ?_)
        refine WK.ghost (Ghost.own 2 901 4 rfl rfl) ?_
        repeat (first | refine WK.seq ?_ | refine WK.block ?_ | refine WK.inBlock ?_ | refine WK.skip ?_ | refine WK.label ?_ | refine WK.scope ?_ | refine WK.inScope ?_ | refine WK.exit rfl ?_)
        refine WK.retT2 Tryz.func39 ?_ ?_ ?_ <;> simp (maxDischargeDepth := 120) [Tryz.results39, bukL_nil, gFault]
    obtain ⟨rfl, rfl, rfl, rfl⟩ := and4_true hz
    rw [if_neg (by rintro (h | h | h | h); omega; exact h c2; omega; cases h)] at hd
    have g1 := rget_c b (p + 2) 2 Sz2 (by omega) (by omega)
    have g2 := rget_c b (p + 4) 4 Sz4 (by omega) (by omega)
    have g3 := rget_c b (p + 8) 4 Sz4 (by omega) (by omega)
    have hac := racdecP_c ((b.drop (p + 16)).take (n - 16)) (by rw [List.length_take, List.length_drop]; omega)
    have hs : ((byL b).drop (p + 16)).take (n - 16) = byL ((b.drop (p + 16)).take (n - 16)) := by rw [byL_drop, byL_take]
    have hsl : ((b.drop (p + 16)).take (n - 16)).length = n - 16 := by rw [List.length_take, List.length_drop]; omega
    obtain ⟨S, hS⟩ : ∃ S, (b.drop (p + 16)).take (n - 16) = S := ⟨_, rfl⟩
    rw [hS] at hac hs hsl hd
    obtain ⟨R, hR⟩ : ∃ R, acDec S = R := ⟨_, rfl⟩
    rw [hR] at hac hd
    obtain ⟨l, c⟩ := R
    obtain ⟨q1, hq1⟩ : ∃ q, getN b (p + 2) 2 = q := ⟨_, rfl⟩
    obtain ⟨q2, hq2⟩ : ∃ q, getN b (p + 4) 4 = q := ⟨_, rfl⟩
    obtain ⟨q3, hq3⟩ : ∃ q, getN b (p + 8) 4 = q := ⟨_, rfl⟩
    rw [hq1] at g1 hd
    rw [hq2] at g2 hd
    rw [hq3] at g3 hd
    unfold byS at g1 g2 g3 hac
    unfold actS at hac
    rw [hsl] at hac
    rw [aFault_g] at hac
    have pw_p2 : IntKind.i64.wrap ((p : Int) + 2) = (p : Int) + 2 := wrap_i64 (by omega) (by omega)
    have pw_p4 : IntKind.i64.wrap ((p : Int) + 4) = (p : Int) + 4 := wrap_i64 (by omega) (by omega)
    have pw_p8 : IntKind.i64.wrap ((p : Int) + 8) = (p : Int) + 8 := wrap_i64 (by omega) (by omega)
    have pw_p16 : IntKind.i64.wrap ((p : Int) + 16) = (p : Int) + 16 := wrap_i64 (by omega) (by omega)
    have wn : IntKind.i64.wrap ((p : Int) + (n : Int)) = (p : Int) + (n : Int) := wrap_i64 (by omega) (by omega)
    have d4 : (p : Int) + n ≤ b.length := by omega
    have d5 : (16 : Int) ≤ n := by omega
    have hsub : p + n - (p + 16) = n - 16 := by omega
    have d6 : (p : Int) + 16 ≤ (p : Int) + n := by omega
    cases c with
    | some c =>
      have e0 := RwAt.bad hi h1 hd
      have e : bkDec b = ([], some (2, c)) := by rw [hde, e0]; rfl
      rw [e]
      clear bad hd hde b4 e0 c2 d2 hz hS hR hq1 hq2 hq3 b12
      repeat' (first
       | refine WK.seq ?_
       | refine WK.block ?_
       | refine WK.inBlock ?_
       | refine WK.skip ?_
       | refine WK.label ?_
       | refine WK.scope ?_
       | refine WK.inScope ?_
       | refine WK.exit rfl ?_
       | refine WK.condT rfl ?_
       | refine WK.condF rfl ?_
       | (refine Hid.h hQ _ _ ?_; clear hQ hA)
       | refine WK.condAny rfl ?_ ?_
       | ((first | refine WK.cond2 rfl (fun h => ?_) (fun h => ?_) | refine Fork.mk (fun h => ?_) (fun h => ?_)) <;> (first | (simp [*] at h; done) | (have h2 := h; simp at h2; exfalso; omega) | (have h2 := h; simp at h2; try simp only [Bool.not_eq_true', Bool.not_eq_false'] at h) | skip))
       | ((first | refine WK.regH Tryz.ntmps39 (by kernel_rfl) ?_ | refine WK.regX (by kernel_rfl) Tryz.ntmps39 (by kernel_rfl) ?_); intro A hA Q hQ; simp [gFault, bne, *])
       | (refine Hid.h hQ _ _ _ (by decide +kernel) ?_; clear hQ hA)
       | ((first | refine RunQ.gd rfl (by rw [hA.h]; rfl) ?_ | refine RunX.gd rfl (by rw [hA.h]; rfl) ?_); simp [gFault, bne, *])
       | ((first | ((first | refine RunQ.call rfl rfl rfl rfl rfl ?_ (g0) ?_ ?_ | refine RunQW.call rfl rfl rfl rfl ?_ (g0) ?_ ?_ | refine RunX.call rfl rfl rfl rfl ?_ (g0) ?_ ?_ | refine RunXW.call rfl rfl rfl ?_ (g0) ?_ ?_); (focus (simp (maxDischargeDepth := 120) [gFault, bne, *]; done))) | ((first | refine RunQ.call rfl rfl rfl rfl rfl ?_ (g1) ?_ ?_ | refine RunQW.call rfl rfl rfl rfl ?_ (g1) ?_ ?_ | refine RunX.call rfl rfl rfl rfl ?_ (g1) ?_ ?_ | refine RunXW.call rfl rfl rfl ?_ (g1) ?_ ?_); (focus (simp (maxDischargeDepth := 120) [gFault, bne, *]; done))) | ((first | refine RunQ.call rfl rfl rfl rfl rfl ?_ (g2) ?_ ?_ | refine RunQW.call rfl rfl rfl rfl ?_ (g2) ?_ ?_ | refine RunX.call rfl rfl rfl rfl ?_ (g2) ?_ ?_ | refine RunXW.call rfl rfl rfl ?_ (g2) ?_ ?_); (focus (simp (maxDischargeDepth := 120) [gFault, bne, *]; done))) | ((first | refine RunQ.call rfl rfl rfl rfl rfl ?_ (g3) ?_ ?_ | refine RunQW.call rfl rfl rfl rfl ?_ (g3) ?_ ?_ | refine RunX.call rfl rfl rfl rfl ?_ (g3) ?_ ?_ | refine RunXW.call rfl rfl rfl ?_ (g3) ?_ ?_); (focus (simp (maxDischargeDepth := 120) [gFault, bne, *]; done))) | ((first | refine RunQ.call rfl rfl rfl rfl rfl ?_ (hac) ?_ ?_ | refine RunQW.call rfl rfl rfl rfl ?_ (hac) ?_ ?_ | refine RunX.call rfl rfl rfl rfl ?_ (hac) ?_ ?_ | refine RunXW.call rfl rfl rfl ?_ (hac) ?_ ?_); (focus (simp (maxDischargeDepth := 120) [gFault, bne, *]; done)))); (focus (simp [gFault, bne, *]; done)); (first | refine RunQ.evalH ?_ | refine RunX.evalY ?_); simp [gFault, bne, *])
       | fail)
      repeat (first | refine WK.seq ?_ | refine WK.block ?_ | refine WK.inBlock ?_ | refine WK.skip ?_ | refine WK.label ?_ | refine WK.scope ?_ | refine WK.inScope ?_ | refine WK.exit rfl ?_)
      refine WK.ghost (Ghost.own 2 901 4 rfl rfl) ?_
      repeat (first | refine WK.seq ?_ | refine WK.block ?_ | refine WK.inBlock ?_ | refine WK.skip ?_ | refine WK.label ?_ | refine WK.scope ?_ | refine WK.inScope ?_ | refine WK.exit rfl ?_)
      refine WK.retT2 Tryz.func39 ?_ ?_ ?_ <;> simp (maxDischargeDepth := 120) [Tryz.results39, bukL_nil, gFault]
    | none =>
      obtain ⟨k, hk, hk1, hk2, hn⟩ := RwAt.next (by decide) bkKeeps hi h1 hd
      have hk : n = k := by omega
      subst hk
      simp only at hk1 hn
      have hbd : (acc.length + 1) * 48 ≤ 140737488355328 := by omega
      have hsn := bukL_snoc acc ⟨q1.1, q2.1, q3.1, l⟩
      simp only [Bucket.enc] at hsn
      clear bad hd hde b4 c2 d2 hz hS hR hq1 hq2 hq3 b12
      repeat' (first
       | refine WK.seq ?_
       | refine WK.block ?_
       | refine WK.inBlock ?_
       | refine WK.skip ?_
       | refine WK.label ?_
       | refine WK.scope ?_
       | refine WK.inScope ?_
       | refine WK.exit rfl ?_
       | refine WK.condT rfl ?_
       | refine WK.condF rfl ?_
       | (refine Hid.h hQ _ _ ?_; clear hQ hA)
       | refine WK.condAny rfl ?_ ?_
       | ((first | refine WK.cond2 rfl (fun h => ?_) (fun h => ?_) | refine Fork.mk (fun h => ?_) (fun h => ?_)) <;> (first | (simp [*] at h; done) | (have h2 := h; simp at h2; exfalso; omega) | (have h2 := h; simp at h2; try simp only [Bool.not_eq_true', Bool.not_eq_false'] at h) | skip))
       | ((first | refine WK.regH Tryz.ntmps39 (by kernel_rfl) ?_ | refine WK.regX (by kernel_rfl) Tryz.ntmps39 (by kernel_rfl) ?_); intro A hA Q hQ; simp [gFault, bne, *])
       | (refine Hid.h hQ _ _ _ (by decide +kernel) ?_; clear hQ hA)
       | ((first | refine RunQ.gd rfl (by rw [hA.h]; rfl) ?_ | refine RunX.gd rfl (by rw [hA.h]; rfl) ?_); simp [gFault, bne, *])
       | (refine RunQ.append 902 app_buk rfl rfl rfl rfl rfl rfl rfl rfl rfl ?_ ?_ ?_ ?_ ?_; (focus (first | omega | (simp [gFault, bne, *]; done); done)); (focus (first | omega | (simp [gFault, bne, *]; done); done)); (focus (first | omega | (simp [gFault, bne, *]; done); done)); (focus (first | omega | (simp [gFault, bne, *]; done); done)); refine RunQ.evalH ?_; simp [gFault, bne, *])
       | (refine RunQW.by (fun hw => ?_); refine RunQ.append 902 app_buk rfl rfl rfl rfl rfl rfl rfl hw rfl ?_ ?_ ?_ ?_ ?_; (focus (first | omega | (simp [gFault, bne, *]; done); done)); (focus (first | omega | (simp [gFault, bne, *]; done); done)); (focus (first | omega | (simp [gFault, bne, *]; done); done)); (focus (first | omega | (simp [gFault, bne, *]; done); done)); clear hw; refine RunQ.evalH ?_; simp [gFault, bne, *])
       | (refine RunX.append 902 app_buk rfl rfl rfl rfl rfl rfl rfl rfl ?_ ?_ ?_ ?_ ?_; (focus (first | omega | (simp [gFault, bne, *]; done); done)); (focus (first | omega | (simp [gFault, bne, *]; done); done)); (focus (first | omega | (simp [gFault, bne, *]; done); done)); (focus (first | omega | (simp [gFault, bne, *]; done); done)); refine RunX.evalY ?_; simp [gFault, bne, *])
       | (refine RunX.by (fun hw => ?_); refine RunX.append 902 app_buk rfl rfl rfl rfl rfl rfl rfl hw ?_ ?_ ?_ ?_ ?_; (focus (first | omega | (simp [gFault, bne, *]; done); done)); (focus (first | omega | (simp [gFault, bne, *]; done); done)); (focus (first | omega | (simp [gFault, bne, *]; done); done)); (focus (first | omega | (simp [gFault, bne, *]; done); done)); clear hw; refine RunX.evalY ?_; simp [gFault, bne, *])
       | ((first | ((first | refine RunQ.call rfl rfl rfl rfl rfl ?_ (g0) ?_ ?_ | refine RunQW.call rfl rfl rfl rfl ?_ (g0) ?_ ?_ | refine RunX.call rfl rfl rfl rfl ?_ (g0) ?_ ?_ | refine RunXW.call rfl rfl rfl ?_ (g0) ?_ ?_); (focus (simp (maxDischargeDepth := 120) [gFault, bne, *]; done))) | ((first | refine RunQ.call rfl rfl rfl rfl rfl ?_ (g1) ?_ ?_ | refine RunQW.call rfl rfl rfl rfl ?_ (g1) ?_ ?_ | refine RunX.call rfl rfl rfl rfl ?_ (g1) ?_ ?_ | refine RunXW.call rfl rfl rfl ?_ (g1) ?_ ?_); (focus (simp (maxDischargeDepth := 120) [gFault, bne, *]; done))) | ((first | refine RunQ.call rfl rfl rfl rfl rfl ?_ (g2) ?_ ?_ | refine RunQW.call rfl rfl rfl rfl ?_ (g2) ?_ ?_ | refine RunX.call rfl rfl rfl rfl ?_ (g2) ?_ ?_ | refine RunXW.call rfl rfl rfl ?_ (g2) ?_ ?_); (focus (simp (maxDischargeDepth := 120) [gFault, bne, *]; done))) | ((first | refine RunQ.call rfl rfl rfl rfl rfl ?_ (g3) ?_ ?_ | refine RunQW.call rfl rfl rfl rfl ?_ (g3) ?_ ?_ | refine RunX.call rfl rfl rfl rfl ?_ (g3) ?_ ?_ | refine RunXW.call rfl rfl rfl ?_ (g3) ?_ ?_); (focus (simp (maxDischargeDepth := 120) [gFault, bne, *]; done))) | ((first | refine RunQ.call rfl rfl rfl rfl rfl ?_ (hac) ?_ ?_ | refine RunQW.call rfl rfl rfl rfl ?_ (hac) ?_ ?_ | refine RunX.call rfl rfl rfl rfl ?_ (hac) ?_ ?_ | refine RunXW.call rfl rfl rfl ?_ (hac) ?_ ?_); (focus (simp (maxDischargeDepth := 120) [gFault, bne, *]; done)))); (focus (simp [gFault, bne, *]; done)); (first | refine RunQ.evalH ?_ | refine RunX.evalY ?_); simp [gFault, bne, *])
       | fail)
      repeat (first | refine WK.seq ?_ | refine WK.block ?_ | refine WK.inBlock ?_ | refine WK.skip ?_ | refine WK.label ?_ | refine WK.scope ?_ | refine WK.inScope ?_ | refine WK.exit rfl ?_)
      refine WK.next (fun n => if n = 60 then 902 else n) (IH ((f - 1, p + n, acc ++ [⟨q1.1, q2.1, q3.1, l⟩])) (hn) (by first | omega | (dsimp only; omega))) (by repeat (first | exact TmW.nil | refine TmW.upd ?_ (by simp (maxDischargeDepth := 120) [hsn, gFault]))) (by repeat (first | exact BxW.nil | refine BxW.upd ?_ (by simp (maxDischargeDepth := 120) [hsn, gFault]))) (by first | exact InjW.id | exact InjW.nil | exact InjW.one | exact InjW.two (by simp) | exact InjW.three (by simp) (by simp) (by simp))
  · have hstop := RwAt.stop hi h1
    simp only at hstop
    have h1' : ¬ (p : Int) < b.length := by omega
    by_cases h100 : 100 < acc.length
    · have e : bkDec b = ([], some (6, 4)) := by rw [hde, hstop, if_pos ⟨rfl, h100⟩]
      have h100' : (100 : Int) < acc.length := by omega
      rw [e]
      repeat' (first
       | refine WK.seq ?_
       | refine WK.block ?_
       | refine WK.inBlock ?_
       | refine WK.skip ?_
       | refine WK.label ?_
       | refine WK.scope ?_
       | refine WK.inScope ?_
       | refine WK.exit rfl ?_
       | refine WK.condT rfl ?_
       | refine WK.condF rfl ?_
       | (refine Hid.h hQ _ _ ?_; clear hQ hA)
       | refine WK.condAny rfl ?_ ?_
       | ((first | refine WK.cond2 rfl (fun h => ?_) (fun h => ?_) | refine Fork.mk (fun h => ?_) (fun h => ?_)) <;> (first | (simp [*] at h; done) | (have h2 := h; simp at h2; exfalso; omega) | (have h2 := h; simp at h2; try simp only [Bool.not_eq_true', Bool.not_eq_false'] at h) | skip))
       | ((first | refine WK.regH Tryz.ntmps39 (by kernel_rfl) ?_ | refine WK.regX (by kernel_rfl) Tryz.ntmps39 (by kernel_rfl) ?_); intro A hA Q hQ; simp [gFault, *])
       | (refine Hid.h hQ _ _ _ (by decide +kernel) ?_; clear hQ hA)
       | ((first | refine RunQ.gd rfl (by rw [hA.h]; rfl) ?_ | refine RunX.gd rfl (by rw [hA.h]; rfl) ?_); simp [gFault, *])
       | (((first | refine RunQ.call rfl rfl rfl rfl rfl ?_ (b4) ?_ ?_ | refine RunQW.call rfl rfl rfl rfl ?_ (b4) ?_ ?_ | refine RunX.call rfl rfl rfl rfl ?_ (b4) ?_ ?_ | refine RunXW.call rfl rfl rfl ?_ (b4) ?_ ?_); (focus (simp (maxDischargeDepth := 120) [gFault, *]; done))); (focus (simp [gFault, *]; done)); (first | refine RunQ.evalH ?_ | refine RunX.evalY ?_); simp [gFault, *])
       | fail)
      repeat (first | refine WK.seq ?_ | refine WK.block ?_ | refine WK.inBlock ?_ | refine WK.skip ?_ | refine WK.label ?_ | refine WK.scope ?_ | refine WK.inScope ?_ | refine WK.exit rfl ?_)
      refine WK.ghost (Ghost.own 2 901 4 rfl rfl) ?_
      repeat (first | refine WK.seq ?_ | refine WK.block ?_ | refine WK.inBlock ?_ | refine WK.skip ?_ | refine WK.label ?_ | refine WK.scope ?_ | refine WK.inScope ?_ | refine WK.exit rfl ?_)
      refine WK.retT2 Tryz.func39 ?_ ?_ ?_ <;> simp (maxDischargeDepth := 120) [Tryz.results39, bukL_nil, gFault]
    · have e : bkDec b = (acc, none) := by rw [hde, hstop, if_neg (fun h => h100 h.2)]
      have h100' : ¬ (100 : Int) < acc.length := by omega
      rw [e]
      repeat' (first
       | refine WK.seq ?_
       | refine WK.block ?_
       | refine WK.inBlock ?_
       | refine WK.skip ?_
       | refine WK.label ?_
       | refine WK.scope ?_
       | refine WK.inScope ?_
       | refine WK.exit rfl ?_
       | refine WK.condT rfl ?_
       | refine WK.condF rfl ?_
       | (refine Hid.h hQ _ _ ?_; clear hQ hA)
       | refine WK.condAny rfl ?_ ?_
       | ((first | refine WK.cond2 rfl (fun h => ?_) (fun h => ?_) | refine Fork.mk (fun h => ?_) (fun h => ?_)) <;> (first | (simp [*] at h; done) | (have h2 := h; simp at h2; exfalso; omega) | (have h2 := h; simp at h2; try simp only [Bool.not_eq_true', Bool.not_eq_false'] at h) | skip))
       | ((first | refine WK.regH Tryz.ntmps39 (by kernel_rfl) ?_ | refine WK.regX (by kernel_rfl) Tryz.ntmps39 (by kernel_rfl) ?_); intro A hA Q hQ; simp [gFault, *])
       | (refine Hid.h hQ _ _ _ (by decide +kernel) ?_; clear hQ hA)
       | ((first | refine RunQ.gd rfl (by rw [hA.h]; rfl) ?_ | refine RunX.gd rfl (by rw [hA.h]; rfl) ?_); simp [gFault, *])
       | (refine WK.retT2 Tryz.func39 ?_ ?_ ?_ <;> simp (maxDischargeDepth := 120) [Tryz.results39, gFault, *])
       | fail)
end Go.Proofs.YteonfhnljphbpaaGreat
end

section
set_option linter.unusedVariables false
set_option linter.unusedSimpArgs false
namespace Go.Proofs.YteonfhnljphbpaaGreat
open Go Go.AI Go.Proofs
attribute [local irreducible] FnP FnO FnB FnT FnSeq WK RunQ RunQW RunX RunXW

theorem bright_c (x : Bucket) (hx : x.acts.length ≤ 1000000) : FnP Tryz.prog 79 [.agg x.enc] (.bool (bkRight x)) := by
  have p := acencP_c x.acts hx
  have n1 := nright_c x.weight 2 Sz2
  have n2 := nright_c x.watch 4 Sz4
  have n3 := nright_c x.wgroup 4 Sz4
  have e : bkRight x = ((acEnc x.acts).2 == 0 && (numOk x.weight 2 && (numOk x.watch 4 && numOk x.wgroup 4))) := rfl
  obtain ⟨R, hR⟩ : ∃ R, acEnc x.acts = R := ⟨_, rfl⟩
  rw [hR] at p e
  unfold byS actS at p
  refine FnP.intro Tryz.func79 rfl rfl fun G w => ?_
  repeat' (first
   | refine WK.seq ?_
   | refine WK.block ?_
   | refine WK.inBlock ?_
   | refine WK.skip ?_
   | refine WK.label ?_
   | refine WK.scope ?_
   | refine WK.inScope ?_
   | refine WK.exit rfl ?_
   | refine WK.condT rfl ?_
   | refine WK.condF rfl ?_
   | (refine Hid.h hQ _ _ ?_; clear hQ hA)
   | refine WK.condAny rfl ?_ ?_
   | ((first | refine WK.cond2 rfl (fun h => ?_) (fun h => ?_) | refine Fork.mk (fun h => ?_) (fun h => ?_)) <;> (first | (simp [*] at h; done) | (have h2 := h; simp at h2; exfalso; omega) | (have h2 := h; simp at h2; try simp only [Bool.not_eq_true', Bool.not_eq_false'] at h) | skip))
   | (refine WK.regH Tryz.ntmps79 (by kernel_rfl) ?_; intro A hA Q hQ; simp [Bucket.enc, *])
   | (refine RunQ.gd rfl (by rw [hA.h]; rfl) ?_; simp [Bucket.enc, *])
   | ((first | ((first | refine RunQ.call rfl rfl rfl rfl rfl ?_ (p) ?_ ?_ | refine RunQW.call rfl rfl rfl rfl ?_ (p) ?_ ?_); (focus (simp (maxDischargeDepth := 120) [Bucket.enc, *]; done))) | ((first | refine RunQ.call rfl rfl rfl rfl rfl ?_ (n1) ?_ ?_ | refine RunQW.call rfl rfl rfl rfl ?_ (n1) ?_ ?_); (focus (simp (maxDischargeDepth := 120) [Bucket.enc, *]; done))) | ((first | refine RunQ.call rfl rfl rfl rfl rfl ?_ (n2) ?_ ?_ | refine RunQW.call rfl rfl rfl rfl ?_ (n2) ?_ ?_); (focus (simp (maxDischargeDepth := 120) [Bucket.enc, *]; done))) | ((first | refine RunQ.call rfl rfl rfl rfl rfl ?_ (n3) ?_ ?_ | refine RunQW.call rfl rfl rfl rfl ?_ (n3) ?_ ?_); (focus (simp (maxDischargeDepth := 120) [Bucket.enc, *]; done)))); (focus (simp [Bucket.enc, *]; done)); refine RunQ.evalH ?_; simp [Bucket.enc, *])
   | (refine WK.ret Tryz.func79 ?_ ?_ <;> simp (maxDischargeDepth := 120) [Tryz.results79, Bucket.enc, *])
   | fail)
theorem bwrong_c (x : Bucket) (hx : x.acts.length ≤ 1000000) : FnP Tryz.prog 78 [.agg x.enc] (.bool (!bkRight x)) := by
  have p := bright_c x hx
  refine FnP.intro Tryz.func78 rfl rfl fun G w => ?_
  repeat' (first
   | refine WK.seq ?_
   | refine WK.block ?_
   | refine WK.inBlock ?_
   | refine WK.skip ?_
   | refine WK.label ?_
   | refine WK.scope ?_
   | refine WK.inScope ?_
   | refine WK.exit rfl ?_
   | refine WK.condT rfl ?_
   | refine WK.condF rfl ?_
   | (refine Hid.h hQ _ _ ?_; clear hQ hA)
   | refine WK.condAny rfl ?_ ?_
   | ((first | refine WK.cond2 rfl (fun h => ?_) (fun h => ?_)) <;> (first | (simp [*] at h; done) | (have h2 := h; simp at h2; exfalso; omega) | (have h2 := h; simp at h2; try simp only [Bool.not_eq_true', Bool.not_eq_false'] at h) | skip))
   | (refine WK.regH Tryz.ntmps78 (by kernel_rfl) ?_; intro A hA Q hQ; simp [*])
   | ((refine RunQ.call rfl rfl rfl rfl rfl ?_ (p) ?_ ?_; (focus (simp (maxDischargeDepth := 120) [*]; done))); (focus (simp [*]; done)); refine RunQ.evalH ?_; simp [*])
   | (refine WK.ret Tryz.func78 ?_ ?_ <;> simp (maxDischargeDepth := 120) [Tryz.results78, *])
   | fail)
structure BkFit (x : Bucket) : Prop where
  e0 : (acEnc x.acts).2 = 0
  n0 : numOk ((16 + (acEnc x.acts).1.length : Nat) : Int) 2 = true
  n1 : numOk x.weight 2 = true
  n2 : numOk x.watch 4 = true
  n3 : numOk x.wgroup 4 = true
theorem bkFit {x : Bucket} (h : bkRight x = true) : BkFit x := by
  unfold bkRight at h
  rw [Bool.and_eq_true, Bool.and_eq_true, Bool.and_eq_true, beq_iff_eq] at h
  obtain ⟨h0, h1, h2, h3⟩ := h
  have := acEnc_len x.acts
  exact ⟨h0, numOk2 (by omega), h1, h2, h3⟩
theorem bkFlat_succ {l : List Bucket} {i : Nat} (h : i < l.length) : rwFlat bkOne (l.take (i + 1)) = rwFlat bkOne (l.take i) ++ bkOne (nth l i) := by
  unfold rwFlat; rw [take_nth h, List.flatMap_append]; simp
theorem bkFlat_len (l : List Bucket) : (rwFlat bkOne l).length ≤ l.length * 6100 := by
  induction l with
  | nil => simp [rwFlat]
  | cons x l ih =>
    have h1 := bkOne_len x
    have h2 := acEnc_len x.acts
    have e : rwFlat bkOne (x :: l) = bkOne x ++ rwFlat bkOne l := rfl
    rw [e, List.length_append, List.length_cons]
    omega
theorem bkEnc_bad1 {l : List Bucket} (h : ¬ (l.length ≤ 100 ∧ l.all bkRight = true ∧ (rwFlat bkOne l).length ≤ 60000)) : bkEnc l = ([], 1) := by unfold bkEnc; rw [if_neg h]
theorem anyNot_all {α : Type} (p : α → Bool) (l : List α) : (l.any fun x => !p x) = !l.all p := by rw [List.not_all_eq_any_not]
set_option maxHeartbeats 4000000 in
theorem bkenc_c (l : List Bucket) (hl : l.length ≤ 1000000) (ha : ∀ x, x ∈ l → x.acts.length ≤ 1000000) : FnT Tryz.prog 44 [bukS l] (bkEnc l).1.length 1 (byL (bkEnc l).1) [.int .i64 (bkEnc l).2] := by
  have q := containsf_buk 78 [] (fun x => !bkRight x) l rfl hl (fun x hx => bwrong_c x (ha x hx))
  rw [anyNot_all] at q
  unfold bukS at *
  by_cases h100 : 100 < l.length
  · have e := bkEnc_bad1 (l := l) (fun h => by omega)
    have j : (100 : Int) < l.length := by omega
    rw [e]
    clear q
    refine FnT.intro Tryz.func44 rfl rfl fun G w => ?_
    repeat' (first
     | refine WK.seq ?_
     | refine WK.block ?_
     | refine WK.inBlock ?_
     | refine WK.skip ?_
     | refine WK.label ?_
     | refine WK.scope ?_
     | refine WK.inScope ?_
     | refine WK.exit rfl ?_
     | refine WK.condT rfl ?_
     | refine WK.condF rfl ?_
     | (refine Hid.h hQ _ _ ?_; clear hQ hA)
     | refine WK.condAny rfl ?_ ?_
     | ((first | refine WK.cond2 rfl (fun h => ?_) (fun h => ?_) | refine Fork.mk (fun h => ?_) (fun h => ?_)) <;> (first | (simp [*] at h; done) | (have h2 := h; simp at h2; exfalso; omega) | (have h2 := h; simp at h2; try simp only [Bool.not_eq_true', Bool.not_eq_false'] at h) | skip))
     | ((first | refine WK.regH Tryz.ntmps44 (by kernel_rfl) ?_ | refine WK.regX (by kernel_rfl) Tryz.ntmps44 (by kernel_rfl) ?_); intro A hA Q hQ; simp [*])
     | (refine Hid.h hQ _ _ _ (by decide +kernel) ?_; clear hQ hA)
     | ((first | refine RunQ.gd rfl (by rw [hA.h]; rfl) ?_ | refine RunX.gd rfl (by rw [hA.h]; rfl) ?_); simp [*])
     | fail)
    repeat (first | refine WK.seq ?_ | refine WK.block ?_ | refine WK.inBlock ?_ | refine WK.skip ?_ | refine WK.label ?_ | refine WK.scope ?_ | refine WK.inScope ?_ | refine WK.exit rfl ?_)
    refine WK.ghost (Ghost.own 2 900 1 rfl rfl) ?_
    repeat (first | refine WK.seq ?_ | refine WK.block ?_ | refine WK.inBlock ?_ | refine WK.skip ?_ | refine WK.label ?_ | refine WK.scope ?_ | refine WK.inScope ?_ | refine WK.exit rfl ?_)
    refine WK.retT2 Tryz.func44 ?_ ?_ ?_ <;> simp (maxDischargeDepth := 120) [Tryz.results44, byL_nil]
  have j : ¬ (100 : Int) < l.length := by omega
  cases hr : l.all bkRight
  · have e := bkEnc_bad1 (l := l) (fun h => by rw [hr] at h; exact Bool.noConfusion h.2.1)
    rw [e]
    rw [hr] at q
    refine FnT.intro Tryz.func44 rfl rfl fun G w => ?_
    repeat' (first
     | refine WK.seq ?_
     | refine WK.block ?_
     | refine WK.inBlock ?_
     | refine WK.skip ?_
     | refine WK.label ?_
     | refine WK.scope ?_
     | refine WK.inScope ?_
     | refine WK.exit rfl ?_
     | refine WK.condT rfl ?_
     | refine WK.condF rfl ?_
     | (refine Hid.h hQ _ _ ?_; clear hQ hA)
     | refine WK.condAny rfl ?_ ?_
     | ((first | refine WK.cond2 rfl (fun h => ?_) (fun h => ?_) | refine Fork.mk (fun h => ?_) (fun h => ?_)) <;> (first | (simp [*] at h; done) | (have h2 := h; simp at h2; exfalso; omega) | (have h2 := h; simp at h2; try simp only [Bool.not_eq_true', Bool.not_eq_false'] at h) | skip))
     | ((first | refine WK.regH Tryz.ntmps44 (by kernel_rfl) ?_ | refine WK.regX (by kernel_rfl) Tryz.ntmps44 (by kernel_rfl) ?_); intro A hA Q hQ; simp [*])
     | (refine Hid.h hQ _ _ _ (by decide +kernel) ?_; clear hQ hA)
     | ((first | refine RunQ.gd rfl (by rw [hA.h]; rfl) ?_ | refine RunX.gd rfl (by rw [hA.h]; rfl) ?_); simp [*])
     | (((first | refine RunQ.call rfl rfl rfl rfl rfl ?_ (q) ?_ ?_ | refine RunQW.call rfl rfl rfl rfl ?_ (q) ?_ ?_ | refine RunX.call rfl rfl rfl rfl ?_ (q) ?_ ?_ | refine RunXW.call rfl rfl rfl ?_ (q) ?_ ?_); (focus (simp (maxDischargeDepth := 120) [*]; done))); (focus (simp [*]; done)); (first | refine RunQ.evalH ?_ | refine RunX.evalY ?_); simp [*])
     | fail)
    repeat (first | refine WK.seq ?_ | refine WK.block ?_ | refine WK.inBlock ?_ | refine WK.skip ?_ | refine WK.label ?_ | refine WK.scope ?_ | refine WK.inScope ?_ | refine WK.exit rfl ?_)
    refine WK.ghost (Ghost.own 2 900 1 rfl rfl) ?_
    repeat (first | refine WK.seq ?_ | refine WK.block ?_ | refine WK.inBlock ?_ | refine WK.skip ?_ | refine WK.label ?_ | refine WK.scope ?_ | refine WK.inScope ?_ | refine WK.exit rfl ?_)
    refine WK.retT2 Tryz.func44 ?_ ?_ ?_ <;> simp (maxDischargeDepth := 120) [Tryz.results44, byL_nil]
  rw [hr] at q
  have hall : ∀ x, x ∈ l → bkRight x = true := List.all_eq_true.1 hr
  have hdef : bkEnc l = if (rwFlat bkOne l).length ≤ 60000 then (rwFlat bkOne l, 0) else ([], 1) := by
    unfold bkEnc
    by_cases hh : (rwFlat bkOne l).length ≤ 60000
    · rw [if_pos hh, if_pos ⟨by omega, hr, hh⟩]
    · rw [if_neg hh, if_neg fun h => hh h.2.2]
  refine FnT.intro Tryz.func44 rfl rfl fun G w => ?_
  repeat' (first
   | refine WK.seq ?_
   | refine WK.block ?_
   | refine WK.inBlock ?_
   | refine WK.skip ?_
   | refine WK.label ?_
   | refine WK.scope ?_
   | refine WK.inScope ?_
   | refine WK.exit rfl ?_
   | refine WK.condT rfl ?_
   | refine WK.condF rfl ?_
   | (refine Hid.h hQ _ _ ?_; clear hQ hA)
   | refine WK.condAny rfl ?_ ?_
   | ((first | refine WK.cond2 rfl (fun h => ?_) (fun h => ?_) | refine Fork.mk (fun h => ?_) (fun h => ?_)) <;> (first | (simp [*] at h; done) | (have h2 := h; simp at h2; exfalso; omega) | (have h2 := h; simp at h2; try simp only [Bool.not_eq_true', Bool.not_eq_false'] at h) | skip))
   | ((first | refine WK.regH Tryz.ntmps44 (by kernel_rfl) ?_ | refine WK.regX (by kernel_rfl) Tryz.ntmps44 (by kernel_rfl) ?_); intro A hA Q hQ; simp [*])
   | (refine Hid.h hQ _ _ _ (by decide +kernel) ?_; clear hQ hA)
   | ((first | refine RunQ.gd rfl (by rw [hA.h]; rfl) ?_ | refine RunX.gd rfl (by rw [hA.h]; rfl) ?_); simp [*])
   | (((first | refine RunQ.call rfl rfl rfl rfl rfl ?_ (q) ?_ ?_ | refine RunQW.call rfl rfl rfl rfl ?_ (q) ?_ ?_ | refine RunX.call rfl rfl rfl rfl ?_ (q) ?_ ?_ | refine RunXW.call rfl rfl rfl ?_ (q) ?_ ?_); (focus (simp (maxDischargeDepth := 120) [*]; done))); (focus (simp [*]; done)); (first | refine RunQ.evalH ?_ | refine RunX.evalY ?_); simp [*])
   | fail)
  repeat (first | refine WK.seq ?_ | refine WK.block ?_ | refine WK.inBlock ?_ | refine WK.skip ?_ | refine WK.label ?_ | refine WK.scope ?_ | refine WK.inScope ?_ | refine WK.exit rfl ?_)
  refine WK.ghost (Ghost.own 4 900 1 rfl rfl) ?_
  repeat (first | refine WK.seq ?_ | refine WK.block ?_ | refine WK.inBlock ?_ | refine WK.skip ?_ | refine WK.label ?_ | refine WK.scope ?_ | refine WK.inScope ?_ | refine WK.exit rfl ?_)
  refine WK.loopI (fun n => if n = 1 then 900 else n) (fun i : Nat => (⟨(upd (upd (upd (upd (upd (upd J 2 (.sl true 0 [])) 3 (.int .i64 0)) 4 (.msl 1 0 (rwFlat bkOne (l.take i)).length)) 16 (.sl false l.length (bukL l))) 17 (.int .i64 l.length)) 18 (.int .i64 i)), (upd B0 1 (.buf 1 (byL (rwFlat bkOne (l.take i))))), 0⟩ : St)) (fun i => i ≤ l.length) (fun i => l.length - i) (0) (by repeat (first | exact TmW.nil | refine TmW.upd ?_ (by simp (maxDischargeDepth := 120) [rwFlat, byL_nil]))) (by repeat (first | exact BxW.nil | refine BxW.upd ?_ (by simp (maxDischargeDepth := 120) [rwFlat, byL_nil]))) (by first | exact InjW.id | exact InjW.nil | exact InjW.one | exact InjW.two (by simp) | exact InjW.three (by simp) (by simp) (by simp)) (by omega) (fun i hi IH => ?_)
  have hfl := bkFlat_len (l.take i)
  have htl : (l.take i).length ≤ 100 := by rw [List.length_take]; omega
  by_cases h1 : i < l.length
  · obtain ⟨h4, h3⟩ := buk_load l i h1
    have h6 : IntKind.i64.wrap ((i : Int) + 1) = i + 1 := wrap_i64 (by omega) (by omega)
    have hs := bkFlat_succ h1
    have fit := bkFit (hall _ (nth_mem h1))
    have hx := ha _ (nth_mem h1)
    obtain ⟨x, hxx⟩ : ∃ x, nth l i = x := ⟨_, rfl⟩
    rw [hxx] at h4 hs fit hx
    have p := acencP_c x.acts hx
    have hEl := acEnc_len x.acts
    have hone : bkOne x = beN (16 + (acEnc x.acts).1.length : Nat) 2 ++ (beN x.weight 2 ++ (beN x.watch 4 ++ (beN x.wgroup 4 ++ (List.replicate 4 0#8 ++ (acEnc x.acts).1)))) := rfl
    obtain ⟨f0, f1, f2, f3, f4⟩ := fit
    obtain ⟨R, hR⟩ : ∃ R, acEnc x.acts = R := ⟨_, rfl⟩
    rw [hR] at p hEl f0 f1 hone
    obtain ⟨E, c⟩ := R
    simp only at p hEl f0 f1 hone
    subst f0
    obtain ⟨F, hF⟩ : ∃ F, rwFlat bkOne (l.take i) = F := ⟨_, rfl⟩
    rw [hF] at hs hfl ⊢
    have hFl : F.length ≤ 700000 := by omega
    have c1 := nput_c F ((16 + E.length : Nat) : Int) 2 Sz2 (by omega)
    rw [putN_beN f1] at c1
    obtain ⟨F1, hF1⟩ : ∃ F1, F ++ beN ((16 + E.length : Nat) : Int) 2 = F1 := ⟨_, rfl⟩
    rw [hF1] at c1
    have hF1l : F1.length = F.length + 2 := by rw [← hF1, List.length_append, beN_len]
    have c2 := nput_c F1 x.weight 2 Sz2 (by omega)
    rw [putN_beN f2] at c2
    obtain ⟨F2, hF2⟩ : ∃ F2, F1 ++ beN x.weight 2 = F2 := ⟨_, rfl⟩
    rw [hF2] at c2
    have hF2l : F2.length = F.length + 4 := by rw [← hF2, List.length_append, beN_len]; omega
    have c3 := nput_c F2 x.watch 4 Sz4 (by omega)
    rw [putN_beN f3] at c3
    obtain ⟨F3, hF3⟩ : ∃ F3, F2 ++ beN x.watch 4 = F3 := ⟨_, rfl⟩
    rw [hF3] at c3
    have hF3l : F3.length = F.length + 8 := by rw [← hF3, List.length_append, beN_len]; omega
    have c4 := nput_c F3 x.wgroup 4 Sz4 (by omega)
    rw [putN_beN f4] at c4
    obtain ⟨F4, hF4⟩ : ∃ F4, F3 ++ beN x.wgroup 4 = F4 := ⟨_, rfl⟩
    rw [hF4] at c4
    have hF4l : F4.length = F.length + 12 := by rw [← hF4, List.length_append, beN_len]; omega
    have hs2 : rwFlat bkOne (l.take (i + 1)) = F4 ++ (List.replicate 4 0#8 ++ E) := by
      rw [hs, hone, ← hF4, ← hF3, ← hF2, ← hF1]; simp only [List.append_assoc]
    have hz : byL (List.replicate 4 0#8) = [.int .u8 0, .int .u8 0, .int .u8 0, .int .u8 0] := rfl
    have hs3 : byL F4 ++ (AV.int .u8 0 :: AV.int .u8 0 :: AV.int .u8 0 :: AV.int .u8 0 :: byL E) = byL (rwFlat bkOne (l.take (i + 1))) := by rw [hs2, byL_app, byL_app, hz]; rfl
    have hs4 : (rwFlat bkOne (l.take (i + 1))).length = F4.length + 4 + E.length := by rw [hs2, List.length_append, List.length_append, List.length_replicate]; omega
    have w16 : IntKind.i64.wrap (16 + (E.length : Int)) = 16 + (E.length : Int) := wrap_i64 (by omega) (by omega)
    have hbd1 : F4.length + 4 ≤ 140737488355328 := by omega
    have hbd2 : F4.length + 4 + E.length ≤ 140737488355328 := by omega
    have hfu1 : (byL F).take F.length = byL F := by_full _ _ rfl
    have hfu2 : (byL F1).take F1.length = byL F1 := by_full _ _ rfl
    have hfu3 : (byL F2).take F2.length = byL F2 := by_full _ _ rfl
    have hfu4 : (byL F3).take F3.length = byL F3 := by_full _ _ rfl
    have hfu5 : (byL E).take E.length = byL E := by_full _ _ rfl
    unfold byS actS at *
    clear hF hF1 hF2 hF3 hF4 hs hs2 hone hR f1 f2 f3 f4 hxx hF1l hF2l hF3l hF4l hfl htl hr
    repeat' (first
     | refine WK.seq ?_
     | refine WK.block ?_
     | refine WK.inBlock ?_
     | refine WK.skip ?_
     | refine WK.label ?_
     | refine WK.scope ?_
     | refine WK.inScope ?_
     | refine WK.exit rfl ?_
     | refine WK.condT rfl ?_
     | refine WK.condF rfl ?_
     | (refine Hid.h hQ _ _ ?_; clear hQ hA)
     | refine WK.condAny rfl ?_ ?_
     | ((first | refine WK.cond2 rfl (fun h => ?_) (fun h => ?_) | refine Fork.mk (fun h => ?_) (fun h => ?_)) <;> (first | (simp [*] at h; done) | (have h2 := h; simp at h2; exfalso; omega) | (have h2 := h; simp at h2; try simp only [Bool.not_eq_true', Bool.not_eq_false'] at h) | skip))
     | ((first | refine WK.regH Tryz.ntmps44 (by kernel_rfl) ?_ | refine WK.regX (by kernel_rfl) Tryz.ntmps44 (by kernel_rfl) ?_); intro A hA Q hQ; simp [Bucket.enc, *])
     | (refine Hid.h hQ _ _ _ (by decide +kernel) ?_; clear hQ hA)
     | ((first | refine RunQ.gd rfl (by rw [hA.h]; rfl) ?_ | refine RunX.gd rfl (by rw [hA.h]; rfl) ?_); simp [Bucket.enc, *])
     | (refine RunQ.callOz 901 28 1 rfl rfl rfl rfl rfl rfl rfl ?_ (c1) ?_ ?_ (by simp) (by decide) ?_; (focus (simp (maxDischargeDepth := 120) [Bucket.enc, *]; done)); (focus (simp [Bucket.enc, *]; done)); (focus (simp [Bucket.enc, *]; done)); refine RunQ.evalH ?_; simp [Bucket.enc, *])
     | (refine RunQW.by (fun hw => ?_); refine RunQ.callOz 901 28 1 rfl rfl hw rfl rfl rfl rfl ?_ (c1) ?_ ?_ (by simp) (by decide) ?_; (focus (simp (maxDischargeDepth := 120) [Bucket.enc, *]; done)); (focus (simp [Bucket.enc, *]; done)); (focus (simp [Bucket.enc, *]; done)); clear hw; refine RunQ.evalH ?_; simp [Bucket.enc, *])
     | (refine RunX.callOz 901 28 1 rfl rfl rfl rfl rfl rfl ?_ (c1) ?_ ?_ (by simp) (by decide) ?_; (focus (simp (maxDischargeDepth := 120) [Bucket.enc, *]; done)); (focus (simp [Bucket.enc, *]; done)); (focus (simp [Bucket.enc, *]; done)); refine RunX.evalY ?_; simp [Bucket.enc, *])
     | (refine RunX.by (fun hw => ?_); refine RunX.callOz 901 28 1 rfl rfl hw rfl rfl rfl ?_ (c1) ?_ ?_ (by simp) (by decide) ?_; (focus (simp (maxDischargeDepth := 120) [Bucket.enc, *]; done)); (focus (simp [Bucket.enc, *]; done)); (focus (simp [Bucket.enc, *]; done)); clear hw; refine RunX.evalY ?_; simp [Bucket.enc, *])
     | (refine RunQ.callOz 902 32 1 rfl rfl rfl rfl rfl rfl rfl ?_ (c2) ?_ ?_ (by simp) (by decide) ?_; (focus (simp (maxDischargeDepth := 120) [Bucket.enc, *]; done)); (focus (simp [Bucket.enc, *]; done)); (focus (simp [Bucket.enc, *]; done)); refine RunQ.evalH ?_; simp [Bucket.enc, *])
     | (refine RunQW.by (fun hw => ?_); refine RunQ.callOz 902 32 1 rfl rfl hw rfl rfl rfl rfl ?_ (c2) ?_ ?_ (by simp) (by decide) ?_; (focus (simp (maxDischargeDepth := 120) [Bucket.enc, *]; done)); (focus (simp [Bucket.enc, *]; done)); (focus (simp [Bucket.enc, *]; done)); clear hw; refine RunQ.evalH ?_; simp [Bucket.enc, *])
     | (refine RunX.callOz 902 32 1 rfl rfl rfl rfl rfl rfl ?_ (c2) ?_ ?_ (by simp) (by decide) ?_; (focus (simp (maxDischargeDepth := 120) [Bucket.enc, *]; done)); (focus (simp [Bucket.enc, *]; done)); (focus (simp [Bucket.enc, *]; done)); refine RunX.evalY ?_; simp [Bucket.enc, *])
     | (refine RunX.by (fun hw => ?_); refine RunX.callOz 902 32 1 rfl rfl hw rfl rfl rfl ?_ (c2) ?_ ?_ (by simp) (by decide) ?_; (focus (simp (maxDischargeDepth := 120) [Bucket.enc, *]; done)); (focus (simp [Bucket.enc, *]; done)); (focus (simp [Bucket.enc, *]; done)); clear hw; refine RunX.evalY ?_; simp [Bucket.enc, *])
     | (refine RunQ.callOz 903 36 1 rfl rfl rfl rfl rfl rfl rfl ?_ (c3) ?_ ?_ (by simp) (by decide) ?_; (focus (simp (maxDischargeDepth := 120) [Bucket.enc, *]; done)); (focus (simp [Bucket.enc, *]; done)); (focus (simp [Bucket.enc, *]; done)); refine RunQ.evalH ?_; simp [Bucket.enc, *])
     | (refine RunQW.by (fun hw => ?_); refine RunQ.callOz 903 36 1 rfl rfl hw rfl rfl rfl rfl ?_ (c3) ?_ ?_ (by simp) (by decide) ?_; (focus (simp (maxDischargeDepth := 120) [Bucket.enc, *]; done)); (focus (simp [Bucket.enc, *]; done)); (focus (simp [Bucket.enc, *]; done)); clear hw; refine RunQ.evalH ?_; simp [Bucket.enc, *])
     | (refine RunX.callOz 903 36 1 rfl rfl rfl rfl rfl rfl ?_ (c3) ?_ ?_ (by simp) (by decide) ?_; (focus (simp (maxDischargeDepth := 120) [Bucket.enc, *]; done)); (focus (simp [Bucket.enc, *]; done)); (focus (simp [Bucket.enc, *]; done)); refine RunX.evalY ?_; simp [Bucket.enc, *])
     | (refine RunX.by (fun hw => ?_); refine RunX.callOz 903 36 1 rfl rfl hw rfl rfl rfl ?_ (c3) ?_ ?_ (by simp) (by decide) ?_; (focus (simp (maxDischargeDepth := 120) [Bucket.enc, *]; done)); (focus (simp [Bucket.enc, *]; done)); (focus (simp [Bucket.enc, *]; done)); clear hw; refine RunX.evalY ?_; simp [Bucket.enc, *])
     | (refine RunQ.callOz 904 39 1 rfl rfl rfl rfl rfl rfl rfl ?_ (c4) ?_ ?_ (by simp) (by decide) ?_; (focus (simp (maxDischargeDepth := 120) [Bucket.enc, *]; done)); (focus (simp [Bucket.enc, *]; done)); (focus (simp [Bucket.enc, *]; done)); refine RunQ.evalH ?_; simp [Bucket.enc, *])
     | (refine RunQW.by (fun hw => ?_); refine RunQ.callOz 904 39 1 rfl rfl hw rfl rfl rfl rfl ?_ (c4) ?_ ?_ (by simp) (by decide) ?_; (focus (simp (maxDischargeDepth := 120) [Bucket.enc, *]; done)); (focus (simp [Bucket.enc, *]; done)); (focus (simp [Bucket.enc, *]; done)); clear hw; refine RunQ.evalH ?_; simp [Bucket.enc, *])
     | (refine RunX.callOz 904 39 1 rfl rfl rfl rfl rfl rfl ?_ (c4) ?_ ?_ (by simp) (by decide) ?_; (focus (simp (maxDischargeDepth := 120) [Bucket.enc, *]; done)); (focus (simp [Bucket.enc, *]; done)); (focus (simp [Bucket.enc, *]; done)); refine RunX.evalY ?_; simp [Bucket.enc, *])
     | (refine RunX.by (fun hw => ?_); refine RunX.callOz 904 39 1 rfl rfl hw rfl rfl rfl ?_ (c4) ?_ ?_ (by simp) (by decide) ?_; (focus (simp (maxDischargeDepth := 120) [Bucket.enc, *]; done)); (focus (simp [Bucket.enc, *]; done)); (focus (simp [Bucket.enc, *]; done)); clear hw; refine RunX.evalY ?_; simp [Bucket.enc, *])
     | (refine RunQ.append 905 appByte rfl rfl rfl rfl rfl rfl rfl rfl rfl ?_ ?_ ?_ ?_ ?_; (focus (first | omega | (simp [Bucket.enc, *]; done); done)); (focus (first | omega | (simp [Bucket.enc, *]; done); done)); (focus (first | omega | (simp [Bucket.enc, *]; done); done)); (focus (first | omega | (simp [Bucket.enc, *]; done); done)); refine RunQ.evalH ?_; simp [Bucket.enc, *])
     | (refine RunQW.by (fun hw => ?_); refine RunQ.append 905 appByte rfl rfl rfl rfl rfl rfl rfl hw rfl ?_ ?_ ?_ ?_ ?_; (focus (first | omega | (simp [Bucket.enc, *]; done); done)); (focus (first | omega | (simp [Bucket.enc, *]; done); done)); (focus (first | omega | (simp [Bucket.enc, *]; done); done)); (focus (first | omega | (simp [Bucket.enc, *]; done); done)); clear hw; refine RunQ.evalH ?_; simp [Bucket.enc, *])
     | (refine RunX.append 905 appByte rfl rfl rfl rfl rfl rfl rfl rfl ?_ ?_ ?_ ?_ ?_; (focus (first | omega | (simp [Bucket.enc, *]; done); done)); (focus (first | omega | (simp [Bucket.enc, *]; done); done)); (focus (first | omega | (simp [Bucket.enc, *]; done); done)); (focus (first | omega | (simp [Bucket.enc, *]; done); done)); refine RunX.evalY ?_; simp [Bucket.enc, *])
     | (refine RunX.by (fun hw => ?_); refine RunX.append 905 appByte rfl rfl rfl rfl rfl rfl rfl hw ?_ ?_ ?_ ?_ ?_; (focus (first | omega | (simp [Bucket.enc, *]; done); done)); (focus (first | omega | (simp [Bucket.enc, *]; done); done)); (focus (first | omega | (simp [Bucket.enc, *]; done); done)); (focus (first | omega | (simp [Bucket.enc, *]; done); done)); clear hw; refine RunX.evalY ?_; simp [Bucket.enc, *])
     | (refine RunQ.append 906 appByte rfl rfl rfl rfl rfl rfl rfl rfl rfl ?_ ?_ ?_ ?_ ?_; (focus (first | omega | (simp [Bucket.enc, *]; done); done)); (focus (first | omega | (simp [Bucket.enc, *]; done); done)); (focus (first | omega | (simp [Bucket.enc, *]; done); done)); (focus (first | omega | (simp [Bucket.enc, *]; done); done)); refine RunQ.evalH ?_; simp [Bucket.enc, *])
     | (refine RunQW.by (fun hw => ?_); refine RunQ.append 906 appByte rfl rfl rfl rfl rfl rfl rfl hw rfl ?_ ?_ ?_ ?_ ?_; (focus (first | omega | (simp [Bucket.enc, *]; done); done)); (focus (first | omega | (simp [Bucket.enc, *]; done); done)); (focus (first | omega | (simp [Bucket.enc, *]; done); done)); (focus (first | omega | (simp [Bucket.enc, *]; done); done)); clear hw; refine RunQ.evalH ?_; simp [Bucket.enc, *])
     | (refine RunX.append 906 appByte rfl rfl rfl rfl rfl rfl rfl rfl ?_ ?_ ?_ ?_ ?_; (focus (first | omega | (simp [Bucket.enc, *]; done); done)); (focus (first | omega | (simp [Bucket.enc, *]; done); done)); (focus (first | omega | (simp [Bucket.enc, *]; done); done)); (focus (first | omega | (simp [Bucket.enc, *]; done); done)); refine RunX.evalY ?_; simp [Bucket.enc, *])
     | (refine RunX.by (fun hw => ?_); refine RunX.append 906 appByte rfl rfl rfl rfl rfl rfl rfl hw ?_ ?_ ?_ ?_ ?_; (focus (first | omega | (simp [Bucket.enc, *]; done); done)); (focus (first | omega | (simp [Bucket.enc, *]; done); done)); (focus (first | omega | (simp [Bucket.enc, *]; done); done)); (focus (first | omega | (simp [Bucket.enc, *]; done); done)); clear hw; refine RunX.evalY ?_; simp [Bucket.enc, *])
     | (((first | refine RunQ.call rfl rfl rfl rfl rfl ?_ (p) ?_ ?_ | refine RunQW.call rfl rfl rfl rfl ?_ (p) ?_ ?_ | refine RunX.call rfl rfl rfl rfl ?_ (p) ?_ ?_ | refine RunXW.call rfl rfl rfl ?_ (p) ?_ ?_); (focus (simp (maxDischargeDepth := 120) [Bucket.enc, *]; done))); (focus (simp [Bucket.enc, *]; done)); (first | refine RunQ.evalH ?_ | refine RunX.evalY ?_); simp [Bucket.enc, *])
     | fail)
    repeat (first | refine WK.seq ?_ | refine WK.block ?_ | refine WK.inBlock ?_ | refine WK.skip ?_ | refine WK.label ?_ | refine WK.scope ?_ | refine WK.inScope ?_ | refine WK.exit rfl ?_)
    refine WK.next (fun n => if n = 1 then 906 else n) (IH (i + 1) (by omega) (by first | omega | (dsimp only; omega))) (by repeat (first | exact TmW.nil | refine TmW.upd ?_ (by simp (maxDischargeDepth := 120) [hs3, hs4]))) (by repeat (first | exact BxW.nil | refine BxW.upd ?_ (by simp (maxDischargeDepth := 120) [hs3, hs4]))) (by first | exact InjW.id | exact InjW.nil | exact InjW.one | exact InjW.two (by simp) | exact InjW.three (by simp) (by simp) (by simp))
  · have hT : l.take i = l := List.take_of_length_le (by omega)
    rw [hT] at hfl ⊢
    obtain ⟨F, hF⟩ : ∃ F, rwFlat bkOne l = F := ⟨_, rfl⟩
    rw [hF] at hdef hfl ⊢
    by_cases h6 : F.length ≤ 60000
    · have j6 : ¬ (60000 : Int) < F.length := by omega
      rw [if_pos h6] at hdef
      rw [hdef]
      clear hF hdef
      repeat' (first
       | refine WK.seq ?_
       | refine WK.block ?_
       | refine WK.inBlock ?_
       | refine WK.skip ?_
       | refine WK.label ?_
       | refine WK.scope ?_
       | refine WK.inScope ?_
       | refine WK.exit rfl ?_
       | refine WK.condT rfl ?_
       | refine WK.condF rfl ?_
       | (refine Hid.h hQ _ _ ?_; clear hQ hA)
       | refine WK.condAny rfl ?_ ?_
       | ((first | refine WK.cond2 rfl (fun h => ?_) (fun h => ?_) | refine Fork.mk (fun h => ?_) (fun h => ?_)) <;> (first | (simp [*] at h; done) | (have h2 := h; simp at h2; exfalso; omega) | (have h2 := h; simp at h2; try simp only [Bool.not_eq_true', Bool.not_eq_false'] at h) | skip))
       | ((first | refine WK.regH Tryz.ntmps44 (by kernel_rfl) ?_ | refine WK.regX (by kernel_rfl) Tryz.ntmps44 (by kernel_rfl) ?_); intro A hA Q hQ; simp [*])
       | (refine Hid.h hQ _ _ _ (by decide +kernel) ?_; clear hQ hA)
       | ((first | refine RunQ.gd rfl (by rw [hA.h]; rfl) ?_ | refine RunX.gd rfl (by rw [hA.h]; rfl) ?_); simp [*])
       | (refine WK.retT2 Tryz.func44 ?_ ?_ ?_ <;> simp (maxDischargeDepth := 120) [Tryz.results44, *])
       | fail)
    · have j6 : (60000 : Int) < F.length := by omega
      rw [if_neg h6] at hdef
      rw [hdef]
      clear hF hdef
      repeat' (first
       | refine WK.seq ?_
       | refine WK.block ?_
       | refine WK.inBlock ?_
       | refine WK.skip ?_
       | refine WK.label ?_
       | refine WK.scope ?_
       | refine WK.inScope ?_
       | refine WK.exit rfl ?_
       | refine WK.condT rfl ?_
       | refine WK.condF rfl ?_
       | (refine Hid.h hQ _ _ ?_; clear hQ hA)
       | refine WK.condAny rfl ?_ ?_
       | ((first | refine WK.cond2 rfl (fun h => ?_) (fun h => ?_) | refine Fork.mk (fun h => ?_) (fun h => ?_)) <;> (first | (simp [*] at h; done) | (have h2 := h; simp at h2; exfalso; omega) | (have h2 := h; simp at h2; try simp only [Bool.not_eq_true', Bool.not_eq_false'] at h) | skip))
       | ((first | refine WK.regH Tryz.ntmps44 (by kernel_rfl) ?_ | refine WK.regX (by kernel_rfl) Tryz.ntmps44 (by kernel_rfl) ?_); intro A hA Q hQ; simp [*])
       | (refine Hid.h hQ _ _ _ (by decide +kernel) ?_; clear hQ hA)
       | ((first | refine RunQ.gd rfl (by rw [hA.h]; rfl) ?_ | refine RunX.gd rfl (by rw [hA.h]; rfl) ?_); simp [*])
       | fail)
      repeat (first | refine WK.seq ?_ | refine WK.block ?_ | refine WK.inBlock ?_ | refine WK.skip ?_ | refine WK.label ?_ | refine WK.scope ?_ | refine WK.inScope ?_ | refine WK.exit rfl ?_)
      refine WK.ghost (Ghost.own 2 907 1 rfl rfl) ?_
      repeat (first | refine WK.seq ?_ | refine WK.block ?_ | refine WK.inBlock ?_ | refine WK.skip ?_ | refine WK.label ?_ | refine WK.scope ?_ | refine WK.inScope ?_ | refine WK.exit rfl ?_)
      refine WK.retT2 Tryz.func44 ?_ ?_ ?_ <;> simp (maxDischargeDepth := 120) [Tryz.results44, byL_nil]
end Go.Proofs.YteonfhnljphbpaaGreat
end
