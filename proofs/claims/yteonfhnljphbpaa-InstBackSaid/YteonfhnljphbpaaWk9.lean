/- Instructions: read by the program. -/
import Derived.Test.YteonfhnljphbpaaWk8
set_option linter.all false
set_option linter.unnecessarySimpa false
section
set_option linter.unusedVariables false
set_option linter.unusedSimpArgs false
namespace Go.Proofs.Yteonfhnljphbpaa
open Go Go.AI Go.Proofs
attribute [local irreducible] FnP FnO FnB FnT FnSeq WK RunQ RunQW RunX RunXW

theorem instL_snoc (l : List Inst) (x : Inst) : instL l ++ x.enc = instL (l ++ [x]) := by rw [instL_app]; simp [instL]
theorem inOf_kind (k : Int) (b : List (BitVec 8)) : (inOf k b).1.kind = k := by
  unfold inOf
  split
  · rename_i h; exact h.symm
  split
  · rename_i h; exact h.symm
  split
  · rfl
  · rfl
theorem inStep_cut {ks : List Int} {b : List (BitVec 8)} {k : Int} {n : Nat} {c : Int × Int} (h : inCut b = (k, n, some c)) : inStep ks b = (inst0, 0, some c) := by unfold inStep; rw [h]
theorem inStep_two {ks : List Int} {b : List (BitVec 8)} {k : Int} {n : Nat} (h : inCut b = (k, n, none)) (hk : k ∈ ks) : inStep ks b = (inst0, 0, some (3, 9)) := by
  unfold inStep; rw [h]; simp only; rw [if_pos hk]
theorem inStep_none {ks : List Int} {b : List (BitVec 8)} {k : Int} {n : Nat} {y : Inst} (h : inCut b = (k, n, none)) (hk : k ∉ ks) (ho : inOf k (b.take n) = (y, none)) : inStep ks b = (y, n, none) := by
  unfold inStep; rw [h]; simp only; rw [if_neg hk, ho]
theorem inStep_some {ks : List Int} {b : List (BitVec 8)} {k : Int} {n : Nat} {y : Inst} {c : Int × Int} (h : inCut b = (k, n, none)) (hk : k ∉ ks) (ho : inOf k (b.take n) = (y, some c)) : inStep ks b = (inst0, 0, some c) := by
  unfold inStep; rw [h]; simp only; rw [if_neg hk, ho]
set_option maxHeartbeats 4000000 in
theorem idec_c (b : List (BitVec 8)) (hb : b.length ≤ 100000) : FnT Try.prog 40 [byS b] (inDec b).1.length 7 (instL (inDec b).1) [.agg (gFault (inDec b).2)] := by
  have b9 := ibad_c 9
  unfold byS
  refine FnT.intro Try.func40 rfl rfl fun G w => ?_
  repeat' (first
   | refine WK.seq ?_
   | refine WK.block ?_
   | refine WK.inBlock ?_
   | refine WK.skip ?_
   | refine WK.label ?_
   | refine WK.scope ?_
   | refine WK.inScope ?_
   | refine WK.exit rfl ?_
   | refine WK.condT rfl ?_
   | refine WK.condF rfl ?_
   | (refine Hid.h hQ _ _ ?_; clear hQ hA)
   | refine WK.condAny rfl ?_ ?_
   | ((first | refine WK.cond2 rfl (fun h => ?_) (fun h => ?_)) <;> (first | (simp [*] at h; done) | (have h2 := h; simp at h2; exfalso; omega) | (have h2 := h; simp at h2; try simp only [Bool.not_eq_true', Bool.not_eq_false'] at h) | skip))
   | ((first | refine WK.regH Try.ntmps40 (by kernel_rfl) ?_ | refine WK.regX (by kernel_rfl) Try.ntmps40 (by kernel_rfl) ?_); intro A hA Q hQ; simp [*])
   | (refine Hid.h hQ _ _ _ (by decide +kernel) ?_; clear hQ hA)
   | (refine RunQ.makeMap 910 rfl rfl rfl ?_ ?_; (focus (simp [*]; done)); refine RunQ.evalH ?_; simp [*])
   | (refine RunX.makeMap 910 rfl rfl ?_ ?_; (focus (simp [*]; done)); refine RunX.evalY ?_; simp [*])
   | fail)
  repeat (first | refine WK.seq ?_ | refine WK.block ?_ | refine WK.inBlock ?_ | refine WK.skip ?_ | refine WK.label ?_ | refine WK.scope ?_ | refine WK.inScope ?_ | refine WK.exit rfl ?_)
  refine WK.ghost (Ghost.own 4 900 7 rfl rfl) ?_
  repeat (first | refine WK.seq ?_ | refine WK.block ?_ | refine WK.inBlock ?_ | refine WK.skip ?_ | refine WK.label ?_ | refine WK.scope ?_ | refine WK.inScope ?_ | refine WK.exit rfl ?_)
  refine WK.loopI (fun n => if n = 60 then 900 else if n = 61 then 910 else n) (fun x : Nat × Nat × List Inst => (⟨(upd (upd (upd (upd (upd J 0 (.sl false (b.length - x.2.1) (byL (b.drop x.2.1)))) 2 (.sl true 0 [])) 3 (.ptr 1 0)) 4 (.msl 60 0 x.2.2.length)) 5 (.mv 61)), (upd (upd (upd B0 1 (.var (gFault none))) 60 (.buf 7 (instL x.2.2))) 61 (.obj (mpObj (mpSeen (inKinds x.2.2))))), 0⟩ : St)) (fun x => InAt b x) (fun x => b.length - x.2.1) ((b.length, 0, [])) (by repeat (first | exact TmW.nil | refine TmW.upd ?_ (by simp (maxDischargeDepth := 120) [gFault, inKinds, mpSeen]))) (by repeat (first | exact BxW.nil | refine BxW.upd ?_ (by simp (maxDischargeDepth := 120) [gFault, inKinds, mpSeen]))) (by first | exact InjW.id | exact InjW.nil | exact InjW.one | exact InjW.two (by simp) | exact InjW.three (by simp) (by simp) (by simp)) (InAt.start b) (fun i hi IH => ?_)
  obtain ⟨f, p, acc⟩ := i
  have hsm := hi.small
  have hle := hi.le
  have hnd := hi.once
  simp only at hsm hle hi hnd ⊢
  by_cases h1 : p < b.length
  · have hc := icut_c (b.drop p) (by rw [List.length_drop]; omega)
    obtain ⟨k, n, c, hd⟩ : ∃ k n c, inCut (b.drop p) = (k, n, c) := ⟨_, _, _, rfl⟩
    rw [hd] at hc
    unfold byS at hc
    rw [List.length_drop] at hc
    have hpos : 0 < b.length - p := by omega
    have hpos' : (0 : Int) < ((b.length - p : Nat) : Int) := by omega
    cases c with
    | some c =>
      have e := InAt.bad hi h1 (inStep_cut hd)
      obtain ⟨L, hL⟩ : ∃ L, b.length - p = L := ⟨_, rfl⟩
      obtain ⟨B, hB⟩ : ∃ B, (b.drop p).take n = B := ⟨_, rfl⟩
      rw [hL] at hc hpos hpos' ⊢
      simp only [hB] at hc
      rw [e]
      clear hL hB b9
      repeat' (first
       | refine WK.seq ?_
       | refine WK.block ?_
       | refine WK.inBlock ?_
       | refine WK.skip ?_
       | refine WK.label ?_
       | refine WK.scope ?_
       | refine WK.inScope ?_
       | refine WK.exit rfl ?_
       | refine WK.condT rfl ?_
       | refine WK.condF rfl ?_
       | (refine Hid.h hQ _ _ ?_; clear hQ hA)
       | refine WK.condAny rfl ?_ ?_
       | ((first | refine WK.cond2 rfl (fun h => ?_) (fun h => ?_)) <;> (first | (simp [*] at h; done) | (have h2 := h; simp at h2; exfalso; omega) | (have h2 := h; simp at h2; try simp only [Bool.not_eq_true', Bool.not_eq_false'] at h) | skip))
       | ((first | refine WK.regH Try.ntmps40 (by kernel_rfl) ?_ | refine WK.regX (by kernel_rfl) Try.ntmps40 (by kernel_rfl) ?_); intro A hA Q hQ; simp [gFault, *])
       | (refine Hid.h hQ _ _ _ (by decide +kernel) ?_; clear hQ hA)
       | (((first | refine RunQ.call rfl rfl rfl rfl rfl ?_ (hc) ?_ ?_ | refine RunX.call rfl rfl rfl rfl ?_ (hc) ?_ ?_); (focus (simp (maxDischargeDepth := 120) [gFault, *]; done))); (focus (simp [gFault, *]; done)); (first | refine RunQ.evalH ?_ | refine RunX.evalY ?_); simp [gFault, *])
       | fail)
      repeat (first | refine WK.seq ?_ | refine WK.block ?_ | refine WK.inBlock ?_ | refine WK.skip ?_ | refine WK.label ?_ | refine WK.scope ?_ | refine WK.inScope ?_ | refine WK.exit rfl ?_)
      refine WK.ghost (Ghost.own 2 901 7 rfl rfl) ?_
      repeat (first | refine WK.seq ?_ | refine WK.block ?_ | refine WK.inBlock ?_ | refine WK.skip ?_ | refine WK.label ?_ | refine WK.scope ?_ | refine WK.inScope ?_ | refine WK.exit rfl ?_)
      refine WK.retT2 Try.func40 ?_ ?_ ?_ <;> simp (maxDischargeDepth := 120) [Try.results40, instL_nil, gFault]
    | none =>
    obtain ⟨f1, f2, f3, f4, ⟨kn, hkn, f5, f6, f7⟩, f8, f9⟩ := inCut_facts hd
    rw [List.length_drop] at f2
    have hvl := mpSeen_val (inKinds acc) k
    have hsn := mpSeen_snoc (inKinds acc) k
    have hcl := List.count_le_length (l := inKinds acc) (a := k)
    have hkl : (inKinds acc).length ≤ 100000 := by unfold inKinds; rw [List.length_map]; omega
    have hcp : 0 < (inKinds acc).count k ↔ k ∈ inKinds acc := List.count_pos_iff
    obtain ⟨c, hcc⟩ : ∃ c, (inKinds acc).count k = c := ⟨_, rfl⟩
    rw [hcc] at hvl hcl hcp
    obtain ⟨S, hS⟩ : ∃ S, mpSeen (inKinds acc) = S := ⟨_, rfl⟩
    rw [hS] at hsn hvl ⊢
    rw [hvl] at hsn
    have hput := mpVal_put S k ((c : Int) + 1) k
    rw [if_pos rfl] at hput
    have wc : IntKind.i64.wrap ((c : Int) + 1) = c + 1 := wrap_i64 (by omega) (by omega)
    have hBl : ((b.drop p).take n).length = n := by rw [List.length_take, List.length_drop]; omega
    have ho := ione_c k ((b.drop p).take n) (by omega) (by omega) (fun h => by
      unfold inLaid at f9; rw [h, if_neg (by decide), if_pos rfl] at f9
      simp only [Bool.and_eq_true, beq_iff_eq] at f9; omega)
    clear hkn f5 f6 f7 f8
    by_cases hc0 : c = 0
    case neg =>
      have e := InAt.bad hi h1 (inStep_two hd (hcp.1 (by omega)))
      have hgt : (1 : Int) < (c : Int) + 1 := by omega
      have hgt2 : 0 < c := by omega
      obtain ⟨L, hL⟩ : ∃ L, b.length - p = L := ⟨_, rfl⟩
      obtain ⟨B, hB⟩ : ∃ B, (b.drop p).take n = B := ⟨_, rfl⟩
      rw [hL] at hc hpos hpos' ⊢
      simp only [hB] at hc
      rw [e]
      clear hL hB ho hsn hcp hcl hS hcc hBl f9
      repeat' (first
       | refine WK.seq ?_
       | refine WK.block ?_
       | refine WK.inBlock ?_
       | refine WK.skip ?_
       | refine WK.label ?_
       | refine WK.scope ?_
       | refine WK.inScope ?_
       | refine WK.exit rfl ?_
       | refine WK.condT rfl ?_
       | refine WK.condF rfl ?_
       | (refine Hid.h hQ _ _ ?_; clear hQ hA)
       | refine WK.condAny rfl ?_ ?_
       | ((first | refine WK.cond2 rfl (fun h => ?_) (fun h => ?_)) <;> (first | (simp [*] at h; done) | (have h2 := h; simp at h2; exfalso; omega) | (have h2 := h; simp at h2; try simp only [Bool.not_eq_true', Bool.not_eq_false'] at h) | skip))
       | ((first | refine WK.regH Try.ntmps40 (by kernel_rfl) ?_ | refine WK.regX (by kernel_rfl) Try.ntmps40 (by kernel_rfl) ?_); intro A hA Q hQ; simp [gFault, *])
       | (refine Hid.h hQ _ _ _ (by decide +kernel) ?_; clear hQ hA)
       | (refine RunQ.mapUpdate mpOkInt rfl rfl rfl rfl rfl rfl rfl ?_; refine RunQ.evalH ?_; simp [gFault, *])
       | (refine RunX.mapUpdate mpOkInt rfl rfl rfl rfl rfl rfl ?_; refine RunX.evalY ?_; simp [gFault, *])
       | (refine RunQ.lookup mpOkInt rfl rfl rfl rfl rfl rfl ?_; refine RunQ.evalH ?_; simp [gFault, *])
       | (refine RunX.lookup mpOkInt rfl rfl rfl rfl rfl ?_; refine RunX.evalY ?_; simp [gFault, *])
       | ((first | ((first | refine RunQ.call rfl rfl rfl rfl rfl ?_ (hc) ?_ ?_ | refine RunX.call rfl rfl rfl rfl ?_ (hc) ?_ ?_); (focus (simp (maxDischargeDepth := 120) [gFault, *]; done))) | ((first | refine RunQ.call rfl rfl rfl rfl rfl ?_ (b9) ?_ ?_ | refine RunX.call rfl rfl rfl rfl ?_ (b9) ?_ ?_); (focus (simp (maxDischargeDepth := 120) [gFault, *]; done)))); (focus (simp [gFault, *]; done)); (first | refine RunQ.evalH ?_ | refine RunX.evalY ?_); simp [gFault, *])
       | fail)
      repeat (first | refine WK.seq ?_ | refine WK.block ?_ | refine WK.inBlock ?_ | refine WK.skip ?_ | refine WK.label ?_ | refine WK.scope ?_ | refine WK.inScope ?_ | refine WK.exit rfl ?_)
      refine WK.ghost (Ghost.own 2 901 7 rfl rfl) ?_
      repeat (first | refine WK.seq ?_ | refine WK.block ?_ | refine WK.inBlock ?_ | refine WK.skip ?_ | refine WK.label ?_ | refine WK.scope ?_ | refine WK.inScope ?_ | refine WK.exit rfl ?_)
      refine WK.retT2 Try.func40 ?_ ?_ ?_ <;> simp (maxDischargeDepth := 120) [Try.results40, instL_nil, gFault]
    subst hc0
    have hput1 : mpVal (mpPut S k 1) k = 1 := by simpa using hput
    have hsn1 : mpSeen (inKinds acc ++ [k]) = mpPut S k 1 := by simpa using hsn
    have hvl1 : mpVal S k = 0 := by simpa using hvl
    have wc1 : IntKind.i64.wrap 1 = 1 := rfl
    have hnk : k ∉ inKinds acc := fun h => by have := hcp.2 h; omega
    obtain ⟨y, c, hy⟩ : ∃ y c, inOf k ((b.drop p).take n) = (y, c) := ⟨_, _, rfl⟩
    rw [hy] at ho
    unfold byS at ho
    rw [hBl] at ho hc
    clear hput hsn hvl wc hcp hcl hS hcc
    cases c with
    | some c =>
      have hst := inStep_some hd hnk hy
      have e := InAt.bad hi h1 hst
      obtain ⟨L, hL⟩ : ∃ L, b.length - p = L := ⟨_, rfl⟩
      obtain ⟨B, hB⟩ : ∃ B, (b.drop p).take n = B := ⟨_, rfl⟩
      rw [hL] at hc hpos hpos' ⊢
      rw [hB] at hc ho
      rw [e]
      clear hL hB hst hBl f9 b9 hsn1
      repeat' (first
       | refine WK.seq ?_
       | refine WK.block ?_
       | refine WK.inBlock ?_
       | refine WK.skip ?_
       | refine WK.label ?_
       | refine WK.scope ?_
       | refine WK.inScope ?_
       | refine WK.exit rfl ?_
       | refine WK.condT rfl ?_
       | refine WK.condF rfl ?_
       | (refine Hid.h hQ _ _ ?_; clear hQ hA)
       | refine WK.condAny rfl ?_ ?_
       | ((first | refine WK.cond2 rfl (fun h => ?_) (fun h => ?_)) <;> (first | (simp [*] at h; done) | (have h2 := h; simp at h2; exfalso; omega) | (have h2 := h; simp at h2; try simp only [Bool.not_eq_true', Bool.not_eq_false'] at h) | skip))
       | ((first | refine WK.regH Try.ntmps40 (by kernel_rfl) ?_ | refine WK.regX (by kernel_rfl) Try.ntmps40 (by kernel_rfl) ?_); intro A hA Q hQ; simp [gFault, Inst.enc, *])
       | (refine Hid.h hQ _ _ _ (by decide +kernel) ?_; clear hQ hA)
       | (refine RunQ.mapUpdate mpOkInt rfl rfl rfl rfl rfl rfl rfl ?_; refine RunQ.evalH ?_; simp [gFault, Inst.enc, *])
       | (refine RunX.mapUpdate mpOkInt rfl rfl rfl rfl rfl rfl ?_; refine RunX.evalY ?_; simp [gFault, Inst.enc, *])
       | (refine RunQ.lookup mpOkInt rfl rfl rfl rfl rfl rfl ?_; refine RunQ.evalH ?_; simp [gFault, Inst.enc, *])
       | (refine RunX.lookup mpOkInt rfl rfl rfl rfl rfl ?_; refine RunX.evalY ?_; simp [gFault, Inst.enc, *])
       | ((first | ((first | refine RunQ.call rfl rfl rfl rfl rfl ?_ (hc) ?_ ?_ | refine RunX.call rfl rfl rfl rfl ?_ (hc) ?_ ?_); (focus (simp (maxDischargeDepth := 120) [gFault, Inst.enc, *]; done))) | ((first | refine RunQ.call rfl rfl rfl rfl rfl ?_ (ho) ?_ ?_ | refine RunX.call rfl rfl rfl rfl ?_ (ho) ?_ ?_); (focus (simp (maxDischargeDepth := 120) [gFault, Inst.enc, *]; done)))); (focus (simp [gFault, Inst.enc, *]; done)); (first | refine RunQ.evalH ?_ | refine RunX.evalY ?_); simp [gFault, Inst.enc, *])
       | fail)
      repeat (first | refine WK.seq ?_ | refine WK.block ?_ | refine WK.inBlock ?_ | refine WK.skip ?_ | refine WK.label ?_ | refine WK.scope ?_ | refine WK.inScope ?_ | refine WK.exit rfl ?_)
      refine WK.ghost (Ghost.own 2 901 7 rfl rfl) ?_
      repeat (first | refine WK.seq ?_ | refine WK.block ?_ | refine WK.inBlock ?_ | refine WK.skip ?_ | refine WK.label ?_ | refine WK.scope ?_ | refine WK.inScope ?_ | refine WK.exit rfl ?_)
      refine WK.retT2 Try.func40 ?_ ?_ ?_ <;> simp (maxDischargeDepth := 120) [Try.results40, instL_nil, gFault]
    | none =>
      have hst := inStep_none hd hnk hy
      obtain ⟨hk1, hk2, hn⟩ := InAt.next hi h1 hst
      simp only at hk1 hn
      have hyk : y.kind = k := by have := inOf_kind k ((b.drop p).take n); rw [hy] at this; exact this
      have hkk : inKinds (acc ++ [y]) = inKinds acc ++ [k] := by unfold inKinds; rw [List.map_append, List.map_cons, List.map_nil, hyk]
      have hnL : (n : Int) ≤ ((b.length - p : Nat) : Int) := by omega
      have hdd : ((byL (b.drop p)).drop n).take (b.length - p - n) = byL (b.drop (p + n)) := by
        rw [byL_drop, List.drop_drop]; exact by_full _ _ (by rw [List.length_drop]; omega)
      have hll : b.length - (p + n) = b.length - p - n := by omega
      have hbd : (acc.length + 1) * 72 ≤ 140737488355328 := by omega
      have hsq := instL_snoc acc y
      obtain ⟨L, hL⟩ : ∃ L, b.length - p = L := ⟨_, rfl⟩
      obtain ⟨B, hB⟩ : ∃ B, (b.drop p).take n = B := ⟨_, rfl⟩
      rw [hL] at hc hpos hpos' hnL hdd hll ⊢
      rw [hB] at hc ho
      rw [← hkk] at hsn1
      simp only [Inst.enc] at hsq ho
      clear hL hB hst hBl f9 b9 hkk hyk hy hd
      repeat' (first
       | refine WK.seq ?_
       | refine WK.block ?_
       | refine WK.inBlock ?_
       | refine WK.skip ?_
       | refine WK.label ?_
       | refine WK.scope ?_
       | refine WK.inScope ?_
       | refine WK.exit rfl ?_
       | refine WK.condT rfl ?_
       | refine WK.condF rfl ?_
       | (refine Hid.h hQ _ _ ?_; clear hQ hA)
       | refine WK.condAny rfl ?_ ?_
       | ((first | refine WK.cond2 rfl (fun h => ?_) (fun h => ?_)) <;> (first | (simp [*] at h; done) | (have h2 := h; simp at h2; exfalso; omega) | (have h2 := h; simp at h2; try simp only [Bool.not_eq_true', Bool.not_eq_false'] at h) | skip))
       | ((first | refine WK.regH Try.ntmps40 (by kernel_rfl) ?_ | refine WK.regX (by kernel_rfl) Try.ntmps40 (by kernel_rfl) ?_); intro A hA Q hQ; simp [gFault, *])
       | (refine Hid.h hQ _ _ _ (by decide +kernel) ?_; clear hQ hA)
       | (refine RunQ.mapUpdate mpOkInt rfl rfl rfl rfl rfl rfl rfl ?_; refine RunQ.evalH ?_; simp [gFault, *])
       | (refine RunX.mapUpdate mpOkInt rfl rfl rfl rfl rfl rfl ?_; refine RunX.evalY ?_; simp [gFault, *])
       | (refine RunQ.lookup mpOkInt rfl rfl rfl rfl rfl rfl ?_; refine RunQ.evalH ?_; simp [gFault, *])
       | (refine RunX.lookup mpOkInt rfl rfl rfl rfl rfl ?_; refine RunX.evalY ?_; simp [gFault, *])
       | (refine RunQ.append 902 appInst rfl rfl rfl rfl rfl rfl rfl rfl rfl ?_ ?_ ?_ ?_ ?_; (focus (first | omega | (simp [gFault, *]; done); done)); (focus (first | omega | (simp [gFault, *]; done); done)); (focus (first | omega | (simp [gFault, *]; done); done)); (focus (first | omega | (simp [gFault, *]; done); done)); refine RunQ.evalH ?_; simp [gFault, *])
       | (refine RunX.append 902 appInst rfl rfl rfl rfl rfl rfl rfl rfl ?_ ?_ ?_ ?_ ?_; (focus (first | omega | (simp [gFault, *]; done); done)); (focus (first | omega | (simp [gFault, *]; done); done)); (focus (first | omega | (simp [gFault, *]; done); done)); (focus (first | omega | (simp [gFault, *]; done); done)); refine RunX.evalY ?_; simp [gFault, *])
       | ((first | ((first | refine RunQ.call rfl rfl rfl rfl rfl ?_ (hc) ?_ ?_ | refine RunX.call rfl rfl rfl rfl ?_ (hc) ?_ ?_); (focus (simp (maxDischargeDepth := 120) [gFault, *]; done))) | ((first | refine RunQ.call rfl rfl rfl rfl rfl ?_ (ho) ?_ ?_ | refine RunX.call rfl rfl rfl rfl ?_ (ho) ?_ ?_); (focus (simp (maxDischargeDepth := 120) [gFault, *]; done)))); (focus (simp [gFault, *]; done)); (first | refine RunQ.evalH ?_ | refine RunX.evalY ?_); simp [gFault, *])
       | fail)
      repeat (first | refine WK.seq ?_ | refine WK.block ?_ | refine WK.inBlock ?_ | refine WK.skip ?_ | refine WK.label ?_ | refine WK.scope ?_ | refine WK.inScope ?_ | refine WK.exit rfl ?_)
      refine WK.next (fun n => if n = 60 then 902 else n) (IH ((f - 1, p + n, acc ++ [y])) (hn) (by first | omega | (dsimp only; omega))) (by repeat (first | exact TmW.nil | refine TmW.upd ?_ (by simp (maxDischargeDepth := 120) [hsq, hll, gFault, hsn1]))) (by repeat (first | exact BxW.nil | refine BxW.upd ?_ (by simp (maxDischargeDepth := 120) [hsq, hll, gFault, hsn1]))) (by first | exact InjW.id | exact InjW.nil | exact InjW.one | exact InjW.two (by simp) | exact InjW.three (by simp) (by simp) (by simp))
  · have hstop := InAt.stop hi h1
    simp only at hstop
    have hpos : ¬ 0 < b.length - p := by omega
    have hpos' : ¬ (0 : Int) < ((b.length - p : Nat) : Int) := by omega
    obtain ⟨L, hL⟩ : ∃ L, b.length - p = L := ⟨_, rfl⟩
    rw [hL] at hpos hpos' ⊢
    rw [hstop]
    clear hL
    repeat' (first
     | refine WK.seq ?_
     | refine WK.block ?_
     | refine WK.inBlock ?_
     | refine WK.skip ?_
     | refine WK.label ?_
     | refine WK.scope ?_
     | refine WK.inScope ?_
     | refine WK.exit rfl ?_
     | refine WK.condT rfl ?_
     | refine WK.condF rfl ?_
     | (refine Hid.h hQ _ _ ?_; clear hQ hA)
     | refine WK.condAny rfl ?_ ?_
     | ((first | refine WK.cond2 rfl (fun h => ?_) (fun h => ?_)) <;> (first | (simp [*] at h; done) | (have h2 := h; simp at h2; exfalso; omega) | (have h2 := h; simp at h2; try simp only [Bool.not_eq_true', Bool.not_eq_false'] at h) | skip))
     | ((first | refine WK.regH Try.ntmps40 (by kernel_rfl) ?_ | refine WK.regX (by kernel_rfl) Try.ntmps40 (by kernel_rfl) ?_); intro A hA Q hQ; simp [gFault, *])
     | (refine Hid.h hQ _ _ _ (by decide +kernel) ?_; clear hQ hA)
     | (refine WK.retT2 Try.func40 ?_ ?_ ?_ <;> simp (maxDischargeDepth := 120) [Try.results40, gFault, *])
     | fail)
end Go.Proofs.Yteonfhnljphbpaa
end

section
set_option linter.unusedVariables false
set_option linter.unusedSimpArgs false
namespace Go.Proofs.Yteonfhnljphbpaa
open Go Go.AI Go.Proofs
attribute [local irreducible] FnP FnO FnB FnT FnSeq WK RunQ RunQW RunX RunXW

theorem nodup_len : ∀ (ks s : List Int), ks.Nodup → (∀ x, x ∈ ks → x ∈ s) → ks.length ≤ s.length
  | [], s, _, _ => Nat.zero_le _
  | k :: ks, s, hn, hs => by
    rw [List.nodup_cons] at hn
    have hm := hs k (by simp)
    have h1 := nodup_len ks (s.erase k) hn.2 fun x hx => by
      have hne : x ≠ k := fun e => hn.1 (by rw [← e]; exact hx)
      exact (List.mem_erase_of_ne hne).2 (hs x (List.mem_cons_of_mem _ hx))
    have h2 := List.length_erase_of_mem hm
    have h3 := List.length_pos_of_mem hm
    rw [List.length_cons]; omega
theorem iencP_c (l : List Inst) (hl : l.length ≤ 100) (ha : ∀ x, x ∈ l → x.acts.length ≤ 1000000) : FnP Try.prog 44 [instS l] (.tup [byS (inEnc l).1, .int .i64 (inEnc l).2]) := by
  have h := (ienc_c l hl ha).toP (by simp [byL_take]) (by rfl)
  rwa [Nat.mul_one, by_full _ _ rfl] at h
theorem idecP_c (b : List (BitVec 8)) (hb : b.length ≤ 100000) : FnP Try.prog 40 [byS b] (.tup [instS (inDec b).1, .agg (gFault (inDec b).2)]) := by
  have h := (idec_c b hb).toP (by simp) (by simp [ClL, Cl])
  rwa [instL_take] at h
theorem instsPlain_facts {l : List Inst} (h : instsPlain l = true) : l.length ≤ 8 ∧ ∀ x, x ∈ l → x.acts.length ≤ 12 := by
  unfold instsPlain at h
  rw [Bool.and_eq_true, decide_eq_true_eq, List.all_eq_true] at h
  exact ⟨h.1, fun x hx => by have := h.2 x hx; unfold actsPlain at this; simpa using this⟩
def L14 : List Inst := [⟨1, 2, wideZ, wideZ, []⟩, ⟨4, 0, wideZ, wideZ, [⟨18, 0, 0, 0, 0, oxm0⟩]⟩]
theorem fL14a : (inEnc L14).1.length = 24 := by kernel_rfl
theorem fL14b : (inEnc L14).2 = 0 := by kernel_rfl
theorem fL14c : inDec (inEnc L14).1 = (L14, none) := by kernel_rfl
theorem fL14d : inFind L14 4 = (nth L14 1, true) := by kernel_rfl
theorem fL14e : inRight (nth L14 0) = true := by kernel_rfl
set_option maxHeartbeats 4000000 in
theorem awake14_c : FnP Try.prog 39 [] (.bool true) := by
  have hl : L14.length ≤ 100 := by decide
  have ha : ∀ x, x ∈ L14 → x.acts.length ≤ 1000000 := by
    intro x hx; simp [L14] at hx; rcases hx with rfl | rfl <;> simp
  have p := iencP_c L14 hl ha
  have d := idecP_c (inEnc L14).1 (by rw [fL14a]; omega)
  have s := insame_c L14 L14 (by decide) ha
  have o := iof_c L14 4 (by decide) ha
  have r := iright_c (nth L14 0) (by decide)
  rw [fL14c] at d
  rw [fL14b] at p
  rw [fL14d] at o
  rw [fL14e] at r
  rw [eqBy_refl instSelf] at s
  have hB := fL14a
  obtain ⟨B, hBB⟩ : ∃ B, (inEnc L14).1 = B := ⟨_, rfl⟩
  rw [hBB] at p d hB
  clear hBB
  unfold byS at p d
  rw [hB] at p d
  simp only [nth, List.getD_cons_zero, List.getD_cons_succ, gFault, instS, instL, L14, actL, List.flatMap_cons, List.flatMap_nil, List.append_nil, List.cons_append, List.nil_append, List.length_cons, List.length_nil, Inst.enc, Action.enc, oxm0, wideZ, uI_zero, Nat.zero_add, Nat.reduceAdd] at p d s o r
  refine FnP.intro Try.func39 rfl rfl fun G w => ?_
  repeat' (first
   | refine WK.seq ?_
   | refine WK.block ?_
   | refine WK.inBlock ?_
   | refine WK.skip ?_
   | refine WK.label ?_
   | refine WK.scope ?_
   | refine WK.inScope ?_
   | refine WK.exit rfl ?_
   | refine WK.condT rfl ?_
   | refine WK.condF rfl ?_
   | (refine Hid.h hQ _ _ ?_; clear hQ hA)
   | refine WK.condAny rfl ?_ ?_
   | ((first | refine WK.cond2 rfl (fun h => ?_) (fun h => ?_) | refine Fork.mk (fun h => ?_) (fun h => ?_)) <;> (first | (simp [*] at h; done) | (have h2 := h; simp at h2; exfalso; omega) | (have h2 := h; simp at h2; try simp only [Bool.not_eq_true', Bool.not_eq_false'] at h) | skip))
   | (refine WK.regH Try.ntmps39 (by kernel_rfl) ?_; intro A hA Q hQ; simp [*])
   | (refine RunQ.gd rfl (by rw [hA.h]; rfl) ?_; simp [*])
   | ((first | ((first | refine RunQ.call rfl rfl rfl rfl rfl ?_ (p) ?_ ?_ | refine RunQW.call rfl rfl rfl rfl ?_ (p) ?_ ?_); (focus (simp (maxDischargeDepth := 120) [*]; done))) | ((first | refine RunQ.call rfl rfl rfl rfl rfl ?_ (d) ?_ ?_ | refine RunQW.call rfl rfl rfl rfl ?_ (d) ?_ ?_); (focus (simp (maxDischargeDepth := 120) [*]; done))) | ((first | refine RunQ.call rfl rfl rfl rfl rfl ?_ (s) ?_ ?_ | refine RunQW.call rfl rfl rfl rfl ?_ (s) ?_ ?_); (focus (simp (maxDischargeDepth := 120) [*]; done))) | ((first | refine RunQ.call rfl rfl rfl rfl rfl ?_ (o) ?_ ?_ | refine RunQW.call rfl rfl rfl rfl ?_ (o) ?_ ?_); (focus (simp (maxDischargeDepth := 120) [*]; done))) | ((first | refine RunQ.call rfl rfl rfl rfl rfl ?_ (r) ?_ ?_ | refine RunQW.call rfl rfl rfl rfl ?_ (r) ?_ ?_); (focus (simp (maxDischargeDepth := 120) [*]; done)))); (focus (simp [*]; done)); refine RunQ.evalH ?_; simp [*])
   | (refine WK.ret Try.func39 ?_ ?_ <;> simp (maxDischargeDepth := 120) [Try.results39, *])
   | fail)
theorem instBack_c (l : List Inst) (b : List (BitVec 8)) : FnP Try.prog 11 [instS l, byS b] (.bool true) := by
  have p1 := pinsts_c l
  cases h1 : instsPlain l
  · rw [h1] at p1
    simp only [byS, instS] at *
    refine FnP.intro Try.func11 rfl rfl fun G w => ?_
    repeat' (first
     | refine WK.seq ?_
     | refine WK.block ?_
     | refine WK.inBlock ?_
     | refine WK.skip ?_
     | refine WK.label ?_
     | refine WK.scope ?_
     | refine WK.inScope ?_
     | refine WK.exit rfl ?_
     | refine WK.condT rfl ?_
     | refine WK.condF rfl ?_
     | (refine Hid.h hQ _ _ ?_; clear hQ hA)
     | refine WK.condAny rfl ?_ ?_
     | ((first | refine WK.cond2 rfl (fun h => ?_) (fun h => ?_) | refine Fork.mk (fun h => ?_) (fun h => ?_)) <;> (first | (simp [*] at h; done) | (have h2 := h; simp at h2; exfalso; omega) | (have h2 := h; simp at h2; try simp only [Bool.not_eq_true', Bool.not_eq_false'] at h) | skip))
     | (refine WK.regH Try.ntmps11 (by kernel_rfl) ?_; intro A hA Q hQ; simp [*])
     | (refine RunQ.gd rfl (by rw [hA.h]; rfl) ?_; simp [*])
     | ((first | ((first | refine RunQ.call rfl rfl rfl rfl rfl ?_ (p1) ?_ ?_ | refine RunQW.call rfl rfl rfl rfl ?_ (p1) ?_ ?_); (focus (simp (maxDischargeDepth := 120) [*]; done))) | ((first | refine RunQ.call rfl rfl rfl rfl rfl ?_ (awake14_c) ?_ ?_ | refine RunQW.call rfl rfl rfl rfl ?_ (awake14_c) ?_ ?_); (focus (simp (maxDischargeDepth := 120) [*]; done)))); (focus (simp [*]; done)); refine RunQ.evalH ?_; simp [*])
     | (refine WK.ret Try.func11 ?_ ?_ <;> simp (maxDischargeDepth := 120) [Try.results11, *])
     | fail)
  rw [h1] at p1
  by_cases g2 : 4000 < b.length
  · have g2' : (4000 : Int) < b.length := by omega
    simp only [byS, instS] at *
    clear h1
    refine FnP.intro Try.func11 rfl rfl fun G w => ?_
    repeat' (first
     | refine WK.seq ?_
     | refine WK.block ?_
     | refine WK.inBlock ?_
     | refine WK.skip ?_
     | refine WK.label ?_
     | refine WK.scope ?_
     | refine WK.inScope ?_
     | refine WK.exit rfl ?_
     | refine WK.condT rfl ?_
     | refine WK.condF rfl ?_
     | (refine Hid.h hQ _ _ ?_; clear hQ hA)
     | refine WK.condAny rfl ?_ ?_
     | ((first | refine WK.cond2 rfl (fun h => ?_) (fun h => ?_) | refine Fork.mk (fun h => ?_) (fun h => ?_)) <;> (first | (simp [*] at h; done) | (have h2 := h; simp at h2; exfalso; omega) | (have h2 := h; simp at h2; try simp only [Bool.not_eq_true', Bool.not_eq_false'] at h) | skip))
     | (refine WK.regH Try.ntmps11 (by kernel_rfl) ?_; intro A hA Q hQ; simp [*])
     | (refine RunQ.gd rfl (by rw [hA.h]; rfl) ?_; simp [*])
     | ((first | ((first | refine RunQ.call rfl rfl rfl rfl rfl ?_ (p1) ?_ ?_ | refine RunQW.call rfl rfl rfl rfl ?_ (p1) ?_ ?_); (focus (simp (maxDischargeDepth := 120) [*]; done))) | ((first | refine RunQ.call rfl rfl rfl rfl rfl ?_ (awake14_c) ?_ ?_ | refine RunQW.call rfl rfl rfl rfl ?_ (awake14_c) ?_ ?_); (focus (simp (maxDischargeDepth := 120) [*]; done)))); (focus (simp [*]; done)); refine RunQ.evalH ?_; simp [*])
     | (refine WK.ret Try.func11 ?_ ?_ <;> simp (maxDischargeDepth := 120) [Try.results11, *])
     | fail)
  have g2' : ¬ (4000 : Int) < b.length := by omega
  obtain ⟨hl, ha0⟩ := instsPlain_facts h1
  have ha : ∀ x, x ∈ l → x.acts.length ≤ 1000000 := fun x hx => by have := ha0 x hx; omega
  have p := iencP_c l (by omega) ha
  have hEl := inEnc_len l
  have dd := idecP_c (inEnc l).1 (by omega)
  have s := insame_c l l (by omega) ha
  rw [eqBy_refl instSelf] at s
  have d2 := idecP_c b (by omega)
  simp only [byS, instS] at d2 p1 ⊢
  clear h1
  refine FnP.intro Try.func11 rfl rfl fun G w => ?_
  repeat (first | refine WK.seq ?_ | refine WK.block ?_ | refine WK.inBlock ?_ | refine WK.skip ?_ | refine WK.label ?_ | refine WK.scope ?_ | refine WK.inScope ?_ | refine WK.exit rfl ?_)
  apply WK.cut (⟨(upd J 1 (.sl false b.length (byL b))), B0, 0⟩ : St)
  · intro hcut
    by_cases hr : (inEnc l).2 = 0
    · have e := inEnc_back hr
      rw [e] at dd
      rw [hr] at p
      simp only [byS, instS] at p dd s
      clear e hr
      repeat' (first
       | refine WK.seq ?_
       | refine WK.block ?_
       | refine WK.inBlock ?_
       | refine WK.skip ?_
       | refine WK.label ?_
       | refine WK.scope ?_
       | refine WK.inScope ?_
       | refine WK.exit rfl ?_
       | refine WK.condT rfl ?_
       | refine WK.condF rfl ?_
       | (refine Hid.h hQ _ _ ?_; clear hQ hA)
       | refine WK.condAny rfl ?_ ?_
       | ((first | refine WK.cond2 rfl (fun h => ?_) (fun h => ?_) | refine Fork.mk (fun h => ?_) (fun h => ?_)) <;> (first | (simp [*] at h; done) | (have h2 := h; simp at h2; exfalso; omega) | (have h2 := h; simp at h2; try simp only [Bool.not_eq_true', Bool.not_eq_false'] at h) | skip))
       | ((first | refine WK.regH (id := 0) Try.ntmps11 (by kernel_rfl) ?_ | refine WK.regH (id := 1) Try.ntmps11 (by kernel_rfl) ?_ | refine WK.regH (id := 2) Try.ntmps11 (by kernel_rfl) ?_ | refine WK.regH (id := 3) Try.ntmps11 (by kernel_rfl) ?_ | refine WK.regH (id := 4) Try.ntmps11 (by kernel_rfl) ?_ | refine WK.regH (id := 5) Try.ntmps11 (by kernel_rfl) ?_ | refine WK.regH (id := 6) Try.ntmps11 (by kernel_rfl) ?_ | refine WK.regH (id := 7) Try.ntmps11 (by kernel_rfl) ?_); intro A hA Q hQ; simp [gFault, bne, *])
       | (refine RunQ.gd rfl (by rw [hA.h]; rfl) ?_; simp [gFault, bne, *])
       | ((first | ((first | refine RunQ.call rfl rfl rfl rfl rfl ?_ (p1) ?_ ?_ | refine RunQW.call rfl rfl rfl rfl ?_ (p1) ?_ ?_); (focus (simp (maxDischargeDepth := 120) [gFault, bne, *]; done))) | ((first | refine RunQ.call rfl rfl rfl rfl rfl ?_ (p) ?_ ?_ | refine RunQW.call rfl rfl rfl rfl ?_ (p) ?_ ?_); (focus (simp (maxDischargeDepth := 120) [gFault, bne, *]; done))) | ((first | refine RunQ.call rfl rfl rfl rfl rfl ?_ (dd) ?_ ?_ | refine RunQW.call rfl rfl rfl rfl ?_ (dd) ?_ ?_); (focus (simp (maxDischargeDepth := 120) [gFault, bne, *]; done))) | ((first | refine RunQ.call rfl rfl rfl rfl rfl ?_ (s) ?_ ?_ | refine RunQW.call rfl rfl rfl rfl ?_ (s) ?_ ?_); (focus (simp (maxDischargeDepth := 120) [gFault, bne, *]; done)))); (focus (simp [gFault, bne, *]; done)); refine RunQ.evalH ?_; simp [gFault, bne, *])
       | fail)
      repeat (first | refine WK.seq ?_ | refine WK.block ?_ | refine WK.inBlock ?_ | refine WK.skip ?_ | refine WK.label ?_ | refine WK.scope ?_ | refine WK.inScope ?_ | refine WK.exit rfl ?_)
      refine WK.next (fun n => n) hcut (by repeat (first | exact TmW.nil | refine TmW.upd ?_ (by simp (maxDischargeDepth := 120)))) (by repeat (first | exact BxW.nil | refine BxW.upd ?_ (by simp (maxDischargeDepth := 120)))) (by first | exact InjW.id | exact InjW.nil | exact InjW.one | exact InjW.two (by simp) | exact InjW.three (by simp) (by simp) (by simp))
    · have e := inEnc_bad1 (l := l) (fun h => hr (by unfold inEnc; rw [if_pos h]))
      rw [e] at p
      simp only [byS, instS] at p
      clear e hr
      repeat' (first
       | refine WK.seq ?_
       | refine WK.block ?_
       | refine WK.inBlock ?_
       | refine WK.skip ?_
       | refine WK.label ?_
       | refine WK.scope ?_
       | refine WK.inScope ?_
       | refine WK.exit rfl ?_
       | refine WK.condT rfl ?_
       | refine WK.condF rfl ?_
       | (refine Hid.h hQ _ _ ?_; clear hQ hA)
       | refine WK.condAny rfl ?_ ?_
       | ((first | refine WK.cond2 rfl (fun h => ?_) (fun h => ?_) | refine Fork.mk (fun h => ?_) (fun h => ?_)) <;> (first | (simp [*] at h; done) | (have h2 := h; simp at h2; exfalso; omega) | (have h2 := h; simp at h2; try simp only [Bool.not_eq_true', Bool.not_eq_false'] at h) | skip))
       | ((first | refine WK.regH (id := 0) Try.ntmps11 (by kernel_rfl) ?_ | refine WK.regH (id := 1) Try.ntmps11 (by kernel_rfl) ?_ | refine WK.regH (id := 2) Try.ntmps11 (by kernel_rfl) ?_ | refine WK.regH (id := 3) Try.ntmps11 (by kernel_rfl) ?_ | refine WK.regH (id := 4) Try.ntmps11 (by kernel_rfl) ?_ | refine WK.regH (id := 5) Try.ntmps11 (by kernel_rfl) ?_ | refine WK.regH (id := 6) Try.ntmps11 (by kernel_rfl) ?_ | refine WK.regH (id := 7) Try.ntmps11 (by kernel_rfl) ?_); intro A hA Q hQ; simp [*])
       | (refine RunQ.gd rfl (by rw [hA.h]; rfl) ?_; simp [*])
       | ((first | ((first | refine RunQ.call rfl rfl rfl rfl rfl ?_ (p1) ?_ ?_ | refine RunQW.call rfl rfl rfl rfl ?_ (p1) ?_ ?_); (focus (simp (maxDischargeDepth := 120) [*]; done))) | ((first | refine RunQ.call rfl rfl rfl rfl rfl ?_ (p) ?_ ?_ | refine RunQW.call rfl rfl rfl rfl ?_ (p) ?_ ?_); (focus (simp (maxDischargeDepth := 120) [*]; done)))); (focus (simp [*]; done)); refine RunQ.evalH ?_; simp [*])
       | fail)
      repeat (first | refine WK.seq ?_ | refine WK.block ?_ | refine WK.inBlock ?_ | refine WK.skip ?_ | refine WK.label ?_ | refine WK.scope ?_ | refine WK.inScope ?_ | refine WK.exit rfl ?_)
      refine WK.next (fun n => n) hcut (by repeat (first | exact TmW.nil | refine TmW.upd ?_ (by simp (maxDischargeDepth := 120)))) (by repeat (first | exact BxW.nil | refine BxW.upd ?_ (by simp (maxDischargeDepth := 120)))) (by first | exact InjW.id | exact InjW.nil | exact InjW.one | exact InjW.two (by simp) | exact InjW.three (by simp) (by simp) (by simp))
  obtain ⟨R, hR⟩ : ∃ R, inDec b = R := ⟨_, rfl⟩
  rw [hR] at d2
  obtain ⟨k, f⟩ := R
  clear dd s p
  cases f with
  | some c =>
    have e := inDec_bad hR
    subst e
    clear hR
    repeat' (first
     | refine WK.seq ?_
     | refine WK.block ?_
     | refine WK.inBlock ?_
     | refine WK.skip ?_
     | refine WK.label ?_
     | refine WK.scope ?_
     | refine WK.inScope ?_
     | refine WK.exit rfl ?_
     | refine WK.condT rfl ?_
     | refine WK.condF rfl ?_
     | (refine Hid.h hQ _ _ ?_; clear hQ hA)
     | refine WK.condAny rfl ?_ ?_
     | ((first | refine WK.cond2 rfl (fun h => ?_) (fun h => ?_) | refine Fork.mk (fun h => ?_) (fun h => ?_)) <;> (first | (simp [*] at h; done) | (have h2 := h; simp at h2; exfalso; omega) | (have h2 := h; simp at h2; try simp only [Bool.not_eq_true', Bool.not_eq_false'] at h) | skip))
     | (refine WK.regH Try.ntmps11 (by kernel_rfl) ?_; intro A hA Q hQ; simp [gFault, *])
     | (refine RunQ.gd rfl (by rw [hA.h]; rfl) ?_; simp [gFault, *])
     | ((first | ((first | refine RunQ.call rfl rfl rfl rfl rfl ?_ (d2) ?_ ?_ | refine RunQW.call rfl rfl rfl rfl ?_ (d2) ?_ ?_); (focus (simp (maxDischargeDepth := 120) [gFault, *]; done))) | ((first | refine RunQ.call rfl rfl rfl rfl rfl ?_ (awake14_c) ?_ ?_ | refine RunQW.call rfl rfl rfl rfl ?_ (awake14_c) ?_ ?_); (focus (simp (maxDischargeDepth := 120) [gFault, *]; done)))); (focus (simp [gFault, *]; done)); refine RunQ.evalH ?_; simp [gFault, *])
     | (refine WK.ret Try.func11 ?_ ?_ <;> simp (maxDischargeDepth := 120) [Try.results11, gFault, *])
     | fail)
  | none =>
    have e := inDec_back hR (by omega)
    have dn := inDec_done hR
    have hks : k.length ≤ 100 := by
      have h1 := dn.once
      have h2 : ∀ x, x ∈ inKinds k → x ∈ [(1 : Int), 2, 3, 4, 5] := fun x hx => by
        unfold inKinds at hx
        obtain ⟨y, hy, rfl⟩ := List.mem_map.1 hx
        have := inKind_of (inRight_facts (dn.right y hy).1).1
        simp; omega
      have h3 := nodup_len _ _ h1 h2
      unfold inKinds at h3
      rw [List.length_map] at h3
      simp at h3
      omega
    have p2 := iencP_c k hks (fun x hx => by have := (dn.right x hx).2; omega)
    rw [e] at p2
    have q := bequal_c b b (by omega)
    rw [beq_self_eq_true] at q
    simp only [byS, instS] at p2 q
    clear hR e hks dn
    repeat' (first
     | refine WK.seq ?_
     | refine WK.block ?_
     | refine WK.inBlock ?_
     | refine WK.skip ?_
     | refine WK.label ?_
     | refine WK.scope ?_
     | refine WK.inScope ?_
     | refine WK.exit rfl ?_
     | refine WK.condT rfl ?_
     | refine WK.condF rfl ?_
     | (refine Hid.h hQ _ _ ?_; clear hQ hA)
     | refine WK.condAny rfl ?_ ?_
     | ((first | refine WK.cond2 rfl (fun h => ?_) (fun h => ?_) | refine Fork.mk (fun h => ?_) (fun h => ?_)) <;> (first | (simp [*] at h; done) | (have h2 := h; simp at h2; exfalso; omega) | (have h2 := h; simp at h2; try simp only [Bool.not_eq_true', Bool.not_eq_false'] at h) | skip))
     | (refine WK.regH Try.ntmps11 (by kernel_rfl) ?_; intro A hA Q hQ; simp [gFault, *])
     | (refine RunQ.gd rfl (by rw [hA.h]; rfl) ?_; simp [gFault, *])
     | ((first | ((first | refine RunQ.call rfl rfl rfl rfl rfl ?_ (d2) ?_ ?_ | refine RunQW.call rfl rfl rfl rfl ?_ (d2) ?_ ?_); (focus (simp (maxDischargeDepth := 120) [gFault, *]; done))) | ((first | refine RunQ.call rfl rfl rfl rfl rfl ?_ (p2) ?_ ?_ | refine RunQW.call rfl rfl rfl rfl ?_ (p2) ?_ ?_); (focus (simp (maxDischargeDepth := 120) [gFault, *]; done))) | ((first | refine RunQ.call rfl rfl rfl rfl rfl ?_ (q) ?_ ?_ | refine RunQW.call rfl rfl rfl rfl ?_ (q) ?_ ?_); (focus (simp (maxDischargeDepth := 120) [gFault, *]; done))) | ((first | refine RunQ.call rfl rfl rfl rfl rfl ?_ (awake14_c) ?_ ?_ | refine RunQW.call rfl rfl rfl rfl ?_ (awake14_c) ?_ ?_); (focus (simp (maxDischargeDepth := 120) [gFault, *]; done)))); (focus (simp [gFault, *]; done)); refine RunQ.evalH ?_; simp [gFault, *])
     | (refine WK.ret Try.func11 ?_ ?_ <;> simp (maxDischargeDepth := 120) [Try.results11, gFault, *])
     | fail)
end Go.Proofs.Yteonfhnljphbpaa
end
