/- Instructions: read by the reference; the laws. -/
import Derived.Test.YteonfhnljphbpaaGreatWk13
set_option linter.all false
set_option linter.unnecessarySimpa false
set_option linter.unusedVariables false
set_option linter.unusedSimpArgs false
namespace Go.Proofs.YteonfhnljphbpaaGreat
open Go Go.AI Go.Proofs
attribute [local irreducible] FnP FnO FnB FnT FnSeq WK RunQ RunQW RunX RunXW

/-- the first of a kind, of a row of its caller's -/
theorem riofB_c (L : List Inst) (k : Int) (hl : L.length ≤ 1000000) : FnB Tryz.prog 26 [.msl 0 0 L.length, .int .i64 k] (.buf 7 (instL L)) (.tup [.agg (inFind L k).1.enc, .bool (inFind L k).2]) (.buf 7 (instL L)) := by
  refine FnB.intro Tryz.func26 rfl rfl fun G w l => ?_
  refine WK.anyNx (n := 1000) ?_
  repeat' (first
   | refine WK.seq ?_
   | refine WK.block ?_
   | refine WK.inBlock ?_
   | refine WK.skip ?_
   | refine WK.label ?_
   | refine WK.scope ?_
   | refine WK.inScope ?_
   | refine WK.exit rfl ?_
   | refine WK.condT rfl ?_
   | refine WK.condF rfl ?_
   | (refine Hid.h hQ _ _ ?_; clear hQ hA)
   | refine WK.condAny rfl ?_ ?_
   | ((first | refine WK.cond2 rfl (fun h => ?_) (fun h => ?_)) <;> (first | (simp [*] at h; done) | (have h2 := h; simp at h2; exfalso; omega) | (have h2 := h; simp at h2; try simp only [Bool.not_eq_true', Bool.not_eq_false'] at h) | skip))
   | (refine WK.regH Tryz.ntmps26 (by kernel_rfl) ?_; intro A hA Q hQ; simp [*])
   | fail)
  repeat (first | refine WK.seq ?_ | refine WK.block ?_ | refine WK.inBlock ?_ | refine WK.skip ?_ | refine WK.label ?_ | refine WK.scope ?_ | refine WK.inScope ?_ | refine WK.exit rfl ?_)
  refine WK.loopI (fun n => n) (fun i : Nat => (⟨(upd (upd (upd (upd (upd J 0 (.msl 0 0 L.length)) 1 (.int .i64 k)) 4 (.ptr 1000 0)) 5 (.bool false)) 6 (.int .i64 i)), (upd (upd B0 0 (.buf 7 (instL L))) 1000 (.var inst0.enc)), 0⟩ : St)) (fun i => i ≤ L.length ∧ ∀ j, j < i → ¬ (nth L j).kind = k) (fun i => L.length - i) (0) (by repeat (first | exact TmW.nil | refine TmW.upd ?_ (by simp (maxDischargeDepth := 120) [inst0, Inst.enc, wideZ, uI_zero]))) (by repeat (first | exact BxW.nil | refine BxW.upd ?_ (by simp (maxDischargeDepth := 120) [inst0, Inst.enc, wideZ, uI_zero]))) (by first | exact InjW.id | exact InjW.nil | exact InjW.one | exact InjW.two (by simp) | exact InjW.three (by simp) (by simp) (by simp)) (⟨by omega, by simp⟩) (fun i hi IH => ?_)
  by_cases h1 : i < L.length
  · have h4 := inst_sub L i h1
    have h3 : 7 ≤ L.length * 7 - i * 7 := by omega
    have h0 := inst_get0 L i h1
    have h6 : IntKind.i64.wrap ((i : Int) + 1) = i + 1 := wrap_i64 (by omega) (by omega)
    have l0 : i * 7 < L.length * 7 := by omega
    have l7 : i * 7 + 7 ≤ L.length * 7 := by omega
    by_cases hk : (nth L i).kind = k
    · have e := inFind_hit h1 hk hi.2
      have jk : ((nth L i).kind == k) = true := by simpa using hk
      rw [e]
      obtain ⟨x, hx⟩ : ∃ x, nth L i = x := ⟨_, rfl⟩
      rw [hx] at h4 h0 jk ⊢
      clear hx hk e hi IH
      simp only [Inst.enc] at h4
      repeat' (first
       | refine WK.seq ?_
       | refine WK.block ?_
       | refine WK.inBlock ?_
       | refine WK.skip ?_
       | refine WK.label ?_
       | refine WK.scope ?_
       | refine WK.inScope ?_
       | refine WK.exit rfl ?_
       | refine WK.condT rfl ?_
       | refine WK.condF rfl ?_
       | (refine Hid.h hQ _ _ ?_; clear hQ hA)
       | refine WK.condAny rfl ?_ ?_
       | ((first | refine WK.cond2 rfl (fun h => ?_) (fun h => ?_)) <;> (first | (simp [*] at h; done) | (have h2 := h; simp at h2; exfalso; omega) | (have h2 := h; simp at h2; try simp only [Bool.not_eq_true', Bool.not_eq_false'] at h) | skip))
       | (refine WK.regH Tryz.ntmps26 (by kernel_rfl) ?_; intro A hA Q hQ; simp [Inst.enc, inst0, wideZ, uI_zero, *])
       | fail)
      repeat (first | refine WK.seq ?_ | refine WK.block ?_ | refine WK.inBlock ?_ | refine WK.skip ?_ | refine WK.label ?_ | refine WK.scope ?_ | refine WK.inScope ?_ | refine WK.exit rfl ?_)
      refine WK.retB Tryz.func26 (by simp (maxDischargeDepth := 120) [Tryz.results26, Inst.enc]) (by simp [Inst.enc]) rfl (.inr ⟨_, rfl⟩)
    · have jk : ((nth L i).kind == k) = false := by simpa using hk
      have hj : ∀ j, j < i + 1 → ¬ (nth L j).kind = k := fun j hj => by
        by_cases h7 : j = i
        · subst h7; exact hk
        · exact hi.2 j (by omega)
      obtain ⟨x, hx⟩ : ∃ x, nth L i = x := ⟨_, rfl⟩
      rw [hx] at h4 h0 jk
      clear hx hk hi
      simp only [Inst.enc] at h4
      repeat' (first
       | refine WK.seq ?_
       | refine WK.block ?_
       | refine WK.inBlock ?_
       | refine WK.skip ?_
       | refine WK.label ?_
       | refine WK.scope ?_
       | refine WK.inScope ?_
       | refine WK.exit rfl ?_
       | refine WK.condT rfl ?_
       | refine WK.condF rfl ?_
       | (refine Hid.h hQ _ _ ?_; clear hQ hA)
       | refine WK.condAny rfl ?_ ?_
       | ((first | refine WK.cond2 rfl (fun h => ?_) (fun h => ?_)) <;> (first | (simp [*] at h; done) | (have h2 := h; simp at h2; exfalso; omega) | (have h2 := h; simp at h2; try simp only [Bool.not_eq_true', Bool.not_eq_false'] at h) | skip))
       | (refine WK.regH Tryz.ntmps26 (by kernel_rfl) ?_; intro A hA Q hQ; simp [Inst.enc, inst0, wideZ, uI_zero, *])
       | fail)
      repeat (first | refine WK.seq ?_ | refine WK.block ?_ | refine WK.inBlock ?_ | refine WK.skip ?_ | refine WK.label ?_ | refine WK.scope ?_ | refine WK.inScope ?_ | refine WK.exit rfl ?_)
      refine WK.next (fun n => n) (IH (i + 1) (⟨by omega, hj⟩) (by first | omega | (dsimp only; omega))) (by repeat (first | exact TmW.nil | refine TmW.upd ?_ (by simp (maxDischargeDepth := 120) [inst0, Inst.enc, wideZ, uI_zero]))) (by repeat (first | exact BxW.nil | refine BxW.upd ?_ (by simp (maxDischargeDepth := 120) [inst0, Inst.enc, wideZ, uI_zero]))) (by first | exact InjW.id | exact InjW.nil | exact InjW.one | exact InjW.two (by simp) | exact InjW.three (by simp) (by simp) (by simp))
  · have e := inFind_miss (k := k) (l := L) (fun j hj => hi.2 j (by omega))
    rw [e]
    clear hi IH e
    repeat' (first
     | refine WK.seq ?_
     | refine WK.block ?_
     | refine WK.inBlock ?_
     | refine WK.skip ?_
     | refine WK.label ?_
     | refine WK.scope ?_
     | refine WK.inScope ?_
     | refine WK.exit rfl ?_
     | refine WK.condT rfl ?_
     | refine WK.condF rfl ?_
     | (refine Hid.h hQ _ _ ?_; clear hQ hA)
     | refine WK.condAny rfl ?_ ?_
     | ((first | refine WK.cond2 rfl (fun h => ?_) (fun h => ?_)) <;> (first | (simp [*] at h; done) | (have h2 := h; simp at h2; exfalso; omega) | (have h2 := h; simp at h2; try simp only [Bool.not_eq_true', Bool.not_eq_false'] at h) | skip))
     | (refine WK.regH Tryz.ntmps26 (by kernel_rfl) ?_; intro A hA Q hQ; simp [inst0, Inst.enc, wideZ, uI_zero, *])
     | fail)
    repeat (first | refine WK.seq ?_ | refine WK.block ?_ | refine WK.inBlock ?_ | refine WK.skip ?_ | refine WK.label ?_ | refine WK.scope ?_ | refine WK.inScope ?_ | refine WK.exit rfl ?_)
    refine WK.retB Tryz.func26 (by simp (maxDischargeDepth := 120) [Tryz.results26, inst0, Inst.enc, wideZ, uI_zero]) (by simp [inst0, Inst.enc, wideZ, uI_zero]) rfl (.inr ⟨_, rfl⟩)
theorem inCut_at {b : List (BitVec 8)} {p kn n : Nat} (h : p + 8 ≤ b.length) (hk : getN b p 2 = ((kn : Int), 0)) (hn : getN b (p + 2) 2 = ((n : Int), 0)) : inCut (b.drop p) =
    if n < 8 ∨ ¬ n % 8 = 0 ∨ b.length - p < n then (0, 0, some (3, 7)) else if kn = 6 then (0, 0, some (3, 1)) else if kn < 1 ∨ 5 < kn then (0, 0, some (3, 0))
    else if inLaid kn ((b.drop p).take n) = false then (0, 0, some (3, 7)) else ((kn : Int), n, none) := by
  rw [getN_val (by omega)] at hk hn
  simp only [Prod.mk.injEq, and_true] at hk hn
  have h1 : valN (((b.drop p).drop 0).take 2) = kn := by rw [List.drop_drop, Nat.add_zero]; omega
  have h2 : valN (((b.drop p).drop 2).take 2) = n := by rw [List.drop_drop]; omega
  unfold inCut
  rw [if_neg (by rw [List.length_drop]; omega), h1, h2, List.length_drop]
set_option maxHeartbeats 8000000 in
theorem ridec_c (b : List (BitVec 8)) (hb : b.length ≤ 100000) : FnT Tryz.prog 20 [byS b] (inDec b).1.length 7 (instL (inDec b).1) [.agg (gFault (inDec b).2)] := by
  have b7 := ribad_c 7
  have b1 := ribad_c 1
  have b0 := ribad_c 0
  have b9 := ribad_c 9
  unfold byS
  refine FnT.intro Tryz.func20 rfl rfl fun G w => ?_
  repeat' (first
   | refine WK.seq ?_
   | refine WK.block ?_
   | refine WK.inBlock ?_
   | refine WK.skip ?_
   | refine WK.label ?_
   | refine WK.scope ?_
   | refine WK.inScope ?_
   | refine WK.exit rfl ?_
   | refine WK.condT rfl ?_
   | refine WK.condF rfl ?_
   | (refine Hid.h hQ _ _ ?_; clear hQ hA)
   | refine WK.condAny rfl ?_ ?_
   | ((first | refine WK.cond2 rfl (fun h => ?_) (fun h => ?_) | refine Fork.mk (fun h => ?_) (fun h => ?_)) <;> (first | (simp [*] at h; done) | (have h2 := h; simp at h2; exfalso; omega) | (have h2 := h; simp at h2; try simp only [Bool.not_eq_true', Bool.not_eq_false'] at h) | skip))
   | ((first | refine WK.regH Tryz.ntmps20 (by kernel_rfl) ?_ | refine WK.regX (by kernel_rfl) Tryz.ntmps20 (by kernel_rfl) ?_); intro A hA Q hQ; simp [*])
   | (refine Hid.h hQ _ _ _ (by decide +kernel) ?_; clear hQ hA)
   | ((first | refine RunQ.gd rfl (by rw [hA.h]; rfl) ?_ | refine RunX.gd rfl (by rw [hA.h]; rfl) ?_); simp [*])
   | fail)
  repeat (first | refine WK.seq ?_ | refine WK.block ?_ | refine WK.inBlock ?_ | refine WK.skip ?_ | refine WK.label ?_ | refine WK.scope ?_ | refine WK.inScope ?_ | refine WK.exit rfl ?_)
  refine WK.ghost (Ghost.own 4 900 7 rfl rfl) ?_
  repeat (first | refine WK.seq ?_ | refine WK.block ?_ | refine WK.inBlock ?_ | refine WK.skip ?_ | refine WK.label ?_ | refine WK.scope ?_ | refine WK.inScope ?_ | refine WK.exit rfl ?_)
  refine WK.loopI (fun n => if n = 60 then 900 else n) (fun x : Nat × Nat × List Inst => (⟨(upd (upd (upd (upd (upd J 0 (.sl false b.length (byL b))) 2 (.sl true 0 [])) 3 (.ptr 1 0)) 4 (.msl 60 0 x.2.2.length)) 5 (.int .i64 x.2.1)), (upd (upd B0 1 (.var (gFault none))) 60 (.buf 7 (instL x.2.2))), 0⟩ : St)) (fun x => InAt b x) (fun x => b.length - x.2.1) ((b.length, 0, [])) (by repeat (first | exact TmW.nil | refine TmW.upd ?_ (by simp (maxDischargeDepth := 120) [gFault]))) (by repeat (first | exact BxW.nil | refine BxW.upd ?_ (by simp (maxDischargeDepth := 120) [gFault]))) (by first | exact InjW.id | exact InjW.nil | exact InjW.one | exact InjW.two (by simp) | exact InjW.three (by simp) (by simp) (by simp)) (InAt.start b) (fun i hi IH => ?_)
  obtain ⟨f, p, acc⟩ := i
  have hsm := hi.small
  have hle := hi.le
  have hnd := hi.once
  simp only at hsm hle hi hnd ⊢
  by_cases h1 : p < b.length
  · have h1' : (p : Int) < b.length := by omega
    have w1 : IntKind.i64.wrap ((b.length : Int) - (p : Int)) = (b.length : Int) - (p : Int) := wrap_i64 (by omega) (by omega)
    by_cases c0 : b.length - p < 8
    · have hd : inCut (b.drop p) = (0, 0, some (3, 7)) := by unfold inCut; rw [if_pos (by rw [List.length_drop]; exact c0)]
      have e := InAt.bad hi h1 (inStep_cut hd)
      have c0' : (b.length : Int) - p < 8 := by omega
      rw [e]
      clear b1 b0 b9 hd c0
      repeat' (first
       | refine WK.seq ?_
       | refine WK.block ?_
       | refine WK.inBlock ?_
       | refine WK.skip ?_
       | refine WK.label ?_
       | refine WK.scope ?_
       | refine WK.inScope ?_
       | refine WK.exit rfl ?_
       | refine WK.condT rfl ?_
       | refine WK.condF rfl ?_
       | (refine Hid.h hQ _ _ ?_; clear hQ hA)
       | refine WK.condAny rfl ?_ ?_
       | ((first | refine WK.cond2 rfl (fun h => ?_) (fun h => ?_) | refine Fork.mk (fun h => ?_) (fun h => ?_)) <;> (first | (simp [*] at h; done) | (have h2 := h; simp at h2; exfalso; omega) | (have h2 := h; simp at h2; try simp only [Bool.not_eq_true', Bool.not_eq_false'] at h) | skip))
       | ((first | refine WK.regH Tryz.ntmps20 (by kernel_rfl) ?_ | refine WK.regX (by kernel_rfl) Tryz.ntmps20 (by kernel_rfl) ?_); intro A hA Q hQ; simp [gFault, *])
       | (refine Hid.h hQ _ _ _ (by decide +kernel) ?_; clear hQ hA)
       | ((first | refine RunQ.gd rfl (by rw [hA.h]; rfl) ?_ | refine RunX.gd rfl (by rw [hA.h]; rfl) ?_); simp [gFault, *])
       | (((first | refine RunQ.call rfl rfl rfl rfl rfl ?_ (b7) ?_ ?_ | refine RunQW.call rfl rfl rfl rfl ?_ (b7) ?_ ?_ | refine RunX.call rfl rfl rfl rfl ?_ (b7) ?_ ?_ | refine RunXW.call rfl rfl rfl ?_ (b7) ?_ ?_); (focus (simp (maxDischargeDepth := 120) [gFault, *]; done))); (focus (simp [gFault, *]; done)); (first | refine RunQ.evalH ?_ | refine RunX.evalY ?_); simp [gFault, *])
       | fail)
      repeat (first | refine WK.seq ?_ | refine WK.block ?_ | refine WK.inBlock ?_ | refine WK.skip ?_ | refine WK.label ?_ | refine WK.scope ?_ | refine WK.inScope ?_ | refine WK.exit rfl ?_)
      refine WK.ghost (Ghost.own 2 901 7 rfl rfl) ?_
      repeat (first | refine WK.seq ?_ | refine WK.block ?_ | refine WK.inBlock ?_ | refine WK.skip ?_ | refine WK.label ?_ | refine WK.scope ?_ | refine WK.inScope ?_ | refine WK.exit rfl ?_)
      refine WK.retT2 Tryz.func20 ?_ ?_ ?_ <;> simp (maxDischargeDepth := 120) [Tryz.results20, instL_nil, gFault]
    have c0' : ¬ (b.length : Int) - p < 8 := by omega
    have g0 := rget_c b p 2 Sz2 (by omega) (by omega)
    have g1 := rget_c b (p + 2) 2 Sz2 (by omega) (by omega)
    have hk0 : getN b p 2 = ((valN ((b.drop p).take 2) : Int), 0) := getN_val (by omega)
    have hn0 : getN b (p + 2) 2 = ((valN ((b.drop (p + 2)).take 2) : Int), 0) := getN_val (by omega)
    have hlk : valN ((b.drop p).take 2) < 65536 := valN_lt 2 _ (by rw [List.length_take, List.length_drop]; omega)
    have hln : valN ((b.drop (p + 2)).take 2) < 65536 := valN_lt 2 _ (by rw [List.length_take, List.length_drop]; omega)
    have hd := inCut_at (by omega) hk0 hn0
    rw [hk0] at g0
    rw [hn0] at g1
    obtain ⟨n, hn⟩ : ∃ n, valN ((b.drop (p + 2)).take 2) = n := ⟨_, rfl⟩
    obtain ⟨k, hk⟩ : ∃ k, valN ((b.drop p).take 2) = k := ⟨_, rfl⟩
    rw [hn] at g1 hd hln
    rw [hk] at g0 hd hlk
    unfold byS at g0 g1
    clear hn hk hk0 hn0
    have pw_p2 : IntKind.i64.wrap ((p : Int) + 2) = (p : Int) + 2 := wrap_i64 (by omega) (by omega)
    have z7 : ((n : Int).tmod 8 == 0) = (n % 8 == 0) := by rw [Int.tmod_eq_emod_of_nonneg (by omega), Bool.eq_iff_iff, beq_iff_eq, beq_iff_eq]; omega
    by_cases c1 : n < 8
    · rw [if_pos (.inl c1)] at hd
      have e := InAt.bad hi h1 (inStep_cut hd)
      have d1 : (n : Int) < 8 := by omega
      rw [e]
      clear b1 b0 b9 hd c0
      repeat' (first
       | refine WK.seq ?_
       | refine WK.block ?_
       | refine WK.inBlock ?_
       | refine WK.skip ?_
       | refine WK.label ?_
       | refine WK.scope ?_
       | refine WK.inScope ?_
       | refine WK.exit rfl ?_
       | refine WK.condT rfl ?_
       | refine WK.condF rfl ?_
       | (refine Hid.h hQ _ _ ?_; clear hQ hA)
       | refine WK.condAny rfl ?_ ?_
       | ((first | refine WK.cond2 rfl (fun h => ?_) (fun h => ?_) | refine Fork.mk (fun h => ?_) (fun h => ?_)) <;> (first | (simp [*] at h; done) | (have h2 := h; simp at h2; exfalso; omega) | (have h2 := h; simp at h2; try simp only [Bool.not_eq_true', Bool.not_eq_false'] at h) | skip))
       | ((first | refine WK.regH Tryz.ntmps20 (by kernel_rfl) ?_ | refine WK.regX (by kernel_rfl) Tryz.ntmps20 (by kernel_rfl) ?_); intro A hA Q hQ; simp [gFault, *])
       | (refine Hid.h hQ _ _ _ (by decide +kernel) ?_; clear hQ hA)
       | ((first | refine RunQ.gd rfl (by rw [hA.h]; rfl) ?_ | refine RunX.gd rfl (by rw [hA.h]; rfl) ?_); simp [gFault, *])
       | ((first | ((first | refine RunQ.call rfl rfl rfl rfl rfl ?_ (g0) ?_ ?_ | refine RunQW.call rfl rfl rfl rfl ?_ (g0) ?_ ?_ | refine RunX.call rfl rfl rfl rfl ?_ (g0) ?_ ?_ | refine RunXW.call rfl rfl rfl ?_ (g0) ?_ ?_); (focus (simp (maxDischargeDepth := 120) [gFault, *]; done))) | ((first | refine RunQ.call rfl rfl rfl rfl rfl ?_ (g1) ?_ ?_ | refine RunQW.call rfl rfl rfl rfl ?_ (g1) ?_ ?_ | refine RunX.call rfl rfl rfl rfl ?_ (g1) ?_ ?_ | refine RunXW.call rfl rfl rfl ?_ (g1) ?_ ?_); (focus (simp (maxDischargeDepth := 120) [gFault, *]; done))) | ((first | refine RunQ.call rfl rfl rfl rfl rfl ?_ (b7) ?_ ?_ | refine RunQW.call rfl rfl rfl rfl ?_ (b7) ?_ ?_ | refine RunX.call rfl rfl rfl rfl ?_ (b7) ?_ ?_ | refine RunXW.call rfl rfl rfl ?_ (b7) ?_ ?_); (focus (simp (maxDischargeDepth := 120) [gFault, *]; done)))); (focus (simp [gFault, *]; done)); (first | refine RunQ.evalH ?_ | refine RunX.evalY ?_); simp [gFault, *])
       | fail)
      repeat (first | refine WK.seq ?_ | refine WK.block ?_ | refine WK.inBlock ?_ | refine WK.skip ?_ | refine WK.label ?_ | refine WK.scope ?_ | refine WK.inScope ?_ | refine WK.exit rfl ?_)
      refine WK.ghost (Ghost.own 2 901 7 rfl rfl) ?_
      repeat (first | refine WK.seq ?_ | refine WK.block ?_ | refine WK.inBlock ?_ | refine WK.skip ?_ | refine WK.label ?_ | refine WK.scope ?_ | refine WK.inScope ?_ | refine WK.exit rfl ?_)
      refine WK.retT2 Tryz.func20 ?_ ?_ ?_ <;> simp (maxDischargeDepth := 120) [Tryz.results20, instL_nil, gFault]
    have d1 : ¬ (n : Int) < 8 := by omega
    by_cases c2 : n % 8 = 0
    case neg =>
      rw [if_pos (.inr (.inl c2))] at hd
      have e := InAt.bad hi h1 (inStep_cut hd)
      have d2 : (n % 8 == 0) = false := by simpa using c2
      rw [d2] at z7
      rw [e]
      clear b1 b0 b9 hd c0 c2 d2
      repeat' (first
       | refine WK.seq ?_
       | refine WK.block ?_
       | refine WK.inBlock ?_
       | refine WK.skip ?_
       | refine WK.label ?_
       | refine WK.scope ?_
       | refine WK.inScope ?_
       | refine WK.exit rfl ?_
       | refine WK.condT rfl ?_
       | refine WK.condF rfl ?_
       | (refine Hid.h hQ _ _ ?_; clear hQ hA)
       | refine WK.condAny rfl ?_ ?_
       | ((first | refine WK.cond2 rfl (fun h => ?_) (fun h => ?_) | refine Fork.mk (fun h => ?_) (fun h => ?_)) <;> (first | (simp [*] at h; done) | (have h2 := h; simp at h2; exfalso; omega) | (have h2 := h; simp at h2; try simp only [Bool.not_eq_true', Bool.not_eq_false'] at h) | skip))
       | ((first | refine WK.regH Tryz.ntmps20 (by kernel_rfl) ?_ | refine WK.regX (by kernel_rfl) Tryz.ntmps20 (by kernel_rfl) ?_); intro A hA Q hQ; simp [gFault, bne, *])
       | (refine Hid.h hQ _ _ _ (by decide +kernel) ?_; clear hQ hA)
       | ((first | refine RunQ.gd rfl (by rw [hA.h]; rfl) ?_ | refine RunX.gd rfl (by rw [hA.h]; rfl) ?_); simp [gFault, bne, *])
       | ((first | ((first | refine RunQ.call rfl rfl rfl rfl rfl ?_ (g0) ?_ ?_ | refine RunQW.call rfl rfl rfl rfl ?_ (g0) ?_ ?_ | refine RunX.call rfl rfl rfl rfl ?_ (g0) ?_ ?_ | refine RunXW.call rfl rfl rfl ?_ (g0) ?_ ?_); (focus (simp (maxDischargeDepth := 120) [gFault, bne, *]; done))) | ((first | refine RunQ.call rfl rfl rfl rfl rfl ?_ (g1) ?_ ?_ | refine RunQW.call rfl rfl rfl rfl ?_ (g1) ?_ ?_ | refine RunX.call rfl rfl rfl rfl ?_ (g1) ?_ ?_ | refine RunXW.call rfl rfl rfl ?_ (g1) ?_ ?_); (focus (simp (maxDischargeDepth := 120) [gFault, bne, *]; done))) | ((first | refine RunQ.call rfl rfl rfl rfl rfl ?_ (b7) ?_ ?_ | refine RunQW.call rfl rfl rfl rfl ?_ (b7) ?_ ?_ | refine RunX.call rfl rfl rfl rfl ?_ (b7) ?_ ?_ | refine RunXW.call rfl rfl rfl ?_ (b7) ?_ ?_); (focus (simp (maxDischargeDepth := 120) [gFault, bne, *]; done)))); (focus (simp [gFault, bne, *]; done)); (first | refine RunQ.evalH ?_ | refine RunX.evalY ?_); simp [gFault, bne, *])
       | fail)
      repeat (first | refine WK.seq ?_ | refine WK.block ?_ | refine WK.inBlock ?_ | refine WK.skip ?_ | refine WK.label ?_ | refine WK.scope ?_ | refine WK.inScope ?_ | refine WK.exit rfl ?_)
      refine WK.ghost (Ghost.own 2 901 7 rfl rfl) ?_
      repeat (first | refine WK.seq ?_ | refine WK.block ?_ | refine WK.inBlock ?_ | refine WK.skip ?_ | refine WK.label ?_ | refine WK.scope ?_ | refine WK.inScope ?_ | refine WK.exit rfl ?_)
      refine WK.retT2 Tryz.func20 ?_ ?_ ?_ <;> simp (maxDischargeDepth := 120) [Tryz.results20, instL_nil, gFault]
    have d2 : (n % 8 == 0) = true := by simpa using c2
    rw [d2] at z7
    by_cases c3 : b.length - p < n
    · rw [if_pos (.inr (.inr c3))] at hd
      have e := InAt.bad hi h1 (inStep_cut hd)
      have d3 : (b.length : Int) - p < n := by omega
      rw [e]
      clear b1 b0 b9 hd c0 c2 d2
      repeat' (first
       | refine WK.seq ?_
       | refine WK.block ?_
       | refine WK.inBlock ?_
       | refine WK.skip ?_
       | refine WK.label ?_
       | refine WK.scope ?_
       | refine WK.inScope ?_
       | refine WK.exit rfl ?_
       | refine WK.condT rfl ?_
       | refine WK.condF rfl ?_
       | (refine Hid.h hQ _ _ ?_; clear hQ hA)
       | refine WK.condAny rfl ?_ ?_
       | ((first | refine WK.cond2 rfl (fun h => ?_) (fun h => ?_) | refine Fork.mk (fun h => ?_) (fun h => ?_)) <;> (first | (simp [*] at h; done) | (have h2 := h; simp at h2; exfalso; omega) | (have h2 := h; simp at h2; try simp only [Bool.not_eq_true', Bool.not_eq_false'] at h) | skip))
       | ((first | refine WK.regH Tryz.ntmps20 (by kernel_rfl) ?_ | refine WK.regX (by kernel_rfl) Tryz.ntmps20 (by kernel_rfl) ?_); intro A hA Q hQ; simp [gFault, bne, *])
       | (refine Hid.h hQ _ _ _ (by decide +kernel) ?_; clear hQ hA)
       | ((first | refine RunQ.gd rfl (by rw [hA.h]; rfl) ?_ | refine RunX.gd rfl (by rw [hA.h]; rfl) ?_); simp [gFault, bne, *])
       | ((first | ((first | refine RunQ.call rfl rfl rfl rfl rfl ?_ (g0) ?_ ?_ | refine RunQW.call rfl rfl rfl rfl ?_ (g0) ?_ ?_ | refine RunX.call rfl rfl rfl rfl ?_ (g0) ?_ ?_ | refine RunXW.call rfl rfl rfl ?_ (g0) ?_ ?_); (focus (simp (maxDischargeDepth := 120) [gFault, bne, *]; done))) | ((first | refine RunQ.call rfl rfl rfl rfl rfl ?_ (g1) ?_ ?_ | refine RunQW.call rfl rfl rfl rfl ?_ (g1) ?_ ?_ | refine RunX.call rfl rfl rfl rfl ?_ (g1) ?_ ?_ | refine RunXW.call rfl rfl rfl ?_ (g1) ?_ ?_); (focus (simp (maxDischargeDepth := 120) [gFault, bne, *]; done))) | ((first | refine RunQ.call rfl rfl rfl rfl rfl ?_ (b7) ?_ ?_ | refine RunQW.call rfl rfl rfl rfl ?_ (b7) ?_ ?_ | refine RunX.call rfl rfl rfl rfl ?_ (b7) ?_ ?_ | refine RunXW.call rfl rfl rfl ?_ (b7) ?_ ?_); (focus (simp (maxDischargeDepth := 120) [gFault, bne, *]; done)))); (focus (simp [gFault, bne, *]; done)); (first | refine RunQ.evalH ?_ | refine RunX.evalY ?_); simp [gFault, bne, *])
       | fail)
      repeat (first | refine WK.seq ?_ | refine WK.block ?_ | refine WK.inBlock ?_ | refine WK.skip ?_ | refine WK.label ?_ | refine WK.scope ?_ | refine WK.inScope ?_ | refine WK.exit rfl ?_)
      refine WK.ghost (Ghost.own 2 901 7 rfl rfl) ?_
      repeat (first | refine WK.seq ?_ | refine WK.block ?_ | refine WK.inBlock ?_ | refine WK.skip ?_ | refine WK.label ?_ | refine WK.scope ?_ | refine WK.inScope ?_ | refine WK.exit rfl ?_)
      refine WK.retT2 Tryz.func20 ?_ ?_ ?_ <;> simp (maxDischargeDepth := 120) [Tryz.results20, instL_nil, gFault]
    have d3 : ¬ (b.length : Int) - p < n := by omega
    rw [if_neg (by rintro (h | h | h); omega; exact h c2; omega)] at hd
    by_cases k6 : k = 6
    · rw [if_pos k6] at hd
      subst k6
      have e := InAt.bad hi h1 (inStep_cut hd)
      rw [e]
      clear b7 b0 b9 hd c0 c2 d2
      repeat' (first
       | refine WK.seq ?_
       | refine WK.block ?_
       | refine WK.inBlock ?_
       | refine WK.skip ?_
       | refine WK.label ?_
       | refine WK.scope ?_
       | refine WK.inScope ?_
       | refine WK.exit rfl ?_
       | refine WK.condT rfl ?_
       | refine WK.condF rfl ?_
       | (refine Hid.h hQ _ _ ?_; clear hQ hA)
       | refine WK.condAny rfl ?_ ?_
       | ((first | refine WK.cond2 rfl (fun h => ?_) (fun h => ?_) | refine Fork.mk (fun h => ?_) (fun h => ?_)) <;> (first | (simp [*] at h; done) | (have h2 := h; simp at h2; exfalso; omega) | (have h2 := h; simp at h2; try simp only [Bool.not_eq_true', Bool.not_eq_false'] at h) | skip))
       | ((first | refine WK.regH Tryz.ntmps20 (by kernel_rfl) ?_ | refine WK.regX (by kernel_rfl) Tryz.ntmps20 (by kernel_rfl) ?_); intro A hA Q hQ; simp [gFault, bne, *])
       | (refine Hid.h hQ _ _ _ (by decide +kernel) ?_; clear hQ hA)
       | ((first | refine RunQ.gd rfl (by rw [hA.h]; rfl) ?_ | refine RunX.gd rfl (by rw [hA.h]; rfl) ?_); simp [gFault, bne, *])
       | ((first | ((first | refine RunQ.call rfl rfl rfl rfl rfl ?_ (g0) ?_ ?_ | refine RunQW.call rfl rfl rfl rfl ?_ (g0) ?_ ?_ | refine RunX.call rfl rfl rfl rfl ?_ (g0) ?_ ?_ | refine RunXW.call rfl rfl rfl ?_ (g0) ?_ ?_); (focus (simp (maxDischargeDepth := 120) [gFault, bne, *]; done))) | ((first | refine RunQ.call rfl rfl rfl rfl rfl ?_ (g1) ?_ ?_ | refine RunQW.call rfl rfl rfl rfl ?_ (g1) ?_ ?_ | refine RunX.call rfl rfl rfl rfl ?_ (g1) ?_ ?_ | refine RunXW.call rfl rfl rfl ?_ (g1) ?_ ?_); (focus (simp (maxDischargeDepth := 120) [gFault, bne, *]; done))) | ((first | refine RunQ.call rfl rfl rfl rfl rfl ?_ (b1) ?_ ?_ | refine RunQW.call rfl rfl rfl rfl ?_ (b1) ?_ ?_ | refine RunX.call rfl rfl rfl rfl ?_ (b1) ?_ ?_ | refine RunXW.call rfl rfl rfl ?_ (b1) ?_ ?_); (focus (simp (maxDischargeDepth := 120) [gFault, bne, *]; done)))); (focus (simp [gFault, bne, *]; done)); (first | refine RunQ.evalH ?_ | refine RunX.evalY ?_); simp [gFault, bne, *])
       | fail)
      repeat (first | refine WK.seq ?_ | refine WK.block ?_ | refine WK.inBlock ?_ | refine WK.skip ?_ | refine WK.label ?_ | refine WK.scope ?_ | refine WK.inScope ?_ | refine WK.exit rfl ?_)
      refine WK.ghost (Ghost.own 2 901 7 rfl rfl) ?_
      repeat (first | refine WK.seq ?_ | refine WK.block ?_ | refine WK.inBlock ?_ | refine WK.skip ?_ | refine WK.label ?_ | refine WK.scope ?_ | refine WK.inScope ?_ | refine WK.exit rfl ?_)
      refine WK.retT2 Tryz.func20 ?_ ?_ ?_ <;> simp (maxDischargeDepth := 120) [Tryz.results20, instL_nil, gFault]
    have j6 : ((k : Int) == 6) = false := by rw [beq_eq_false_iff_ne]; omega
    rw [if_neg k6] at hd
    by_cases k0 : k < 1
    · rw [if_pos (.inl k0)] at hd
      have e := InAt.bad hi h1 (inStep_cut hd)
      have j0 : (k : Int) < 1 := by omega
      rw [e]
      clear b7 b1 b9 hd c0 c2 d2 k6
      repeat' (first
       | refine WK.seq ?_
       | refine WK.block ?_
       | refine WK.inBlock ?_
       | refine WK.skip ?_
       | refine WK.label ?_
       | refine WK.scope ?_
       | refine WK.inScope ?_
       | refine WK.exit rfl ?_
       | refine WK.condT rfl ?_
       | refine WK.condF rfl ?_
       | (refine Hid.h hQ _ _ ?_; clear hQ hA)
       | refine WK.condAny rfl ?_ ?_
       | ((first | refine WK.cond2 rfl (fun h => ?_) (fun h => ?_) | refine Fork.mk (fun h => ?_) (fun h => ?_)) <;> (first | (simp [*] at h; done) | (have h2 := h; simp at h2; exfalso; omega) | (have h2 := h; simp at h2; try simp only [Bool.not_eq_true', Bool.not_eq_false'] at h) | skip))
       | ((first | refine WK.regH Tryz.ntmps20 (by kernel_rfl) ?_ | refine WK.regX (by kernel_rfl) Tryz.ntmps20 (by kernel_rfl) ?_); intro A hA Q hQ; simp [gFault, bne, *])
       | (refine Hid.h hQ _ _ _ (by decide +kernel) ?_; clear hQ hA)
       | ((first | refine RunQ.gd rfl (by rw [hA.h]; rfl) ?_ | refine RunX.gd rfl (by rw [hA.h]; rfl) ?_); simp [gFault, bne, *])
       | ((first | ((first | refine RunQ.call rfl rfl rfl rfl rfl ?_ (g0) ?_ ?_ | refine RunQW.call rfl rfl rfl rfl ?_ (g0) ?_ ?_ | refine RunX.call rfl rfl rfl rfl ?_ (g0) ?_ ?_ | refine RunXW.call rfl rfl rfl ?_ (g0) ?_ ?_); (focus (simp (maxDischargeDepth := 120) [gFault, bne, *]; done))) | ((first | refine RunQ.call rfl rfl rfl rfl rfl ?_ (g1) ?_ ?_ | refine RunQW.call rfl rfl rfl rfl ?_ (g1) ?_ ?_ | refine RunX.call rfl rfl rfl rfl ?_ (g1) ?_ ?_ | refine RunXW.call rfl rfl rfl ?_ (g1) ?_ ?_); (focus (simp (maxDischargeDepth := 120) [gFault, bne, *]; done))) | ((first | refine RunQ.call rfl rfl rfl rfl rfl ?_ (b0) ?_ ?_ | refine RunQW.call rfl rfl rfl rfl ?_ (b0) ?_ ?_ | refine RunX.call rfl rfl rfl rfl ?_ (b0) ?_ ?_ | refine RunXW.call rfl rfl rfl ?_ (b0) ?_ ?_); (focus (simp (maxDischargeDepth := 120) [gFault, bne, *]; done)))); (focus (simp [gFault, bne, *]; done)); (first | refine RunQ.evalH ?_ | refine RunX.evalY ?_); simp [gFault, bne, *])
       | fail)
      repeat (first | refine WK.seq ?_ | refine WK.block ?_ | refine WK.inBlock ?_ | refine WK.skip ?_ | refine WK.label ?_ | refine WK.scope ?_ | refine WK.inScope ?_ | refine WK.exit rfl ?_)
      refine WK.ghost (Ghost.own 2 901 7 rfl rfl) ?_
      repeat (first | refine WK.seq ?_ | refine WK.block ?_ | refine WK.inBlock ?_ | refine WK.skip ?_ | refine WK.label ?_ | refine WK.scope ?_ | refine WK.inScope ?_ | refine WK.exit rfl ?_)
      refine WK.retT2 Tryz.func20 ?_ ?_ ?_ <;> simp (maxDischargeDepth := 120) [Tryz.results20, instL_nil, gFault]
    have j0 : ¬ (k : Int) < 1 := by omega
    by_cases k5 : 5 < k
    · rw [if_pos (.inr k5)] at hd
      have e := InAt.bad hi h1 (inStep_cut hd)
      have j5 : (5 : Int) < k := by omega
      rw [e]
      clear b7 b1 b9 hd c0 c2 d2 k6
      repeat' (first
       | refine WK.seq ?_
       | refine WK.block ?_
       | refine WK.inBlock ?_
       | refine WK.skip ?_
       | refine WK.label ?_
       | refine WK.scope ?_
       | refine WK.inScope ?_
       | refine WK.exit rfl ?_
       | refine WK.condT rfl ?_
       | refine WK.condF rfl ?_
       | (refine Hid.h hQ _ _ ?_; clear hQ hA)
       | refine WK.condAny rfl ?_ ?_
       | ((first | refine WK.cond2 rfl (fun h => ?_) (fun h => ?_) | refine Fork.mk (fun h => ?_) (fun h => ?_)) <;> (first | (simp [*] at h; done) | (have h2 := h; simp at h2; exfalso; omega) | (have h2 := h; simp at h2; try simp only [Bool.not_eq_true', Bool.not_eq_false'] at h) | skip))
       | ((first | refine WK.regH Tryz.ntmps20 (by kernel_rfl) ?_ | refine WK.regX (by kernel_rfl) Tryz.ntmps20 (by kernel_rfl) ?_); intro A hA Q hQ; simp [gFault, bne, *])
       | (refine Hid.h hQ _ _ _ (by decide +kernel) ?_; clear hQ hA)
       | ((first | refine RunQ.gd rfl (by rw [hA.h]; rfl) ?_ | refine RunX.gd rfl (by rw [hA.h]; rfl) ?_); simp [gFault, bne, *])
       | ((first | ((first | refine RunQ.call rfl rfl rfl rfl rfl ?_ (g0) ?_ ?_ | refine RunQW.call rfl rfl rfl rfl ?_ (g0) ?_ ?_ | refine RunX.call rfl rfl rfl rfl ?_ (g0) ?_ ?_ | refine RunXW.call rfl rfl rfl ?_ (g0) ?_ ?_); (focus (simp (maxDischargeDepth := 120) [gFault, bne, *]; done))) | ((first | refine RunQ.call rfl rfl rfl rfl rfl ?_ (g1) ?_ ?_ | refine RunQW.call rfl rfl rfl rfl ?_ (g1) ?_ ?_ | refine RunX.call rfl rfl rfl rfl ?_ (g1) ?_ ?_ | refine RunXW.call rfl rfl rfl ?_ (g1) ?_ ?_); (focus (simp (maxDischargeDepth := 120) [gFault, bne, *]; done))) | ((first | refine RunQ.call rfl rfl rfl rfl rfl ?_ (b0) ?_ ?_ | refine RunQW.call rfl rfl rfl rfl ?_ (b0) ?_ ?_ | refine RunX.call rfl rfl rfl rfl ?_ (b0) ?_ ?_ | refine RunXW.call rfl rfl rfl ?_ (b0) ?_ ?_); (focus (simp (maxDischargeDepth := 120) [gFault, bne, *]; done)))); (focus (simp [gFault, bne, *]; done)); (first | refine RunQ.evalH ?_ | refine RunX.evalY ?_); simp [gFault, bne, *])
       | fail)
      repeat (first | refine WK.seq ?_ | refine WK.block ?_ | refine WK.inBlock ?_ | refine WK.skip ?_ | refine WK.label ?_ | refine WK.scope ?_ | refine WK.inScope ?_ | refine WK.exit rfl ?_)
      refine WK.ghost (Ghost.own 2 901 7 rfl rfl) ?_
      repeat (first | refine WK.seq ?_ | refine WK.block ?_ | refine WK.inBlock ?_ | refine WK.skip ?_ | refine WK.label ?_ | refine WK.scope ?_ | refine WK.inScope ?_ | refine WK.exit rfl ?_)
      refine WK.retT2 Tryz.func20 ?_ ?_ ?_ <;> simp (maxDischargeDepth := 120) [Tryz.results20, instL_nil, gFault]
    have j5 : ¬ (5 : Int) < k := by omega
    rw [if_neg (by omega)] at hd
    have hBl : ((b.drop p).take n).length = n := by rw [List.length_take, List.length_drop]; omega
    have hl := rilaid_c k ((b.drop p).take n) (by omega) (by omega)
    have hs : ((byL b).drop p).take n = byL ((b.drop p).take n) := by rw [byL_drop, byL_take]
    have wn : IntKind.i64.wrap ((p : Int) + (n : Int)) = (p : Int) + (n : Int) := wrap_i64 (by omega) (by omega)
    have d4 : (p : Int) + n ≤ b.length := by omega
    have d6 : (p : Int) ≤ (p : Int) + n := by omega
    have d7 : p + n - p = n := by omega
    obtain ⟨q, hq⟩ : ∃ q, inLaid k ((b.drop p).take n) = q := ⟨_, rfl⟩
    rw [hq] at hl hd
    simp only [byS, hBl] at hl
    clear b1 b0 c0 c2 d2 k6
    cases q
    · rw [if_pos rfl] at hd
      have e := InAt.bad hi h1 (inStep_cut hd)
      rw [e]
      obtain ⟨B, hB⟩ : ∃ B, (b.drop p).take n = B := ⟨_, rfl⟩
      rw [hB] at hl hs
      clear hd hB hq hBl b9
      repeat' (first
       | refine WK.seq ?_
       | refine WK.block ?_
       | refine WK.inBlock ?_
       | refine WK.skip ?_
       | refine WK.label ?_
       | refine WK.scope ?_
       | refine WK.inScope ?_
       | refine WK.exit rfl ?_
       | refine WK.condT rfl ?_
       | refine WK.condF rfl ?_
       | (refine Hid.h hQ _ _ ?_; clear hQ hA)
       | refine WK.condAny rfl ?_ ?_
       | ((first | refine WK.cond2 rfl (fun h => ?_) (fun h => ?_) | refine Fork.mk (fun h => ?_) (fun h => ?_)) <;> (first | (simp [*] at h; done) | (have h2 := h; simp at h2; exfalso; omega) | (have h2 := h; simp at h2; try simp only [Bool.not_eq_true', Bool.not_eq_false'] at h) | skip))
       | ((first | refine WK.regH Tryz.ntmps20 (by kernel_rfl) ?_ | refine WK.regX (by kernel_rfl) Tryz.ntmps20 (by kernel_rfl) ?_); intro A hA Q hQ; simp [gFault, bne, *])
       | (refine Hid.h hQ _ _ _ (by decide +kernel) ?_; clear hQ hA)
       | ((first | refine RunQ.gd rfl (by rw [hA.h]; rfl) ?_ | refine RunX.gd rfl (by rw [hA.h]; rfl) ?_); simp [gFault, bne, *])
       | ((first | ((first | refine RunQ.call rfl rfl rfl rfl rfl ?_ (g0) ?_ ?_ | refine RunQW.call rfl rfl rfl rfl ?_ (g0) ?_ ?_ | refine RunX.call rfl rfl rfl rfl ?_ (g0) ?_ ?_ | refine RunXW.call rfl rfl rfl ?_ (g0) ?_ ?_); (focus (simp (maxDischargeDepth := 120) [gFault, bne, *]; done))) | ((first | refine RunQ.call rfl rfl rfl rfl rfl ?_ (g1) ?_ ?_ | refine RunQW.call rfl rfl rfl rfl ?_ (g1) ?_ ?_ | refine RunX.call rfl rfl rfl rfl ?_ (g1) ?_ ?_ | refine RunXW.call rfl rfl rfl ?_ (g1) ?_ ?_); (focus (simp (maxDischargeDepth := 120) [gFault, bne, *]; done))) | ((first | refine RunQ.call rfl rfl rfl rfl rfl ?_ (hl) ?_ ?_ | refine RunQW.call rfl rfl rfl rfl ?_ (hl) ?_ ?_ | refine RunX.call rfl rfl rfl rfl ?_ (hl) ?_ ?_ | refine RunXW.call rfl rfl rfl ?_ (hl) ?_ ?_); (focus (simp (maxDischargeDepth := 120) [gFault, bne, *]; done))) | ((first | refine RunQ.call rfl rfl rfl rfl rfl ?_ (b7) ?_ ?_ | refine RunQW.call rfl rfl rfl rfl ?_ (b7) ?_ ?_ | refine RunX.call rfl rfl rfl rfl ?_ (b7) ?_ ?_ | refine RunXW.call rfl rfl rfl ?_ (b7) ?_ ?_); (focus (simp (maxDischargeDepth := 120) [gFault, bne, *]; done)))); (focus (simp [gFault, bne, *]; done)); (first | refine RunQ.evalH ?_ | refine RunX.evalY ?_); simp [gFault, bne, *])
       | fail)
      repeat (first | refine WK.seq ?_ | refine WK.block ?_ | refine WK.inBlock ?_ | refine WK.skip ?_ | refine WK.label ?_ | refine WK.scope ?_ | refine WK.inScope ?_ | refine WK.exit rfl ?_)
      refine WK.ghost (Ghost.own 2 901 7 rfl rfl) ?_
      repeat (first | refine WK.seq ?_ | refine WK.block ?_ | refine WK.inBlock ?_ | refine WK.skip ?_ | refine WK.label ?_ | refine WK.scope ?_ | refine WK.inScope ?_ | refine WK.exit rfl ?_)
      refine WK.retT2 Tryz.func20 ?_ ?_ ?_ <;> simp (maxDischargeDepth := 120) [Tryz.results20, instL_nil, gFault]
    rw [if_neg (by simp)] at hd
    have hofB := riofB_c acc k (by omega)
    have hfs := inFind_snd acc k
    obtain ⟨yy, bo, hyb⟩ : ∃ y bo, inFind acc k = (y, bo) := ⟨_, _, rfl⟩
    rw [hyb] at hofB hfs
    simp only at hofB hfs
    simp only [Inst.enc] at hofB
    clear hyb b7
    cases bo
    case true =>
      have e := InAt.bad hi h1 (inStep_two hd (of_decide_eq_true hfs.symm))
      rw [e]
      obtain ⟨B, hB⟩ : ∃ B, (b.drop p).take n = B := ⟨_, rfl⟩
      rw [hB] at hl hs
      clear hd hB hq hBl hfs
      repeat' (first
       | refine WK.seq ?_
       | refine WK.block ?_
       | refine WK.inBlock ?_
       | refine WK.skip ?_
       | refine WK.label ?_
       | refine WK.scope ?_
       | refine WK.inScope ?_
       | refine WK.exit rfl ?_
       | refine WK.condT rfl ?_
       | refine WK.condF rfl ?_
       | (refine Hid.h hQ _ _ ?_; clear hQ hA)
       | refine WK.condAny rfl ?_ ?_
       | ((first | refine WK.cond2 rfl (fun h => ?_) (fun h => ?_) | refine Fork.mk (fun h => ?_) (fun h => ?_)) <;> (first | (simp [*] at h; done) | (have h2 := h; simp at h2; exfalso; omega) | (have h2 := h; simp at h2; try simp only [Bool.not_eq_true', Bool.not_eq_false'] at h) | skip))
       | ((first | refine WK.regH Tryz.ntmps20 (by kernel_rfl) ?_ | refine WK.regX (by kernel_rfl) Tryz.ntmps20 (by kernel_rfl) ?_); intro A hA Q hQ; simp [gFault, bne, *])
       | (refine Hid.h hQ _ _ _ (by decide +kernel) ?_; clear hQ hA)
       | ((first | refine RunQ.gd rfl (by rw [hA.h]; rfl) ?_ | refine RunX.gd rfl (by rw [hA.h]; rfl) ?_); simp [gFault, bne, *])
       | (refine RunQ.callB 60 rfl rfl rfl rfl rfl (hofB) ?_ ?_ rfl rfl ?_ ?_ ?_; (focus (simp (maxDischargeDepth := 120) [gFault, bne, *]; done)); (focus (simp (maxDischargeDepth := 120) [gFault, bne, *]; done)); (focus (simp [gFault, bne, *]; done)); (focus (simp [gFault, bne, *]; done)); refine RunQ.evalH ?_; simp [gFault, bne, *])
       | (refine RunQW.by (fun hw => ?_); refine RunQ.callB 60 rfl rfl rfl hw rfl (hofB) ?_ ?_ rfl rfl ?_ ?_ ?_; (focus (simp (maxDischargeDepth := 120) [gFault, bne, *]; done)); (focus (simp (maxDischargeDepth := 120) [gFault, bne, *]; done)); (focus (simp [gFault, bne, *]; done)); (focus (simp [gFault, bne, *]; done)); clear hw; refine RunQ.evalH ?_; simp [gFault, bne, *])
       | ((first | ((first | refine RunQ.call rfl rfl rfl rfl rfl ?_ (g0) ?_ ?_ | refine RunQW.call rfl rfl rfl rfl ?_ (g0) ?_ ?_ | refine RunX.call rfl rfl rfl rfl ?_ (g0) ?_ ?_ | refine RunXW.call rfl rfl rfl ?_ (g0) ?_ ?_); (focus (simp (maxDischargeDepth := 120) [gFault, bne, *]; done))) | ((first | refine RunQ.call rfl rfl rfl rfl rfl ?_ (g1) ?_ ?_ | refine RunQW.call rfl rfl rfl rfl ?_ (g1) ?_ ?_ | refine RunX.call rfl rfl rfl rfl ?_ (g1) ?_ ?_ | refine RunXW.call rfl rfl rfl ?_ (g1) ?_ ?_); (focus (simp (maxDischargeDepth := 120) [gFault, bne, *]; done))) | ((first | refine RunQ.call rfl rfl rfl rfl rfl ?_ (hl) ?_ ?_ | refine RunQW.call rfl rfl rfl rfl ?_ (hl) ?_ ?_ | refine RunX.call rfl rfl rfl rfl ?_ (hl) ?_ ?_ | refine RunXW.call rfl rfl rfl ?_ (hl) ?_ ?_); (focus (simp (maxDischargeDepth := 120) [gFault, bne, *]; done))) | ((first | refine RunQ.call rfl rfl rfl rfl rfl ?_ (b9) ?_ ?_ | refine RunQW.call rfl rfl rfl rfl ?_ (b9) ?_ ?_ | refine RunX.call rfl rfl rfl rfl ?_ (b9) ?_ ?_ | refine RunXW.call rfl rfl rfl ?_ (b9) ?_ ?_); (focus (simp (maxDischargeDepth := 120) [gFault, bne, *]; done)))); (focus (simp [gFault, bne, *]; done)); (first | refine RunQ.evalH ?_ | refine RunX.evalY ?_); simp [gFault, bne, *])
       | fail)
      repeat (first | refine WK.seq ?_ | refine WK.block ?_ | refine WK.inBlock ?_ | refine WK.skip ?_ | refine WK.label ?_ | refine WK.scope ?_ | refine WK.inScope ?_ | refine WK.exit rfl ?_)
      refine WK.ghost (Ghost.own 2 901 7 rfl rfl) ?_
      repeat (first | refine WK.seq ?_ | refine WK.block ?_ | refine WK.inBlock ?_ | refine WK.skip ?_ | refine WK.label ?_ | refine WK.scope ?_ | refine WK.inScope ?_ | refine WK.exit rfl ?_)
      refine WK.retT2 Tryz.func20 ?_ ?_ ?_ <;> simp (maxDischargeDepth := 120) [Tryz.results20, instL_nil, gFault]
    have hnk := of_decide_eq_false hfs.symm
    have ho := rione_c k ((b.drop p).take n) (by omega) (by omega) (fun h => by
      have hkk : k = 2 := by omega
      unfold inLaid at hq; rw [hkk, if_neg (by decide), if_pos (by decide)] at hq
      simp only [Bool.and_eq_true, beq_iff_eq] at hq; omega)
    obtain ⟨y, c, hy⟩ : ∃ y c, inOf k ((b.drop p).take n) = (y, c) := ⟨_, _, rfl⟩
    unfold byS at ho
    rw [hBl] at ho
    clear b9 hfs
    cases c with
    | some c =>
      have e := InAt.bad hi h1 (inStep_some hd hnk hy)
      rw [inOf0_some hy] at ho
      rw [e]
      obtain ⟨B, hB⟩ : ∃ B, (b.drop p).take n = B := ⟨_, rfl⟩
      rw [hB] at hl hs ho
      clear hd hB hq hBl hnk hy
      repeat' (first
       | refine WK.seq ?_
       | refine WK.block ?_
       | refine WK.inBlock ?_
       | refine WK.skip ?_
       | refine WK.label ?_
       | refine WK.scope ?_
       | refine WK.inScope ?_
       | refine WK.exit rfl ?_
       | refine WK.condT rfl ?_
       | refine WK.condF rfl ?_
       | (refine Hid.h hQ _ _ ?_; clear hQ hA)
       | refine WK.condAny rfl ?_ ?_
       | ((first | refine WK.cond2 rfl (fun h => ?_) (fun h => ?_) | refine Fork.mk (fun h => ?_) (fun h => ?_)) <;> (first | (simp [*] at h; done) | (have h2 := h; simp at h2; exfalso; omega) | (have h2 := h; simp at h2; try simp only [Bool.not_eq_true', Bool.not_eq_false'] at h) | skip))
       | ((first | refine WK.regH Tryz.ntmps20 (by kernel_rfl) ?_ | refine WK.regX (by kernel_rfl) Tryz.ntmps20 (by kernel_rfl) ?_); intro A hA Q hQ; simp [gFault, bne, Inst.enc, inst0, wideZ, uI_zero, *])
       | (refine Hid.h hQ _ _ _ (by decide +kernel) ?_; clear hQ hA)
       | ((first | refine RunQ.gd rfl (by rw [hA.h]; rfl) ?_ | refine RunX.gd rfl (by rw [hA.h]; rfl) ?_); simp [gFault, bne, Inst.enc, inst0, wideZ, uI_zero, *])
       | (refine RunQ.callB 60 rfl rfl rfl rfl rfl (hofB) ?_ ?_ rfl rfl ?_ ?_ ?_; (focus (simp (maxDischargeDepth := 120) [gFault, bne, Inst.enc, inst0, wideZ, uI_zero, *]; done)); (focus (simp (maxDischargeDepth := 120) [gFault, bne, Inst.enc, inst0, wideZ, uI_zero, *]; done)); (focus (simp [gFault, bne, Inst.enc, inst0, wideZ, uI_zero, *]; done)); (focus (simp [gFault, bne, Inst.enc, inst0, wideZ, uI_zero, *]; done)); refine RunQ.evalH ?_; simp [gFault, bne, Inst.enc, inst0, wideZ, uI_zero, *])
       | (refine RunQW.by (fun hw => ?_); refine RunQ.callB 60 rfl rfl rfl hw rfl (hofB) ?_ ?_ rfl rfl ?_ ?_ ?_; (focus (simp (maxDischargeDepth := 120) [gFault, bne, Inst.enc, inst0, wideZ, uI_zero, *]; done)); (focus (simp (maxDischargeDepth := 120) [gFault, bne, Inst.enc, inst0, wideZ, uI_zero, *]; done)); (focus (simp [gFault, bne, Inst.enc, inst0, wideZ, uI_zero, *]; done)); (focus (simp [gFault, bne, Inst.enc, inst0, wideZ, uI_zero, *]; done)); clear hw; refine RunQ.evalH ?_; simp [gFault, bne, Inst.enc, inst0, wideZ, uI_zero, *])
       | ((first | ((first | refine RunQ.call rfl rfl rfl rfl rfl ?_ (g0) ?_ ?_ | refine RunQW.call rfl rfl rfl rfl ?_ (g0) ?_ ?_ | refine RunX.call rfl rfl rfl rfl ?_ (g0) ?_ ?_ | refine RunXW.call rfl rfl rfl ?_ (g0) ?_ ?_); (focus (simp (maxDischargeDepth := 120) [gFault, bne, Inst.enc, inst0, wideZ, uI_zero, *]; done))) | ((first | refine RunQ.call rfl rfl rfl rfl rfl ?_ (g1) ?_ ?_ | refine RunQW.call rfl rfl rfl rfl ?_ (g1) ?_ ?_ | refine RunX.call rfl rfl rfl rfl ?_ (g1) ?_ ?_ | refine RunXW.call rfl rfl rfl ?_ (g1) ?_ ?_); (focus (simp (maxDischargeDepth := 120) [gFault, bne, Inst.enc, inst0, wideZ, uI_zero, *]; done))) | ((first | refine RunQ.call rfl rfl rfl rfl rfl ?_ (hl) ?_ ?_ | refine RunQW.call rfl rfl rfl rfl ?_ (hl) ?_ ?_ | refine RunX.call rfl rfl rfl rfl ?_ (hl) ?_ ?_ | refine RunXW.call rfl rfl rfl ?_ (hl) ?_ ?_); (focus (simp (maxDischargeDepth := 120) [gFault, bne, Inst.enc, inst0, wideZ, uI_zero, *]; done))) | ((first | refine RunQ.call rfl rfl rfl rfl rfl ?_ (ho) ?_ ?_ | refine RunQW.call rfl rfl rfl rfl ?_ (ho) ?_ ?_ | refine RunX.call rfl rfl rfl rfl ?_ (ho) ?_ ?_ | refine RunXW.call rfl rfl rfl ?_ (ho) ?_ ?_); (focus (simp (maxDischargeDepth := 120) [gFault, bne, Inst.enc, inst0, wideZ, uI_zero, *]; done)))); (focus (simp [gFault, bne, Inst.enc, inst0, wideZ, uI_zero, *]; done)); (first | refine RunQ.evalH ?_ | refine RunX.evalY ?_); simp [gFault, bne, Inst.enc, inst0, wideZ, uI_zero, *])
       | fail)
      repeat (first | refine WK.seq ?_ | refine WK.block ?_ | refine WK.inBlock ?_ | refine WK.skip ?_ | refine WK.label ?_ | refine WK.scope ?_ | refine WK.inScope ?_ | refine WK.exit rfl ?_)
      refine WK.ghost (Ghost.own 2 901 7 rfl rfl) ?_
      repeat (first | refine WK.seq ?_ | refine WK.block ?_ | refine WK.inBlock ?_ | refine WK.skip ?_ | refine WK.label ?_ | refine WK.scope ?_ | refine WK.inScope ?_ | refine WK.exit rfl ?_)
      refine WK.retT2 Tryz.func20 ?_ ?_ ?_ <;> simp (maxDischargeDepth := 120) [Tryz.results20, instL_nil, gFault]
    | none =>
      have hst := inStep_none hd hnk hy
      obtain ⟨hk1, hk2, hn⟩ := InAt.next hi h1 hst
      simp only at hk1 hn
      rw [inOf0_none hy] at ho
      have hbd : (acc.length + 1) * 72 ≤ 140737488355328 := by omega
      have hsq := instL_snoc acc y
      obtain ⟨B, hB⟩ : ∃ B, (b.drop p).take n = B := ⟨_, rfl⟩
      rw [hB] at hl hs ho
      simp only [Inst.enc] at hsq ho
      clear hd hB hq hBl hnk hy hst hk2
      repeat' (first
       | refine WK.seq ?_
       | refine WK.block ?_
       | refine WK.inBlock ?_
       | refine WK.skip ?_
       | refine WK.label ?_
       | refine WK.scope ?_
       | refine WK.inScope ?_
       | refine WK.exit rfl ?_
       | refine WK.condT rfl ?_
       | refine WK.condF rfl ?_
       | (refine Hid.h hQ _ _ ?_; clear hQ hA)
       | refine WK.condAny rfl ?_ ?_
       | ((first | refine WK.cond2 rfl (fun h => ?_) (fun h => ?_) | refine Fork.mk (fun h => ?_) (fun h => ?_)) <;> (first | (simp [*] at h; done) | (have h2 := h; simp at h2; exfalso; omega) | (have h2 := h; simp at h2; try simp only [Bool.not_eq_true', Bool.not_eq_false'] at h) | skip))
       | ((first | refine WK.regH Tryz.ntmps20 (by kernel_rfl) ?_ | refine WK.regX (by kernel_rfl) Tryz.ntmps20 (by kernel_rfl) ?_); intro A hA Q hQ; simp [gFault, bne, *])
       | (refine Hid.h hQ _ _ _ (by decide +kernel) ?_; clear hQ hA)
       | ((first | refine RunQ.gd rfl (by rw [hA.h]; rfl) ?_ | refine RunX.gd rfl (by rw [hA.h]; rfl) ?_); simp [gFault, bne, *])
       | (refine RunQ.callB 60 rfl rfl rfl rfl rfl (hofB) ?_ ?_ rfl rfl ?_ ?_ ?_; (focus (simp (maxDischargeDepth := 120) [gFault, bne, *]; done)); (focus (simp (maxDischargeDepth := 120) [gFault, bne, *]; done)); (focus (simp [gFault, bne, *]; done)); (focus (simp [gFault, bne, *]; done)); refine RunQ.evalH ?_; simp [gFault, bne, *])
       | (refine RunQW.by (fun hw => ?_); refine RunQ.callB 60 rfl rfl rfl hw rfl (hofB) ?_ ?_ rfl rfl ?_ ?_ ?_; (focus (simp (maxDischargeDepth := 120) [gFault, bne, *]; done)); (focus (simp (maxDischargeDepth := 120) [gFault, bne, *]; done)); (focus (simp [gFault, bne, *]; done)); (focus (simp [gFault, bne, *]; done)); clear hw; refine RunQ.evalH ?_; simp [gFault, bne, *])
       | (refine RunQ.append 902 appInst rfl rfl rfl rfl rfl rfl rfl rfl rfl ?_ ?_ ?_ ?_ ?_; (focus (first | omega | (simp [gFault, bne, *]; done); done)); (focus (first | omega | (simp [gFault, bne, *]; done); done)); (focus (first | omega | (simp [gFault, bne, *]; done); done)); (focus (first | omega | (simp [gFault, bne, *]; done); done)); refine RunQ.evalH ?_; simp [gFault, bne, *])
       | (refine RunQW.by (fun hw => ?_); refine RunQ.append 902 appInst rfl rfl rfl rfl rfl rfl rfl hw rfl ?_ ?_ ?_ ?_ ?_; (focus (first | omega | (simp [gFault, bne, *]; done); done)); (focus (first | omega | (simp [gFault, bne, *]; done); done)); (focus (first | omega | (simp [gFault, bne, *]; done); done)); (focus (first | omega | (simp [gFault, bne, *]; done); done)); clear hw; refine RunQ.evalH ?_; simp [gFault, bne, *])
       | (refine RunX.append 902 appInst rfl rfl rfl rfl rfl rfl rfl rfl ?_ ?_ ?_ ?_ ?_; (focus (first | omega | (simp [gFault, bne, *]; done); done)); (focus (first | omega | (simp [gFault, bne, *]; done); done)); (focus (first | omega | (simp [gFault, bne, *]; done); done)); (focus (first | omega | (simp [gFault, bne, *]; done); done)); refine RunX.evalY ?_; simp [gFault, bne, *])
       | (refine RunX.by (fun hw => ?_); refine RunX.append 902 appInst rfl rfl rfl rfl rfl rfl rfl hw ?_ ?_ ?_ ?_ ?_; (focus (first | omega | (simp [gFault, bne, *]; done); done)); (focus (first | omega | (simp [gFault, bne, *]; done); done)); (focus (first | omega | (simp [gFault, bne, *]; done); done)); (focus (first | omega | (simp [gFault, bne, *]; done); done)); clear hw; refine RunX.evalY ?_; simp [gFault, bne, *])
       | ((first | ((first | refine RunQ.call rfl rfl rfl rfl rfl ?_ (g0) ?_ ?_ | refine RunQW.call rfl rfl rfl rfl ?_ (g0) ?_ ?_ | refine RunX.call rfl rfl rfl rfl ?_ (g0) ?_ ?_ | refine RunXW.call rfl rfl rfl ?_ (g0) ?_ ?_); (focus (simp (maxDischargeDepth := 120) [gFault, bne, *]; done))) | ((first | refine RunQ.call rfl rfl rfl rfl rfl ?_ (g1) ?_ ?_ | refine RunQW.call rfl rfl rfl rfl ?_ (g1) ?_ ?_ | refine RunX.call rfl rfl rfl rfl ?_ (g1) ?_ ?_ | refine RunXW.call rfl rfl rfl ?_ (g1) ?_ ?_); (focus (simp (maxDischargeDepth := 120) [gFault, bne, *]; done))) | ((first | refine RunQ.call rfl rfl rfl rfl rfl ?_ (hl) ?_ ?_ | refine RunQW.call rfl rfl rfl rfl ?_ (hl) ?_ ?_ | refine RunX.call rfl rfl rfl rfl ?_ (hl) ?_ ?_ | refine RunXW.call rfl rfl rfl ?_ (hl) ?_ ?_); (focus (simp (maxDischargeDepth := 120) [gFault, bne, *]; done))) | ((first | refine RunQ.call rfl rfl rfl rfl rfl ?_ (ho) ?_ ?_ | refine RunQW.call rfl rfl rfl rfl ?_ (ho) ?_ ?_ | refine RunX.call rfl rfl rfl rfl ?_ (ho) ?_ ?_ | refine RunXW.call rfl rfl rfl ?_ (ho) ?_ ?_); (focus (simp (maxDischargeDepth := 120) [gFault, bne, *]; done)))); (focus (simp [gFault, bne, *]; done)); (first | refine RunQ.evalH ?_ | refine RunX.evalY ?_); simp [gFault, bne, *])
       | fail)
      repeat (first | refine WK.seq ?_ | refine WK.block ?_ | refine WK.inBlock ?_ | refine WK.skip ?_ | refine WK.label ?_ | refine WK.scope ?_ | refine WK.inScope ?_ | refine WK.exit rfl ?_)
      refine WK.next (fun n => if n = 60 then 902 else n) (IH ((f - 1, p + n, acc ++ [y])) (hn) (by first | omega | (dsimp only; omega))) (by repeat (first | exact TmW.nil | refine TmW.upd ?_ (by simp (maxDischargeDepth := 120) [hsq, gFault]))) (by repeat (first | exact BxW.nil | refine BxW.upd ?_ (by simp (maxDischargeDepth := 120) [hsq, gFault]))) (by first | exact InjW.id | exact InjW.nil | exact InjW.one | exact InjW.two (by simp) | exact InjW.three (by simp) (by simp) (by simp))
  · have hstop := InAt.stop hi h1
    simp only at hstop
    have h1' : ¬ (p : Int) < b.length := by omega
    rw [hstop]
    clear b7 b1 b0 b9
    repeat' (first
     | refine WK.seq ?_
     | refine WK.block ?_
     | refine WK.inBlock ?_
     | refine WK.skip ?_
     | refine WK.label ?_
     | refine WK.scope ?_
     | refine WK.inScope ?_
     | refine WK.exit rfl ?_
     | refine WK.condT rfl ?_
     | refine WK.condF rfl ?_
     | (refine Hid.h hQ _ _ ?_; clear hQ hA)
     | refine WK.condAny rfl ?_ ?_
     | ((first | refine WK.cond2 rfl (fun h => ?_) (fun h => ?_) | refine Fork.mk (fun h => ?_) (fun h => ?_)) <;> (first | (simp [*] at h; done) | (have h2 := h; simp at h2; exfalso; omega) | (have h2 := h; simp at h2; try simp only [Bool.not_eq_true', Bool.not_eq_false'] at h) | skip))
     | ((first | refine WK.regH Tryz.ntmps20 (by kernel_rfl) ?_ | refine WK.regX (by kernel_rfl) Tryz.ntmps20 (by kernel_rfl) ?_); intro A hA Q hQ; simp [gFault, *])
     | (refine Hid.h hQ _ _ _ (by decide +kernel) ?_; clear hQ hA)
     | ((first | refine RunQ.gd rfl (by rw [hA.h]; rfl) ?_ | refine RunX.gd rfl (by rw [hA.h]; rfl) ?_); simp [gFault, *])
     | (refine WK.retT2 Tryz.func20 ?_ ?_ ?_ <;> simp (maxDischargeDepth := 120) [Tryz.results20, gFault, *])
     | fail)
theorem ridecP_c (b : List (BitVec 8)) (hb : b.length ≤ 100000) : FnP Tryz.prog 20 [byS b] (.tup [instS (inDec b).1, .agg (gFault (inDec b).2)]) := by
  have h := (ridec_c b hb).toP (by simp) (by simp [ClL, Cl])
  rwa [instL_take] at h
theorem inDec_small {b : List (BitVec 8)} {l : List Inst} {c : Option (Int × Int)} (h : inDec b = (l, c)) : l.length * 8 ≤ b.length ∧ ∀ x, x ∈ l → x.acts.length * 8 ≤ b.length := by
  cases c with
  | some c => rw [inDec_bad h]; simp
  | none =>
    have d := inDec_done h
    exact ⟨d.small, fun x hx => (d.right x hx).2⟩
theorem instDecodes_c (b : List (BitVec 8)) : FnP Tryz.prog 5 [byS b] (.bool true) := by
  by_cases g : 4000 < b.length
  · have g' : (4000 : Int) < b.length := by omega
    unfold byS
    refine FnP.intro Tryz.func5 rfl rfl fun G w => ?_
    repeat' (first
     | refine WK.seq ?_
     | refine WK.block ?_
     | refine WK.inBlock ?_
     | refine WK.skip ?_
     | refine WK.label ?_
     | refine WK.scope ?_
     | refine WK.inScope ?_
     | refine WK.exit rfl ?_
     | refine WK.condT rfl ?_
     | refine WK.condF rfl ?_
     | (refine Hid.h hQ _ _ ?_; clear hQ hA)
     | refine WK.condAny rfl ?_ ?_
     | ((first | refine WK.cond2 rfl (fun h => ?_) (fun h => ?_) | refine Fork.mk (fun h => ?_) (fun h => ?_)) <;> (first | (simp [*] at h; done) | (have h2 := h; simp at h2; exfalso; omega) | (have h2 := h; simp at h2; try simp only [Bool.not_eq_true', Bool.not_eq_false'] at h) | skip))
     | (refine WK.regH Tryz.ntmps5 (by kernel_rfl) ?_; intro A hA Q hQ; simp [*])
     | (refine RunQ.gd rfl (by rw [hA.h]; rfl) ?_; simp [*])
     | (((first | refine RunQ.call rfl rfl rfl rfl rfl ?_ (awake14_c) ?_ ?_ | refine RunQW.call rfl rfl rfl rfl ?_ (awake14_c) ?_ ?_); (focus (simp (maxDischargeDepth := 120) [*]; done))); (focus (simp [*]; done)); refine RunQ.evalH ?_; simp [*])
     | (refine WK.ret Tryz.func5 ?_ ?_ <;> simp (maxDischargeDepth := 120) [Tryz.results5, *])
     | fail)
  · have g' : ¬ (4000 : Int) < b.length := by omega
    have d := idecP_c b (by omega)
    have e := ridecP_c b (by omega)
    obtain ⟨R, hR⟩ : ∃ R, inDec b = R := ⟨_, rfl⟩
    obtain ⟨l, f⟩ := R
    have hl := inDec_small hR
    have s := rsame_inst l l (by omega) (fun x hx => by have := hl.2 x hx; omega)
    rw [eqBy_refl instSelf] at s
    rw [hR] at d e
    simp only [byS, instS] at *
    clear hR hl
    refine FnP.intro Tryz.func5 rfl rfl fun G w => ?_
    cases f <;>
    · repeat' (first
       | refine WK.seq ?_
       | refine WK.block ?_
       | refine WK.inBlock ?_
       | refine WK.skip ?_
       | refine WK.label ?_
       | refine WK.scope ?_
       | refine WK.inScope ?_
       | refine WK.exit rfl ?_
       | refine WK.condT rfl ?_
       | refine WK.condF rfl ?_
       | (refine Hid.h hQ _ _ ?_; clear hQ hA)
       | refine WK.condAny rfl ?_ ?_
       | ((first | refine WK.cond2 rfl (fun h => ?_) (fun h => ?_) | refine Fork.mk (fun h => ?_) (fun h => ?_)) <;> (first | (simp [*] at h; done) | (have h2 := h; simp at h2; exfalso; omega) | (have h2 := h; simp at h2; try simp only [Bool.not_eq_true', Bool.not_eq_false'] at h) | skip))
       | (refine WK.regH Tryz.ntmps5 (by kernel_rfl) ?_; intro A hA Q hQ; simp [gFault, *])
       | (refine RunQ.gd rfl (by rw [hA.h]; rfl) ?_; simp [gFault, *])
       | ((first | ((first | refine RunQ.call rfl rfl rfl rfl rfl ?_ (d) ?_ ?_ | refine RunQW.call rfl rfl rfl rfl ?_ (d) ?_ ?_); (focus (simp (maxDischargeDepth := 120) [gFault, *]; done))) | ((first | refine RunQ.call rfl rfl rfl rfl rfl ?_ (e) ?_ ?_ | refine RunQW.call rfl rfl rfl rfl ?_ (e) ?_ ?_); (focus (simp (maxDischargeDepth := 120) [gFault, *]; done))) | ((first | refine RunQ.call rfl rfl rfl rfl rfl ?_ (s) ?_ ?_ | refine RunQW.call rfl rfl rfl rfl ?_ (s) ?_ ?_); (focus (simp (maxDischargeDepth := 120) [gFault, *]; done))) | ((first | refine RunQ.call rfl rfl rfl rfl rfl ?_ (awake14_c) ?_ ?_ | refine RunQW.call rfl rfl rfl rfl ?_ (awake14_c) ?_ ?_); (focus (simp (maxDischargeDepth := 120) [gFault, *]; done)))); (focus (simp [gFault, *]; done)); refine RunQ.evalH ?_; simp [gFault, *])
       | (refine WK.ret Tryz.func5 ?_ ?_ <;> simp (maxDischargeDepth := 120) [Tryz.results5, gFault, *])
       | fail)
end Go.Proofs.YteonfhnljphbpaaGreat
