/- Changes of flows: read by the program. -/
import Derived.Test.YtibaiiibjnnlkaaWk10
set_option linter.all false
set_option linter.unnecessarySimpa false
section
set_option linter.unusedVariables false
set_option linter.unusedSimpArgs false
namespace Go.Proofs.Ytibaiiibjnnlkaa
open Go Go.AI Go.Proofs
attribute [local irreducible] FnP FnO FnB FnT FnSeq WK RunQ RunQW RunX RunXW

theorem or_zero8 (x y : BitVec 8) : (bOr .u8 (bI x) (bI y) == 0) = (x == 0#8 && y == 0#8) := by
  have hx : BitVec.ofInt 8 (bI x) = x := by unfold bI; simp
  have hy : BitVec.ofInt 8 (bI y) = y := by unfold bI; simp
  have h : bOr .u8 (bI x) (bI y) = bI (x ||| y) := by
    unfold bOr
    show IntKind.wrap .u8 (((BitVec.ofInt 8 (bI x) ||| BitVec.ofInt 8 (bI y)).toNat : Nat) : Int) = _
    rw [hx, hy, wrap_u8]
    simp
  rw [h, bI_zero, Bool.eq_iff_iff, Bool.and_eq_true, beq_iff_eq, beq_iff_eq, beq_iff_eq]
  constructor
  · intro h
    have hb : ∀ i, i < 8 → x.getLsbD i = false ∧ y.getLsbD i = false := fun i hi => by
      have := congrArg (fun z => z.getLsbD i) h
      simpa using this
    exact ⟨BitVec.eq_of_getLsbD_eq fun i hi => by rw [(hb i hi).1]; simp, BitVec.eq_of_getLsbD_eq fun i hi => by rw [(hb i hi).2]; simp⟩
  · rintro ⟨rfl, rfl⟩; rfl
theorem allZ_two {b : List (BitVec 8)} {p : Nat} (h : p + 2 ≤ b.length) : allZ ((b.drop p).take 2) = (nth b p == 0#8 && nth b (p + 1) == 0#8) := by
  have : (b.drop p).take 2 = [nth b p, nth b (p + 1)] := by
    rw [nth_eq (by omega), nth_eq (by omega), List.drop_eq_getElem_cons (by omega), List.drop_eq_getElem_cons (by omega)]; rfl
  rw [this]; simp [allZ]
theorem nsRead_nth : ∀ (ss : List Nat) (b : List (BitVec 8)) (p i : Nat), i < ss.length → nth (nsRead ss b p) i = (getN b (p + (ss.take i).sum) (nth ss i)).1
  | [], _, _, i, h => by simp at h
  | s :: ss, b, p, 0, h => rfl
  | s :: ss, b, p, i + 1, h => by
    have := nsRead_nth ss b (p + s) i (by simpa using h)
    rw [nsRead, List.take_succ_cons, List.sum_cons, ← Nat.add_assoc]
    exact this
def fmAt (i : Nat) : Nat := 16 + (fmSizes.take i).sum
theorem fmAt_succ {i : Nat} (h : i < 9) : fmAt (i + 1) = fmAt i + nth fmSizes i := by
  unfold fmAt; rw [take_nth (l := fmSizes) (i := i) h, List.sum_append]; simp; omega
theorem fmAt_le : ∀ i : Nat, i < 9 → fmAt i + nth fmSizes i ≤ 38 := by
  intro i hi
  have : i = 0 ∨ i = 1 ∨ i = 2 ∨ i = 3 ∨ i = 4 ∨ i = 5 ∨ i = 6 ∨ i = 7 ∨ i = 8 := by omega
  rcases this with rfl | rfl | rfl | rfl | rfl | rfl | rfl | rfl | rfl <;> decide
/-- nine numbers, the first i of which are read -/
def fmPart (N : List Int) (i : Nat) : List AV := intL (N.take i) ++ List.replicate (9 - i) (.int .i64 0)
theorem fmPart_set {N : List Int} (hN : N.length = 9) {i : Nat} (h : i < 9) : splice (fmPart N i) i [.int .i64 (nth N i)] = fmPart N (i + 1) := by
  unfold splice fmPart
  have hl : (intL (N.take i)).length = i := by rw [intL_len, List.length_take]; omega
  have hr : List.replicate (9 - i) (AV.int .i64 0) = .int .i64 0 :: List.replicate (9 - (i + 1)) (.int .i64 0) := by rw [show 9 - i = (9 - (i + 1)) + 1 by omega]; rfl
  rw [List.take_left' hl, hr, List.append_assoc, List.drop_append, hl, show i + [AV.int .i64 (nth N i)].length - i = 1 by simp, List.drop_of_length_le (by rw [hl]; simp), take_nth (by omega)]
  unfold intL
  simp
theorem fmPart_len {N : List Int} (hN : N.length = 9) (i : Nat) (h : i ≤ 9) : (fmPart N i).length = 9 := by
  unfold fmPart; simp; omega
theorem ClL_rep (n : Nat) : ClL (List.replicate n (AV.int .i64 0)) = true := by
  induction n with
  | zero => rfl
  | succ n ih => rw [List.replicate_succ]; simp [ClL, Cl, ih]
@[simp] theorem fmPart_cl (N : List Int) (i : Nat) : ClL (fmPart N i) = true := by unfold fmPart; rw [ClL_append, ClL_rep]; simp
theorem fmPart_all {N : List Int} (hN : N.length = 9) : fmPart N 9 = intL N := by unfold fmPart; rw [List.take_of_length_le (by omega)]; simp
theorem ftake_c (c k n0 n1 n2 n3 n4 n5 n6 n7 n8 : Int) :
    FnB Try.prog 22 [.ptr 0 0, .agg [.int .i64 n0, .int .i64 n1, .int .i64 n2, .int .i64 n3, .int .i64 n4, .int .i64 n5, .int .i64 n6, .int .i64 n7, .int .i64 n8]] (.var [.int .u64 c, .int .u64 k, .junk, .junk, .junk, .junk, .junk, .junk, .junk, .junk, .junk, .junk, .junk]) (.tup [])
      (.var [.int .u64 c, .int .u64 k, .int .i64 n0, .int .i64 n1, .int .i64 n2, .int .i64 n3, .int .i64 n4, .int .i64 n5, .int .i64 n6, .int .i64 n7, .int .i64 n8, .junk, .junk]) := by
  refine FnB.intro Try.func22 rfl rfl fun G w l => ?_
  refine WK.anyNx (n := 100) ?_
  repeat' (first
   | refine WK.seq ?_
   | refine WK.block ?_
   | refine WK.inBlock ?_
   | refine WK.skip ?_
   | refine WK.label ?_
   | refine WK.scope ?_
   | refine WK.inScope ?_
   | refine WK.exit rfl ?_
   | refine WK.condT rfl ?_
   | refine WK.condF rfl ?_
   | (refine Hid.h hQ _ _ ?_; clear hQ hA)
   | refine WK.condAny rfl ?_ ?_
   | (refine WK.cond2 rfl (fun h => ?_) (fun h => ?_) <;> (first | (simp [*] at h; done) | (have h2 := h; simp at h2; exfalso; omega) | (have h2 := h; simp at h2; try simp only [Bool.not_eq_true', Bool.not_eq_false'] at h) | skip))
   | (refine WK.regH Try.ntmps22 (by kernel_rfl) ?_; intro A hA Q hQ; simp [splice, *])
   | (refine WK.regX (by kernel_rfl) Try.ntmps22 (by kernel_rfl) ?_; intro A hA Q hQ; simp [splice, *])
   | (refine Hid.h hQ _ _ _ (by decide +kernel) ?_; clear hQ hA)
   | (refine WK.retB Try.func22 ?_ ?_ rfl (.inl rfl) <;> simp (maxDischargeDepth := 120) [Try.results22, splice, *])
   | fail)
theorem oFlat_ge : ∀ {l : List Oxm}, (∀ o, o ∈ l → Oxm.right o = true) → l.length * 4 ≤ (rwFlat oBytes l).length
  | [], _ => by simp
  | o :: l, h => by
    have ih := oFlat_ge (l := l) fun a ha => h a (List.mem_cons_of_mem _ ha)
    have h5 : 5 ≤ (oBytes o).length := oEnc_ge (h o (by simp))
    have e : rwFlat oBytes (o :: l) = oBytes o ++ rwFlat oBytes l := rfl
    rw [e, List.length_append, List.length_cons]; omega
theorem mEnc_few {l : List Oxm} (h : (mEnc l).2 = 0) : l.length ≤ 250 := by
  obtain ⟨h1, h2, _⟩ := mEnc_zero h
  have := oFlat_ge (mFit_facts h1).2
  omega
theorem mDec_few {b : List (BitVec 8)} {l : List Oxm} {n : Nat} (h : mDec b = (l, n, none)) : l.length ≤ 250 ∧ n ≤ b.length := by
  have h1 := mDec_back h
  exact ⟨mEnc_few (by rw [h1.2.2.2.1]), h1.1⟩
theorem fmB_dec {b e : List (BitVec 8)} {l : List Oxm} {n : Nat} {i : List Inst} (h : mDec b = (l, n, none)) (hi : inDec e = (i, none)) (he : e.length ≤ 100000) (c k : BitVec 64) (N : List Int) : FmB (fmTake c k N l i) := by
  refine ⟨?_, ?_, fun x hx => ?_⟩
  · have := (mDec_few h).1
    show l.length ≤ 10000; omega
  · have := inDone_five (inDec_done hi)
    show i.length ≤ 100; omega
  · have := (inDec_small hi).2 x hx
    omega
theorem fmDec_short {b : List (BitVec 8)} (h : b.length < 40) : fmDec b = (flowMod0, some (1, 6)) := by unfold fmDec; rw [if_pos h]
def flowMod0E : List AV := [.int .u64 0, .int .u64 0, .int .i64 0, .int .i64 0, .int .i64 0, .int .i64 0, .int .i64 0, .int .i64 0, .int .i64 0, .int .i64 0, .int .i64 0, .sl false 0 [], .sl false 0 []]
theorem flowMod0_enc : flowMod0.enc = flowMod0E := rfl
set_option maxHeartbeats 8000000 in
theorem fmdec_c (b : List (BitVec 8)) (hb : b.length ≤ 80000) : FnP Try.prog 7 [byS b] (.tup [.agg (fmDec b).1.enc, .agg (gFault (fmDec b).2)]) := by
  have b16 := fmbad_c 1 6
  by_cases c0 : b.length < 40
  · have c0' : (b.length : Int) < 40 := by omega
    rw [fmDec_short c0, flowMod0_enc]
    unfold byS
    refine FnP.intro Try.func7 rfl rfl fun G w => ?_
    repeat' (first
     | refine WK.seq ?_
     | refine WK.block ?_
     | refine WK.inBlock ?_
     | refine WK.skip ?_
     | refine WK.label ?_
     | refine WK.scope ?_
     | refine WK.inScope ?_
     | refine WK.exit rfl ?_
     | refine WK.condT rfl ?_
     | refine WK.condF rfl ?_
     | (refine Hid.h hQ _ _ ?_; clear hQ hA)
     | refine WK.condAny rfl ?_ ?_
     | (refine WK.cond2 rfl (fun h => ?_) (fun h => ?_) <;> (first | (simp [*] at h; done) | (have h2 := h; simp at h2; exfalso; omega) | (have h2 := h; simp at h2; try simp only [Bool.not_eq_true', Bool.not_eq_false'] at h) | skip))
     | (refine Fork.mk (fun h => ?_) (fun h => ?_) <;> (first | (simp [*] at h; done) | (have h2 := h; simp at h2; exfalso; omega) | (have h2 := h; simp at h2; try simp only [Bool.not_eq_true', Bool.not_eq_false'] at h) | skip))
     | (refine WK.regH Try.ntmps7 (by kernel_rfl) ?_; intro A hA Q hQ; simp [gFault, flowMod0E, *])
     | (refine WK.regX (by kernel_rfl) Try.ntmps7 (by kernel_rfl) ?_; intro A hA Q hQ; simp [gFault, flowMod0E, *])
     | (refine Hid.h hQ _ _ _ (by decide +kernel) ?_; clear hQ hA)
     | (refine RunQ.gd rfl (by rw [hA.h]; rfl) ?_; simp [gFault, flowMod0E, *])
     | (refine RunX.gd rfl (by rw [hA.h]; rfl) ?_; simp [gFault, flowMod0E, *])
     | (refine RunQ.call rfl rfl rfl rfl rfl ?_ (b16) ?_ ?_; (focus (simp (maxDischargeDepth := 120) [gFault, flowMod0E, *]; done)); (focus (simp [gFault, flowMod0E, *]; done)); refine RunQ.evalH ?_; simp [gFault, flowMod0E, *])
     | (refine RunQW.call rfl rfl rfl rfl ?_ (b16) ?_ ?_; (focus (simp (maxDischargeDepth := 120) [gFault, flowMod0E, *]; done)); (focus (simp [gFault, flowMod0E, *]; done)); refine RunQ.evalH ?_; simp [gFault, flowMod0E, *])
     | (refine RunX.call rfl rfl rfl rfl ?_ (b16) ?_ ?_; (focus (simp (maxDischargeDepth := 120) [gFault, flowMod0E, *]; done)); (focus (simp [gFault, flowMod0E, *]; done)); refine RunX.evalY ?_; simp [gFault, flowMod0E, *])
     | (refine RunXW.call rfl rfl rfl ?_ (b16) ?_ ?_; (focus (simp (maxDischargeDepth := 120) [gFault, flowMod0E, *]; done)); (focus (simp [gFault, flowMod0E, *]; done)); refine RunX.evalY ?_; simp [gFault, flowMod0E, *])
     | (refine WK.ret Try.func7 ?_ ?_ <;> simp (maxDischargeDepth := 120) [Try.results7, gFault, flowMod0E, *])
     | fail)
  have c0' : ¬ (b.length : Int) < 40 := by omega
  have hde : fmDec b = if allZ ((b.drop 38).take 2) = false then (flowMod0, some (1, 6)) else
      match (mDec (b.drop 40)).2.2 with
      | some c => (flowMod0, some c)
      | none => match (inDec (b.drop (40 + (mDec (b.drop 40)).2.1))).2 with
        | some c => (flowMod0, some c)
        | none => match fmCheck (fmTake (wGet b 8).1.lo (wGet (b.drop 8) 8).1.lo (nsRead fmSizes b 16) (mDec (b.drop 40)).1 (inDec (b.drop (40 + (mDec (b.drop 40)).2.1))).1) with
          | some c => (flowMod0, some c)
          | none => (fmTake (wGet b 8).1.lo (wGet (b.drop 8) 8).1.lo (nsRead fmSizes b 16) (mDec (b.drop 40)).1 (inDec (b.drop (40 + (mDec (b.drop 40)).2.1))).1, none) := by
    unfold fmDec; rw [if_neg c0]; rfl
  have x38 := by_get b 38 (by omega)
  have x39 := by_get b 39 (by omega)
  have u38 : (38 : Int) < b.length := by omega
  have u39 : (39 : Int) < b.length := by omega
  have v38 : 38 < b.length := by omega
  have v39 : 39 < b.length := by omega
  have zo := or_zero8 (nth b 38) (nth b 39)
  rw [allZ_two (p := 38) (by omega)] at hde
  obtain ⟨X38, hX38⟩ : ∃ X, bI (nth b 38) = X := ⟨_, rfl⟩
  obtain ⟨X39, hX39⟩ : ∃ X, bI (nth b 39) = X := ⟨_, rfl⟩
  rw [hX38] at x38 zo
  rw [hX39] at x39 zo
  obtain ⟨z, hz⟩ : ∃ z, (nth b 38 == 0#8 && nth b (38 + 1) == 0#8) = z := ⟨_, rfl⟩
  rw [show (nth b 38 == 0#8 && nth b 39 == 0#8) = z from hz] at zo
  rw [hz] at hde
  clear hX38 hX39 hz
  cases z
  case false =>
    rw [if_pos rfl] at hde
    rw [hde, flowMod0_enc]
    unfold byS
    clear hde
    refine FnP.intro Try.func7 rfl rfl fun G w => ?_
    repeat' (first
     | refine WK.seq ?_
     | refine WK.block ?_
     | refine WK.inBlock ?_
     | refine WK.skip ?_
     | refine WK.label ?_
     | refine WK.scope ?_
     | refine WK.inScope ?_
     | refine WK.exit rfl ?_
     | refine WK.condT rfl ?_
     | refine WK.condF rfl ?_
     | (refine Hid.h hQ _ _ ?_; clear hQ hA)
     | refine WK.condAny rfl ?_ ?_
     | (refine WK.cond2 rfl (fun h => ?_) (fun h => ?_) <;> (first | (simp [*] at h; done) | (have h2 := h; simp at h2; exfalso; omega) | (have h2 := h; simp at h2; try simp only [Bool.not_eq_true', Bool.not_eq_false'] at h) | skip))
     | (refine Fork.mk (fun h => ?_) (fun h => ?_) <;> (first | (simp [*] at h; done) | (have h2 := h; simp at h2; exfalso; omega) | (have h2 := h; simp at h2; try simp only [Bool.not_eq_true', Bool.not_eq_false'] at h) | skip))
     | (refine WK.regH Try.ntmps7 (by kernel_rfl) ?_; intro A hA Q hQ; simp [gFault, flowMod0E, bne, *])
     | (refine WK.regX (by kernel_rfl) Try.ntmps7 (by kernel_rfl) ?_; intro A hA Q hQ; simp [gFault, flowMod0E, bne, *])
     | (refine Hid.h hQ _ _ _ (by decide +kernel) ?_; clear hQ hA)
     | (refine RunQ.gd rfl (by rw [hA.h]; rfl) ?_; simp [gFault, flowMod0E, bne, *])
     | (refine RunX.gd rfl (by rw [hA.h]; rfl) ?_; simp [gFault, flowMod0E, bne, *])
     | (refine RunQ.call rfl rfl rfl rfl rfl ?_ (b16) ?_ ?_; (focus (simp (maxDischargeDepth := 120) [gFault, flowMod0E, bne, *]; done)); (focus (simp [gFault, flowMod0E, bne, *]; done)); refine RunQ.evalH ?_; simp [gFault, flowMod0E, bne, *])
     | (refine RunQW.call rfl rfl rfl rfl ?_ (b16) ?_ ?_; (focus (simp (maxDischargeDepth := 120) [gFault, flowMod0E, bne, *]; done)); (focus (simp [gFault, flowMod0E, bne, *]; done)); refine RunQ.evalH ?_; simp [gFault, flowMod0E, bne, *])
     | (refine RunX.call rfl rfl rfl rfl ?_ (b16) ?_ ?_; (focus (simp (maxDischargeDepth := 120) [gFault, flowMod0E, bne, *]; done)); (focus (simp [gFault, flowMod0E, bne, *]; done)); refine RunX.evalY ?_; simp [gFault, flowMod0E, bne, *])
     | (refine RunXW.call rfl rfl rfl ?_ (b16) ?_ ?_; (focus (simp (maxDischargeDepth := 120) [gFault, flowMod0E, bne, *]; done)); (focus (simp [gFault, flowMod0E, bne, *]; done)); refine RunX.evalY ?_; simp [gFault, flowMod0E, bne, *])
     | (refine WK.ret Try.func7 ?_ ?_ <;> simp (maxDischargeDepth := 120) [Try.results7, gFault, flowMod0E, bne, *])
     | fail)
  rw [if_neg (by simp)] at hde
  have g1 := wget_c b 8 (by omega) (by omega)
  have g2 := wget_c (b.drop 8) 8 (by omega) (by rw [List.length_drop]; omega)
  have hs8 : ((byL b).drop 8).take (b.length - 8) = byL (b.drop 8) := by rw [byL_drop]; exact by_full _ _ (by rw [List.length_drop])
  have hs40 : ((byL b).drop 40).take (b.length - 40) = byL (b.drop 40) := by rw [byL_drop]; exact by_full _ _ (by rw [List.length_drop])
  have u8 : (8 : Int) ≤ b.length := by omega
  have u40 : (40 : Int) ≤ b.length := by omega
  have md := mdec_c (b.drop 40) (by rw [List.length_drop]; omega)
  have sz := fsizes_c
  have gN : ∀ i, i < 9 → FnP Try.prog 21 [byS b, .int .i64 ((fmAt i : Nat) : Int), .int .i64 ((nth fmSizes i : Nat) : Int)] (.tup [.int .i64 (getN b (fmAt i) (nth fmSizes i)).1, .int .i64 (getN b (fmAt i) (nth fmSizes i)).2]) := fun i hi => nget_c b (fmAt i) (nth fmSizes i) (fmSize_at i hi).2.1 (by omega) (by have := fmAt_le i hi; omega)
  have hNn : ∀ i, i < 9 → (getN b (fmAt i) (nth fmSizes i)).1 = nth (nsRead fmSizes b 16) i := fun i hi => (nsRead_nth fmSizes b 16 i hi).symm
  have hNl : (nsRead fmSizes b 16).length = 9 := nsRead_len _ _ _
  obtain ⟨n0, n1, n2, n3, n4, n5, n6, n7, n8, hNe⟩ : ∃ n0 n1 n2 n3 n4 n5 n6 n7 n8, nsRead fmSizes b 16 = [n0, n1, n2, n3, n4, n5, n6, n7, n8] := ⟨_, _, _, _, _, _, _, _, _, rfl⟩
  obtain ⟨N, hN⟩ : ∃ N, nsRead fmSizes b 16 = N := ⟨_, rfl⟩
  rw [hN] at hNn hNl hNe hde
  obtain ⟨w1, hw1⟩ : ∃ w, wGet b 8 = w := ⟨_, rfl⟩
  obtain ⟨w2, hw2⟩ : ∃ w, wGet (b.drop 8) 8 = w := ⟨_, rfl⟩
  rw [hw1] at g1 hde
  rw [hw2] at g2 hde
  obtain ⟨⟨h1, c⟩, o1⟩ := w1
  obtain ⟨⟨h2, k⟩, o2⟩ := w2
  simp only [byS, Wide.enc, List.length_drop] at g1 g2 md gN
  simp only at hde
  have ft := ftake_c (uI c) (uI k) n0 n1 n2 n3 n4 n5 n6 n7 n8
  have hP0 : fmPart N 0 = [.int .i64 0, .int .i64 0, .int .i64 0, .int .i64 0, .int .i64 0, .int .i64 0, .int .i64 0, .int .i64 0, .int .i64 0] := rfl
  have hA0 : fmAt 0 = 16 := rfl
  have hsl : (intL fmSizesI).length = 9 := rfl
  obtain ⟨B8, hB8⟩ : ∃ B, b.drop 8 = B := ⟨_, rfl⟩
  rw [hB8] at g2 hs8
  clear hN hw1 hw2 hB8 c0
  unfold byS
  refine FnP.intro Try.func7 rfl rfl fun G w => ?_
  repeat' (first
   | refine WK.seq ?_
   | refine WK.block ?_
   | refine WK.inBlock ?_
   | refine WK.skip ?_
   | refine WK.label ?_
   | refine WK.scope ?_
   | refine WK.inScope ?_
   | refine WK.exit rfl ?_
   | refine WK.condT rfl ?_
   | refine WK.condF rfl ?_
   | (refine Hid.h hQ _ _ ?_; clear hQ hA)
   | refine WK.condAny rfl ?_ ?_
   | (refine WK.cond2 rfl (fun h => ?_) (fun h => ?_) <;> (first | (simp [*] at h; done) | (have h2 := h; simp at h2; exfalso; omega) | (have h2 := h; simp at h2; try simp only [Bool.not_eq_true', Bool.not_eq_false'] at h) | skip))
   | (refine Fork.mk (fun h => ?_) (fun h => ?_) <;> (first | (simp [*] at h; done) | (have h2 := h; simp at h2; exfalso; omega) | (have h2 := h; simp at h2; try simp only [Bool.not_eq_true', Bool.not_eq_false'] at h) | skip))
   | (refine WK.regH Try.ntmps7 (by kernel_rfl) ?_; intro A hA Q hQ; simp [bne, *])
   | (refine WK.regX (by kernel_rfl) Try.ntmps7 (by kernel_rfl) ?_; intro A hA Q hQ; simp [bne, *])
   | (refine Hid.h hQ _ _ _ (by decide +kernel) ?_; clear hQ hA)
   | (refine RunQ.gd rfl (by rw [hA.h]; rfl) ?_; simp [bne, *])
   | (refine RunX.gd rfl (by rw [hA.h]; rfl) ?_; simp [bne, *])
   | (refine RunQ.call rfl rfl rfl rfl rfl ?_ (g1) ?_ ?_; (focus (simp (maxDischargeDepth := 120) [bne, *]; done)); (focus (simp [bne, *]; done)); refine RunQ.evalH ?_; simp [bne, *])
   | (refine RunQ.call rfl rfl rfl rfl rfl ?_ (g2) ?_ ?_; (focus (simp (maxDischargeDepth := 120) [bne, *]; done)); (focus (simp [bne, *]; done)); refine RunQ.evalH ?_; simp [bne, *])
   | (refine RunQ.call rfl rfl rfl rfl rfl ?_ (sz) ?_ ?_; (focus (simp (maxDischargeDepth := 120) [bne, *]; done)); (focus (simp [bne, *]; done)); refine RunQ.evalH ?_; simp [bne, *])
   | (refine RunQW.call rfl rfl rfl rfl ?_ (g1) ?_ ?_; (focus (simp (maxDischargeDepth := 120) [bne, *]; done)); (focus (simp [bne, *]; done)); refine RunQ.evalH ?_; simp [bne, *])
   | (refine RunQW.call rfl rfl rfl rfl ?_ (g2) ?_ ?_; (focus (simp (maxDischargeDepth := 120) [bne, *]; done)); (focus (simp [bne, *]; done)); refine RunQ.evalH ?_; simp [bne, *])
   | (refine RunQW.call rfl rfl rfl rfl ?_ (sz) ?_ ?_; (focus (simp (maxDischargeDepth := 120) [bne, *]; done)); (focus (simp [bne, *]; done)); refine RunQ.evalH ?_; simp [bne, *])
   | (refine RunX.call rfl rfl rfl rfl ?_ (g1) ?_ ?_; (focus (simp (maxDischargeDepth := 120) [bne, *]; done)); (focus (simp [bne, *]; done)); refine RunX.evalY ?_; simp [bne, *])
   | (refine RunX.call rfl rfl rfl rfl ?_ (g2) ?_ ?_; (focus (simp (maxDischargeDepth := 120) [bne, *]; done)); (focus (simp [bne, *]; done)); refine RunX.evalY ?_; simp [bne, *])
   | (refine RunX.call rfl rfl rfl rfl ?_ (sz) ?_ ?_; (focus (simp (maxDischargeDepth := 120) [bne, *]; done)); (focus (simp [bne, *]; done)); refine RunX.evalY ?_; simp [bne, *])
   | (refine RunXW.call rfl rfl rfl ?_ (g1) ?_ ?_; (focus (simp (maxDischargeDepth := 120) [bne, *]; done)); (focus (simp [bne, *]; done)); refine RunX.evalY ?_; simp [bne, *])
   | (refine RunXW.call rfl rfl rfl ?_ (g2) ?_ ?_; (focus (simp (maxDischargeDepth := 120) [bne, *]; done)); (focus (simp [bne, *]; done)); refine RunX.evalY ?_; simp [bne, *])
   | (refine RunXW.call rfl rfl rfl ?_ (sz) ?_ ?_; (focus (simp (maxDischargeDepth := 120) [bne, *]; done)); (focus (simp [bne, *]; done)); refine RunX.evalY ?_; simp [bne, *])
   | fail)
  repeat (first | refine WK.seq ?_ | refine WK.block ?_ | refine WK.inBlock ?_ | refine WK.skip ?_ | refine WK.label ?_ | refine WK.scope ?_ | refine WK.inScope ?_ | refine WK.exit rfl ?_)
  refine WK.loopI (fun n => n) (fun i : Nat => (⟨(upd (upd (upd (upd (upd (upd (upd (upd J 0 (.sl false b.length (byL b))) 2 (.ptr 0 0)) 3 (.ptr 1 0)) 4 (.ptr 201 0)) 9 (.int .i64 (fmAt i : Nat))) 10 (.ptr 700 0)) 58 (.agg (intL fmSizesI))) 59 (.int .i64 i)), (upd (upd (upd (upd B0 0 (.var [.junk, .junk, .junk, .junk, .junk, .junk, .junk, .junk, .junk, .junk, .junk, .junk, .junk])) 1 (.var [.junk, .junk, .junk])) 201 (.var [.int .u64 (uI c), .int .u64 (uI k), .junk, .junk, .junk, .junk, .junk, .junk, .junk, .junk, .junk, .junk, .junk])) 700 (.var (fmPart N i))), 0⟩ : St)) (fun i => i ≤ 9) (fun i => 9 - i) (0) (by repeat (first | exact TmW.nil | refine TmW.upd ?_ (by simp (maxDischargeDepth := 120) [hP0, hA0]))) (by repeat (first | exact BxW.nil | refine BxW.upd ?_ (by simp (maxDischargeDepth := 120) [hP0, hA0]))) (by first | exact InjW.id | exact InjW.nil | exact InjW.one | exact InjW.two (by simp) | exact InjW.three (by simp) (by simp) (by simp)) (Nat.zero_le _) (fun i hi IH => ?_)
  clear g1 g2 sz hP0 hA0 x38 x39 zo u38 u39 v38 v39 b16 hs8 u8
  by_cases h1 : i < 9
  · obtain ⟨s1, s2, s3⟩ := fmSize_at i h1
    have h1' : (i : Int) < 9 := by omega
    have h6 : IntKind.i64.wrap ((i : Int) + 1) = i + 1 := wrap_i64 (by omega) (by omega)
    have ha := fmAt_le i h1
    have h8 : i ≤ 8 := by omega
    have hw : IntKind.i64.wrap ((fmAt i : Int) + (nth fmSizes i : Nat)) = ((fmAt (i + 1) : Nat) : Int) := by rw [fmAt_succ h1, wrap_i64 (by omega) (by omega)]; omega
    have g := gN i h1
    rw [hNn i h1] at g
    have gz := intL_get' fmSizesI i h1
    rw [s1] at gz
    have hset := fmPart_set hNl h1
    have hPl := fmPart_len hNl i (by omega)
    unfold splice at hset
    obtain ⟨x, hx⟩ : ∃ x, nth N i = x := ⟨_, rfl⟩
    obtain ⟨s, hs⟩ : ∃ x, nth fmSizes i = x := ⟨_, rfl⟩
    obtain ⟨p, hp⟩ : ∃ x, fmAt i = x := ⟨_, rfl⟩
    rw [hx] at g hset
    rw [hs] at g gz hw
    rw [hp] at g hw ⊢
    obtain ⟨F, hF⟩ : ∃ F, fmPart N i = F := ⟨_, rfl⟩
    rw [hF] at hset hPl ⊢
    simp only [List.append_assoc, List.cons_append, List.nil_append, List.length_cons, List.length_nil, Nat.zero_add] at hset
    clear hx hs hp hF hNn gN hde md ft hNe s1 s2 s3 ha
    repeat' (first
     | refine WK.seq ?_
     | refine WK.block ?_
     | refine WK.inBlock ?_
     | refine WK.skip ?_
     | refine WK.label ?_
     | refine WK.scope ?_
     | refine WK.inScope ?_
     | refine WK.exit rfl ?_
     | refine WK.condT rfl ?_
     | refine WK.condF rfl ?_
     | (refine Hid.h hQ _ _ ?_; clear hQ hA)
     | refine WK.condAny rfl ?_ ?_
     | (refine WK.cond2 rfl (fun h => ?_) (fun h => ?_) <;> (first | (simp [*] at h; done) | (have h2 := h; simp at h2; exfalso; omega) | (have h2 := h; simp at h2; try simp only [Bool.not_eq_true', Bool.not_eq_false'] at h) | skip))
     | (refine Fork.mk (fun h => ?_) (fun h => ?_) <;> (first | (simp [*] at h; done) | (have h2 := h; simp at h2; exfalso; omega) | (have h2 := h; simp at h2; try simp only [Bool.not_eq_true', Bool.not_eq_false'] at h) | skip))
     | (refine WK.regH Try.ntmps7 (by kernel_rfl) ?_; intro A hA Q hQ; simp [*])
     | (refine WK.regX (by kernel_rfl) Try.ntmps7 (by kernel_rfl) ?_; intro A hA Q hQ; simp [*])
     | (refine Hid.h hQ _ _ _ (by decide +kernel) ?_; clear hQ hA)
     | (refine RunQ.gd rfl (by rw [hA.h]; rfl) ?_; simp [*])
     | (refine RunX.gd rfl (by rw [hA.h]; rfl) ?_; simp [*])
     | (refine RunQ.call rfl rfl rfl rfl rfl ?_ (g) ?_ ?_; (focus (simp (maxDischargeDepth := 120) [*]; done)); (focus (simp [*]; done)); refine RunQ.evalH ?_; simp [*])
     | (refine RunQW.call rfl rfl rfl rfl ?_ (g) ?_ ?_; (focus (simp (maxDischargeDepth := 120) [*]; done)); (focus (simp [*]; done)); refine RunQ.evalH ?_; simp [*])
     | (refine RunX.call rfl rfl rfl rfl ?_ (g) ?_ ?_; (focus (simp (maxDischargeDepth := 120) [*]; done)); (focus (simp [*]; done)); refine RunX.evalY ?_; simp [*])
     | (refine RunXW.call rfl rfl rfl ?_ (g) ?_ ?_; (focus (simp (maxDischargeDepth := 120) [*]; done)); (focus (simp [*]; done)); refine RunX.evalY ?_; simp [*])
     | fail)
    repeat (first | refine WK.seq ?_ | refine WK.block ?_ | refine WK.inBlock ?_ | refine WK.skip ?_ | refine WK.label ?_ | refine WK.scope ?_ | refine WK.inScope ?_ | refine WK.exit rfl ?_)
    refine WK.next (fun n => n) (IH (i + 1) (by omega) (by first | omega | (dsimp only; omega))) (by repeat (first | exact TmW.nil | refine TmW.upd ?_ (by simp (maxDischargeDepth := 120) [hset, hw]))) (by repeat (first | exact BxW.nil | refine BxW.upd ?_ (by simp (maxDischargeDepth := 120) [hset, hw]))) (by first | exact InjW.id | exact InjW.nil | exact InjW.one | exact InjW.two (by simp) | exact InjW.three (by simp) (by simp) (by simp))
  · have hi9 : i = 9 := by omega
    subst hi9
    have hPA : fmPart N 9 = [.int .i64 n0, .int .i64 n1, .int .i64 n2, .int .i64 n3, .int .i64 n4, .int .i64 n5, .int .i64 n6, .int .i64 n7, .int .i64 n8] := by rw [fmPart_all hNl, hNe]; rfl
    rw [hPA]
    clear hPA hNn gN h1 hsl
    obtain ⟨l, n, q, hM⟩ : ∃ l n q, mDec (b.drop 40) = (l, n, q) := ⟨_, _, _, rfl⟩
    rw [hM] at md hde
    simp only at hde
    unfold oxmS at md
    have hdl : (b.drop 40).length = b.length - 40 := by rw [List.length_drop]
    cases q with
    | some q =>
      simp only at hde
      rw [hde, flowMod0_enc]
      obtain ⟨B40, hB40⟩ : ∃ B, b.drop 40 = B := ⟨_, rfl⟩
      rw [hB40] at md hs40
      clear hde hM hB40 hNe hNl hdl
      repeat' (first
       | refine WK.seq ?_
       | refine WK.block ?_
       | refine WK.inBlock ?_
       | refine WK.skip ?_
       | refine WK.label ?_
       | refine WK.scope ?_
       | refine WK.inScope ?_
       | refine WK.exit rfl ?_
       | refine WK.condT rfl ?_
       | refine WK.condF rfl ?_
       | (refine Hid.h hQ _ _ ?_; clear hQ hA)
       | refine WK.condAny rfl ?_ ?_
       | (refine WK.cond2 rfl (fun h => ?_) (fun h => ?_) <;> (first | (simp [*] at h; done) | (have h2 := h; simp at h2; exfalso; omega) | (have h2 := h; simp at h2; try simp only [Bool.not_eq_true', Bool.not_eq_false'] at h) | skip))
       | (refine Fork.mk (fun h => ?_) (fun h => ?_) <;> (first | (simp [*] at h; done) | (have h2 := h; simp at h2; exfalso; omega) | (have h2 := h; simp at h2; try simp only [Bool.not_eq_true', Bool.not_eq_false'] at h) | skip))
       | (refine WK.regH Try.ntmps7 (by kernel_rfl) ?_; intro A hA Q hQ; simp [gFault, flowMod0E, *])
       | (refine WK.regX (by kernel_rfl) Try.ntmps7 (by kernel_rfl) ?_; intro A hA Q hQ; simp [gFault, flowMod0E, *])
       | (refine Hid.h hQ _ _ _ (by decide +kernel) ?_; clear hQ hA)
       | (refine RunQ.gd rfl (by rw [hA.h]; rfl) ?_; simp [gFault, flowMod0E, *])
       | (refine RunX.gd rfl (by rw [hA.h]; rfl) ?_; simp [gFault, flowMod0E, *])
       | (refine RunQ.callB 201 rfl rfl rfl rfl rfl (ft) ?_ ?_ rfl rfl ?_ ?_ ?_; (focus (simp (maxDischargeDepth := 120) [gFault, flowMod0E, *]; done)); (focus (simp (maxDischargeDepth := 120) [gFault, flowMod0E, *]; done)); (focus (simp [gFault, flowMod0E, *]; done)); (focus (simp [gFault, flowMod0E, *]; done)); refine RunQ.evalH ?_; simp [gFault, flowMod0E, *])
       | (refine RunQW.by (fun hw => ?_); refine RunQ.callB 201 rfl rfl rfl hw rfl (ft) ?_ ?_ rfl rfl ?_ ?_ ?_; (focus (simp (maxDischargeDepth := 120) [gFault, flowMod0E, *]; done)); (focus (simp (maxDischargeDepth := 120) [gFault, flowMod0E, *]; done)); (focus (simp [gFault, flowMod0E, *]; done)); (focus (simp [gFault, flowMod0E, *]; done)); clear hw; refine RunQ.evalH ?_; simp [gFault, flowMod0E, *])
       | (refine RunQ.call rfl rfl rfl rfl rfl ?_ (md) ?_ ?_; (focus (simp (maxDischargeDepth := 120) [gFault, flowMod0E, *]; done)); (focus (simp [gFault, flowMod0E, *]; done)); refine RunQ.evalH ?_; simp [gFault, flowMod0E, *])
       | (refine RunQW.call rfl rfl rfl rfl ?_ (md) ?_ ?_; (focus (simp (maxDischargeDepth := 120) [gFault, flowMod0E, *]; done)); (focus (simp [gFault, flowMod0E, *]; done)); refine RunQ.evalH ?_; simp [gFault, flowMod0E, *])
       | (refine RunX.call rfl rfl rfl rfl ?_ (md) ?_ ?_; (focus (simp (maxDischargeDepth := 120) [gFault, flowMod0E, *]; done)); (focus (simp [gFault, flowMod0E, *]; done)); refine RunX.evalY ?_; simp [gFault, flowMod0E, *])
       | (refine RunXW.call rfl rfl rfl ?_ (md) ?_ ?_; (focus (simp (maxDischargeDepth := 120) [gFault, flowMod0E, *]; done)); (focus (simp [gFault, flowMod0E, *]; done)); refine RunX.evalY ?_; simp [gFault, flowMod0E, *])
       | (refine WK.ret Try.func7 ?_ ?_ <;> simp (maxDischargeDepth := 120) [Try.results7, gFault, flowMod0E, *])
       | fail)
    | none =>
    simp only at hde
    have hn := (mDec_few hM).2
    rw [hdl] at hn
    have id := idecP_c (b.drop (40 + n)) (by rw [List.length_drop]; omega)
    have hel : (b.drop (40 + n)).length = b.length - (40 + n) := by rw [List.length_drop]
    have hsn : ((byL b).drop (40 + n)).take (b.length - (40 + n)) = byL (b.drop (40 + n)) := by rw [byL_drop]; exact by_full _ _ (by rw [List.length_drop])
    have wn : IntKind.i64.wrap (40 + (n : Int)) = ((40 + n : Nat) : Int) := by rw [wrap_i64 (by omega) (by omega)]; omega
    have un : ((40 + n : Nat) : Int) ≤ b.length := by omega
    have vn : 40 + n ≤ b.length := by omega
    obtain ⟨is, q, hI⟩ : ∃ is q, inDec (b.drop (40 + n)) = (is, q) := ⟨_, _, rfl⟩
    rw [hI] at id hde
    simp only at hde
    have hB := fun (h : q = none) => fmB_dec (b := b.drop 40) (e := b.drop (40 + n)) hM (h ▸ hI) (by rw [List.length_drop]; omega) c k N
    simp only [byS, instS, hel] at id
    obtain ⟨E, hE⟩ : ∃ B, b.drop (40 + n) = B := ⟨_, rfl⟩
    rw [hE] at id hsn
    obtain ⟨B40, hB40⟩ : ∃ B, b.drop 40 = B := ⟨_, rfl⟩
    rw [hB40] at md hs40
    obtain ⟨p, hp⟩ : ∃ p, 40 + n = p := ⟨_, rfl⟩
    rw [hp] at id hsn wn un vn
    clear hM hI hdl hel hE hB40 hp hn
    cases q with
    | some q =>
      simp only at hde
      rw [hde, flowMod0_enc]
      clear hde hB hNe hNl
      repeat' (first
       | refine WK.seq ?_
       | refine WK.block ?_
       | refine WK.inBlock ?_
       | refine WK.skip ?_
       | refine WK.label ?_
       | refine WK.scope ?_
       | refine WK.inScope ?_
       | refine WK.exit rfl ?_
       | refine WK.condT rfl ?_
       | refine WK.condF rfl ?_
       | (refine Hid.h hQ _ _ ?_; clear hQ hA)
       | refine WK.condAny rfl ?_ ?_
       | (refine WK.cond2 rfl (fun h => ?_) (fun h => ?_) <;> (first | (simp [*] at h; done) | (have h2 := h; simp at h2; exfalso; omega) | (have h2 := h; simp at h2; try simp only [Bool.not_eq_true', Bool.not_eq_false'] at h) | skip))
       | (refine Fork.mk (fun h => ?_) (fun h => ?_) <;> (first | (simp [*] at h; done) | (have h2 := h; simp at h2; exfalso; omega) | (have h2 := h; simp at h2; try simp only [Bool.not_eq_true', Bool.not_eq_false'] at h) | skip))
       | (refine WK.regH Try.ntmps7 (by kernel_rfl) ?_; intro A hA Q hQ; simp [gFault, flowMod0E, *])
       | (refine WK.regX (by kernel_rfl) Try.ntmps7 (by kernel_rfl) ?_; intro A hA Q hQ; simp [gFault, flowMod0E, *])
       | (refine Hid.h hQ _ _ _ (by decide +kernel) ?_; clear hQ hA)
       | (refine RunQ.gd rfl (by rw [hA.h]; rfl) ?_; simp [gFault, flowMod0E, *])
       | (refine RunX.gd rfl (by rw [hA.h]; rfl) ?_; simp [gFault, flowMod0E, *])
       | (refine RunQ.callB 201 rfl rfl rfl rfl rfl (ft) ?_ ?_ rfl rfl ?_ ?_ ?_; (focus (simp (maxDischargeDepth := 120) [gFault, flowMod0E, *]; done)); (focus (simp (maxDischargeDepth := 120) [gFault, flowMod0E, *]; done)); (focus (simp [gFault, flowMod0E, *]; done)); (focus (simp [gFault, flowMod0E, *]; done)); refine RunQ.evalH ?_; simp [gFault, flowMod0E, *])
       | (refine RunQW.by (fun hw => ?_); refine RunQ.callB 201 rfl rfl rfl hw rfl (ft) ?_ ?_ rfl rfl ?_ ?_ ?_; (focus (simp (maxDischargeDepth := 120) [gFault, flowMod0E, *]; done)); (focus (simp (maxDischargeDepth := 120) [gFault, flowMod0E, *]; done)); (focus (simp [gFault, flowMod0E, *]; done)); (focus (simp [gFault, flowMod0E, *]; done)); clear hw; refine RunQ.evalH ?_; simp [gFault, flowMod0E, *])
       | (refine RunQ.call rfl rfl rfl rfl rfl ?_ (md) ?_ ?_; (focus (simp (maxDischargeDepth := 120) [gFault, flowMod0E, *]; done)); (focus (simp [gFault, flowMod0E, *]; done)); refine RunQ.evalH ?_; simp [gFault, flowMod0E, *])
       | (refine RunQ.call rfl rfl rfl rfl rfl ?_ (id) ?_ ?_; (focus (simp (maxDischargeDepth := 120) [gFault, flowMod0E, *]; done)); (focus (simp [gFault, flowMod0E, *]; done)); refine RunQ.evalH ?_; simp [gFault, flowMod0E, *])
       | (refine RunQW.call rfl rfl rfl rfl ?_ (md) ?_ ?_; (focus (simp (maxDischargeDepth := 120) [gFault, flowMod0E, *]; done)); (focus (simp [gFault, flowMod0E, *]; done)); refine RunQ.evalH ?_; simp [gFault, flowMod0E, *])
       | (refine RunQW.call rfl rfl rfl rfl ?_ (id) ?_ ?_; (focus (simp (maxDischargeDepth := 120) [gFault, flowMod0E, *]; done)); (focus (simp [gFault, flowMod0E, *]; done)); refine RunQ.evalH ?_; simp [gFault, flowMod0E, *])
       | (refine RunX.call rfl rfl rfl rfl ?_ (md) ?_ ?_; (focus (simp (maxDischargeDepth := 120) [gFault, flowMod0E, *]; done)); (focus (simp [gFault, flowMod0E, *]; done)); refine RunX.evalY ?_; simp [gFault, flowMod0E, *])
       | (refine RunX.call rfl rfl rfl rfl ?_ (id) ?_ ?_; (focus (simp (maxDischargeDepth := 120) [gFault, flowMod0E, *]; done)); (focus (simp [gFault, flowMod0E, *]; done)); refine RunX.evalY ?_; simp [gFault, flowMod0E, *])
       | (refine RunXW.call rfl rfl rfl ?_ (md) ?_ ?_; (focus (simp (maxDischargeDepth := 120) [gFault, flowMod0E, *]; done)); (focus (simp [gFault, flowMod0E, *]; done)); refine RunX.evalY ?_; simp [gFault, flowMod0E, *])
       | (refine RunXW.call rfl rfl rfl ?_ (id) ?_ ?_; (focus (simp (maxDischargeDepth := 120) [gFault, flowMod0E, *]; done)); (focus (simp [gFault, flowMod0E, *]; done)); refine RunX.evalY ?_; simp [gFault, flowMod0E, *])
       | (refine WK.ret Try.func7 ?_ ?_ <;> simp (maxDischargeDepth := 120) [Try.results7, gFault, flowMod0E, *])
       | fail)
    | none =>
    simp only at hde
    have ck := fmcheck_c _ (hB rfl)
    rw [hNe] at hde ck
    obtain ⟨C, hC⟩ : ∃ C, fmCheck (fmTake c k [n0, n1, n2, n3, n4, n5, n6, n7, n8] l is) = C := ⟨_, rfl⟩
    rw [hC] at ck hde
    have hT : (fmTake c k [n0, n1, n2, n3, n4, n5, n6, n7, n8] l is).enc = [.int .u64 (uI c), .int .u64 (uI k), .int .i64 n0, .int .i64 n1, .int .i64 n2, .int .i64 n3, .int .i64 n4, .int .i64 n5, .int .i64 n6, .int .i64 n7, .int .i64 n8, .sl false l.length (oxmL l), .sl false is.length (instL is)] := rfl
    rw [hT] at ck
    cases C with
    | some q =>
      simp only at hde
      rw [hde, flowMod0_enc]
      clear hde hB hNe hNl hC hT
      repeat' (first
       | refine WK.seq ?_
       | refine WK.block ?_
       | refine WK.inBlock ?_
       | refine WK.skip ?_
       | refine WK.label ?_
       | refine WK.scope ?_
       | refine WK.inScope ?_
       | refine WK.exit rfl ?_
       | refine WK.condT rfl ?_
       | refine WK.condF rfl ?_
       | (refine Hid.h hQ _ _ ?_; clear hQ hA)
       | refine WK.condAny rfl ?_ ?_
       | (refine WK.cond2 rfl (fun h => ?_) (fun h => ?_) <;> (first | (simp [*] at h; done) | (have h2 := h; simp at h2; exfalso; omega) | (have h2 := h; simp at h2; try simp only [Bool.not_eq_true', Bool.not_eq_false'] at h) | skip))
       | (refine Fork.mk (fun h => ?_) (fun h => ?_) <;> (first | (simp [*] at h; done) | (have h2 := h; simp at h2; exfalso; omega) | (have h2 := h; simp at h2; try simp only [Bool.not_eq_true', Bool.not_eq_false'] at h) | skip))
       | (refine WK.regH Try.ntmps7 (by kernel_rfl) ?_; intro A hA Q hQ; simp [gFault, flowMod0E, splice, *])
       | (refine WK.regX (by kernel_rfl) Try.ntmps7 (by kernel_rfl) ?_; intro A hA Q hQ; simp [gFault, flowMod0E, splice, *])
       | (refine Hid.h hQ _ _ _ (by decide +kernel) ?_; clear hQ hA)
       | (refine RunQ.gd rfl (by rw [hA.h]; rfl) ?_; simp [gFault, flowMod0E, splice, *])
       | (refine RunX.gd rfl (by rw [hA.h]; rfl) ?_; simp [gFault, flowMod0E, splice, *])
       | (refine RunQ.callB 201 rfl rfl rfl rfl rfl (ft) ?_ ?_ rfl rfl ?_ ?_ ?_; (focus (simp (maxDischargeDepth := 120) [gFault, flowMod0E, splice, *]; done)); (focus (simp (maxDischargeDepth := 120) [gFault, flowMod0E, splice, *]; done)); (focus (simp [gFault, flowMod0E, splice, *]; done)); (focus (simp [gFault, flowMod0E, splice, *]; done)); refine RunQ.evalH ?_; simp [gFault, flowMod0E, splice, *])
       | (refine RunQW.by (fun hw => ?_); refine RunQ.callB 201 rfl rfl rfl hw rfl (ft) ?_ ?_ rfl rfl ?_ ?_ ?_; (focus (simp (maxDischargeDepth := 120) [gFault, flowMod0E, splice, *]; done)); (focus (simp (maxDischargeDepth := 120) [gFault, flowMod0E, splice, *]; done)); (focus (simp [gFault, flowMod0E, splice, *]; done)); (focus (simp [gFault, flowMod0E, splice, *]; done)); clear hw; refine RunQ.evalH ?_; simp [gFault, flowMod0E, splice, *])
       | (refine RunQ.call rfl rfl rfl rfl rfl ?_ (md) ?_ ?_; (focus (simp (maxDischargeDepth := 120) [gFault, flowMod0E, splice, *]; done)); (focus (simp [gFault, flowMod0E, splice, *]; done)); refine RunQ.evalH ?_; simp [gFault, flowMod0E, splice, *])
       | (refine RunQ.call rfl rfl rfl rfl rfl ?_ (id) ?_ ?_; (focus (simp (maxDischargeDepth := 120) [gFault, flowMod0E, splice, *]; done)); (focus (simp [gFault, flowMod0E, splice, *]; done)); refine RunQ.evalH ?_; simp [gFault, flowMod0E, splice, *])
       | (refine RunQ.call rfl rfl rfl rfl rfl ?_ (ck) ?_ ?_; (focus (simp (maxDischargeDepth := 120) [gFault, flowMod0E, splice, *]; done)); (focus (simp [gFault, flowMod0E, splice, *]; done)); refine RunQ.evalH ?_; simp [gFault, flowMod0E, splice, *])
       | (refine RunQW.call rfl rfl rfl rfl ?_ (md) ?_ ?_; (focus (simp (maxDischargeDepth := 120) [gFault, flowMod0E, splice, *]; done)); (focus (simp [gFault, flowMod0E, splice, *]; done)); refine RunQ.evalH ?_; simp [gFault, flowMod0E, splice, *])
       | (refine RunQW.call rfl rfl rfl rfl ?_ (id) ?_ ?_; (focus (simp (maxDischargeDepth := 120) [gFault, flowMod0E, splice, *]; done)); (focus (simp [gFault, flowMod0E, splice, *]; done)); refine RunQ.evalH ?_; simp [gFault, flowMod0E, splice, *])
       | (refine RunQW.call rfl rfl rfl rfl ?_ (ck) ?_ ?_; (focus (simp (maxDischargeDepth := 120) [gFault, flowMod0E, splice, *]; done)); (focus (simp [gFault, flowMod0E, splice, *]; done)); refine RunQ.evalH ?_; simp [gFault, flowMod0E, splice, *])
       | (refine RunX.call rfl rfl rfl rfl ?_ (md) ?_ ?_; (focus (simp (maxDischargeDepth := 120) [gFault, flowMod0E, splice, *]; done)); (focus (simp [gFault, flowMod0E, splice, *]; done)); refine RunX.evalY ?_; simp [gFault, flowMod0E, splice, *])
       | (refine RunX.call rfl rfl rfl rfl ?_ (id) ?_ ?_; (focus (simp (maxDischargeDepth := 120) [gFault, flowMod0E, splice, *]; done)); (focus (simp [gFault, flowMod0E, splice, *]; done)); refine RunX.evalY ?_; simp [gFault, flowMod0E, splice, *])
       | (refine RunX.call rfl rfl rfl rfl ?_ (ck) ?_ ?_; (focus (simp (maxDischargeDepth := 120) [gFault, flowMod0E, splice, *]; done)); (focus (simp [gFault, flowMod0E, splice, *]; done)); refine RunX.evalY ?_; simp [gFault, flowMod0E, splice, *])
       | (refine RunXW.call rfl rfl rfl ?_ (md) ?_ ?_; (focus (simp (maxDischargeDepth := 120) [gFault, flowMod0E, splice, *]; done)); (focus (simp [gFault, flowMod0E, splice, *]; done)); refine RunX.evalY ?_; simp [gFault, flowMod0E, splice, *])
       | (refine RunXW.call rfl rfl rfl ?_ (id) ?_ ?_; (focus (simp (maxDischargeDepth := 120) [gFault, flowMod0E, splice, *]; done)); (focus (simp [gFault, flowMod0E, splice, *]; done)); refine RunX.evalY ?_; simp [gFault, flowMod0E, splice, *])
       | (refine RunXW.call rfl rfl rfl ?_ (ck) ?_ ?_; (focus (simp (maxDischargeDepth := 120) [gFault, flowMod0E, splice, *]; done)); (focus (simp [gFault, flowMod0E, splice, *]; done)); refine RunX.evalY ?_; simp [gFault, flowMod0E, splice, *])
       | (refine WK.ret Try.func7 ?_ ?_ <;> simp (maxDischargeDepth := 120) [Try.results7, gFault, flowMod0E, splice, *])
       | fail)
    | none =>
      simp only at hde
      rw [hde]
      simp only
      rw [hT]
      clear hde hB hNe hNl hC hT
      repeat' (first
       | refine WK.seq ?_
       | refine WK.block ?_
       | refine WK.inBlock ?_
       | refine WK.skip ?_
       | refine WK.label ?_
       | refine WK.scope ?_
       | refine WK.inScope ?_
       | refine WK.exit rfl ?_
       | refine WK.condT rfl ?_
       | refine WK.condF rfl ?_
       | (refine Hid.h hQ _ _ ?_; clear hQ hA)
       | refine WK.condAny rfl ?_ ?_
       | (refine WK.cond2 rfl (fun h => ?_) (fun h => ?_) <;> (first | (simp [*] at h; done) | (have h2 := h; simp at h2; exfalso; omega) | (have h2 := h; simp at h2; try simp only [Bool.not_eq_true', Bool.not_eq_false'] at h) | skip))
       | (refine Fork.mk (fun h => ?_) (fun h => ?_) <;> (first | (simp [*] at h; done) | (have h2 := h; simp at h2; exfalso; omega) | (have h2 := h; simp at h2; try simp only [Bool.not_eq_true', Bool.not_eq_false'] at h) | skip))
       | (refine WK.regH Try.ntmps7 (by kernel_rfl) ?_; intro A hA Q hQ; simp [gFault, splice, *])
       | (refine WK.regX (by kernel_rfl) Try.ntmps7 (by kernel_rfl) ?_; intro A hA Q hQ; simp [gFault, splice, *])
       | (refine Hid.h hQ _ _ _ (by decide +kernel) ?_; clear hQ hA)
       | (refine RunQ.gd rfl (by rw [hA.h]; rfl) ?_; simp [gFault, splice, *])
       | (refine RunX.gd rfl (by rw [hA.h]; rfl) ?_; simp [gFault, splice, *])
       | (refine RunQ.callB 201 rfl rfl rfl rfl rfl (ft) ?_ ?_ rfl rfl ?_ ?_ ?_; (focus (simp (maxDischargeDepth := 120) [gFault, splice, *]; done)); (focus (simp (maxDischargeDepth := 120) [gFault, splice, *]; done)); (focus (simp [gFault, splice, *]; done)); (focus (simp [gFault, splice, *]; done)); refine RunQ.evalH ?_; simp [gFault, splice, *])
       | (refine RunQW.by (fun hw => ?_); refine RunQ.callB 201 rfl rfl rfl hw rfl (ft) ?_ ?_ rfl rfl ?_ ?_ ?_; (focus (simp (maxDischargeDepth := 120) [gFault, splice, *]; done)); (focus (simp (maxDischargeDepth := 120) [gFault, splice, *]; done)); (focus (simp [gFault, splice, *]; done)); (focus (simp [gFault, splice, *]; done)); clear hw; refine RunQ.evalH ?_; simp [gFault, splice, *])
       | (refine RunQ.call rfl rfl rfl rfl rfl ?_ (md) ?_ ?_; (focus (simp (maxDischargeDepth := 120) [gFault, splice, *]; done)); (focus (simp [gFault, splice, *]; done)); refine RunQ.evalH ?_; simp [gFault, splice, *])
       | (refine RunQ.call rfl rfl rfl rfl rfl ?_ (id) ?_ ?_; (focus (simp (maxDischargeDepth := 120) [gFault, splice, *]; done)); (focus (simp [gFault, splice, *]; done)); refine RunQ.evalH ?_; simp [gFault, splice, *])
       | (refine RunQ.call rfl rfl rfl rfl rfl ?_ (ck) ?_ ?_; (focus (simp (maxDischargeDepth := 120) [gFault, splice, *]; done)); (focus (simp [gFault, splice, *]; done)); refine RunQ.evalH ?_; simp [gFault, splice, *])
       | (refine RunQW.call rfl rfl rfl rfl ?_ (md) ?_ ?_; (focus (simp (maxDischargeDepth := 120) [gFault, splice, *]; done)); (focus (simp [gFault, splice, *]; done)); refine RunQ.evalH ?_; simp [gFault, splice, *])
       | (refine RunQW.call rfl rfl rfl rfl ?_ (id) ?_ ?_; (focus (simp (maxDischargeDepth := 120) [gFault, splice, *]; done)); (focus (simp [gFault, splice, *]; done)); refine RunQ.evalH ?_; simp [gFault, splice, *])
       | (refine RunQW.call rfl rfl rfl rfl ?_ (ck) ?_ ?_; (focus (simp (maxDischargeDepth := 120) [gFault, splice, *]; done)); (focus (simp [gFault, splice, *]; done)); refine RunQ.evalH ?_; simp [gFault, splice, *])
       | (refine RunX.call rfl rfl rfl rfl ?_ (md) ?_ ?_; (focus (simp (maxDischargeDepth := 120) [gFault, splice, *]; done)); (focus (simp [gFault, splice, *]; done)); refine RunX.evalY ?_; simp [gFault, splice, *])
       | (refine RunX.call rfl rfl rfl rfl ?_ (id) ?_ ?_; (focus (simp (maxDischargeDepth := 120) [gFault, splice, *]; done)); (focus (simp [gFault, splice, *]; done)); refine RunX.evalY ?_; simp [gFault, splice, *])
       | (refine RunX.call rfl rfl rfl rfl ?_ (ck) ?_ ?_; (focus (simp (maxDischargeDepth := 120) [gFault, splice, *]; done)); (focus (simp [gFault, splice, *]; done)); refine RunX.evalY ?_; simp [gFault, splice, *])
       | (refine RunXW.call rfl rfl rfl ?_ (md) ?_ ?_; (focus (simp (maxDischargeDepth := 120) [gFault, splice, *]; done)); (focus (simp [gFault, splice, *]; done)); refine RunX.evalY ?_; simp [gFault, splice, *])
       | (refine RunXW.call rfl rfl rfl ?_ (id) ?_ ?_; (focus (simp (maxDischargeDepth := 120) [gFault, splice, *]; done)); (focus (simp [gFault, splice, *]; done)); refine RunX.evalY ?_; simp [gFault, splice, *])
       | (refine RunXW.call rfl rfl rfl ?_ (ck) ?_ ?_; (focus (simp (maxDischargeDepth := 120) [gFault, splice, *]; done)); (focus (simp [gFault, splice, *]; done)); refine RunX.evalY ?_; simp [gFault, splice, *])
       | (refine WK.ret Try.func7 ?_ ?_ <;> simp (maxDischargeDepth := 120) [Try.results7, gFault, splice, *])
       | fail)
end Go.Proofs.Ytibaiiibjnnlkaa
end

section
set_option linter.unusedVariables false
set_option linter.unusedSimpArgs false
namespace Go.Proofs.Ytibaiiibjnnlkaa
open Go Go.AI Go.Proofs
attribute [local irreducible] FnP FnO FnB FnT FnSeq WK RunQ RunQW RunX RunXW

theorem fmB_plain {m : FlowMod} (h : FlowMod.plain m = true) : FmB m := by
  unfold FlowMod.plain instsPlain at h
  simp only [Bool.and_eq_true, decide_eq_true_eq, List.all_eq_true, actsPlain] at h
  obtain ⟨h1, h2, h3⟩ := h
  exact ⟨by omega, by omega, fun x hx => by have := h3 x hx; omega⟩
theorem fmDec_B {b : List (BitVec 8)} {m : FlowMod} (hb : b.length ≤ 80000) (h : fmDec b = (m, none)) : FmB m := by
  unfold fmDec at h
  split at h
  · cases h
  split at h
  · cases h
  obtain ⟨l, n, c, hm⟩ : ∃ l n c, mDec (b.drop 40) = (l, n, c) := ⟨_, _, _, rfl⟩
  rw [hm] at h
  cases c with
  | some c => simp at h
  | none =>
  simp only at h
  obtain ⟨i, c, hi⟩ : ∃ i c, inDec (b.drop (40 + n)) = (i, c) := ⟨_, _, rfl⟩
  rw [hi] at h
  cases c with
  | some c => simp at h
  | none =>
  simp only at h
  split at h
  · cases h
  · cases h
    exact fmB_dec hm hi (by rw [List.length_drop]; omega) _ _ _
theorem flowMod0_B : FmB flowMod0 := ⟨by simp [flowMod0], by simp [flowMod0], fun x hx => by simp [flowMod0] at hx⟩
def L17 : FlowMod := ⟨5#64, 0#64, 1, 0, 0, 0, 7, 0, 0, 0, 0, [⟨0, false, ⟨0#64, 1#64⟩, wideZ⟩], [⟨5, 0, wideZ, wideZ, []⟩]⟩
def L17b : FlowMod := ⟨0#64, 0#64, 0, 9, 0, 0, 0, 0, 0, 0, 0, [], []⟩
theorem fL17a : (fmEnc L17).1.length = 64 := by kernel_rfl
theorem fL17b : (fmEnc L17).2 = 0 := by kernel_rfl
theorem fL17c : fmDec (fmEnc L17).1 = (L17, none) := by kernel_rfl
theorem fL17d : fmRight L17 = true := by kernel_rfl
theorem fL17e : fmCheck L17b = some (5, 6) := by kernel_rfl
set_option maxHeartbeats 4000000 in
theorem awake17_c : FnP Try.prog 5 [] (.bool true) := by
  have hB : FmB L17 := ⟨by decide, by decide, fun x hx => by simp [L17] at hx; subst hx; simp⟩
  have hB2 : FmB L17b := ⟨by decide, by decide, fun x hx => by simp [L17b] at hx⟩
  have p := fmencP_c L17 hB
  have d := fmdec_c (fmEnc L17).1 (by rw [fL17a]; omega)
  have s := fmsame_c L17 L17 hB
  have r := fmright_c L17 hB
  have c := fmcheck_c L17b hB2
  rw [fL17c] at d
  rw [fL17b] at p
  rw [fL17d] at r
  rw [fL17e] at c
  rw [fmSame_self] at s
  have hl := fL17a
  obtain ⟨B, hBB⟩ : ∃ B, (fmEnc L17).1 = B := ⟨_, rfl⟩
  rw [hBB] at p d hl
  clear hBB hB hB2
  unfold byS at p d
  rw [hl] at p d
  have e1 : L17.enc = [.int .u64 5, .int .u64 0, .int .i64 1, .int .i64 0, .int .i64 0, .int .i64 0, .int .i64 7, .int .i64 0, .int .i64 0, .int .i64 0, .int .i64 0, .sl false 1 [.int .i64 0, .bool false, .int .u64 0, .int .u64 1, .int .u64 0, .int .u64 0], .sl false 1 [.int .i64 5, .int .i64 0, .int .u64 0, .int .u64 0, .int .u64 0, .int .u64 0, .sl false 0 []]] := rfl
  have e2 : L17b.enc = [.int .u64 0, .int .u64 0, .int .i64 0, .int .i64 9, .int .i64 0, .int .i64 0, .int .i64 0, .int .i64 0, .int .i64 0, .int .i64 0, .int .i64 0, .sl false 0 [], .sl false 0 []] := rfl
  simp only [e1, e2, gFault] at p d s r c
  refine FnP.intro Try.func5 rfl rfl fun G w => ?_
  repeat' (first
   | refine WK.seq ?_
   | refine WK.block ?_
   | refine WK.inBlock ?_
   | refine WK.skip ?_
   | refine WK.label ?_
   | refine WK.scope ?_
   | refine WK.inScope ?_
   | refine WK.exit rfl ?_
   | refine WK.condT rfl ?_
   | refine WK.condF rfl ?_
   | (refine Hid.h hQ _ _ ?_; clear hQ hA)
   | refine WK.condAny rfl ?_ ?_
   | (refine WK.cond2 rfl (fun h => ?_) (fun h => ?_) <;> (first | (simp [*] at h; done) | (have h2 := h; simp at h2; exfalso; omega) | (have h2 := h; simp at h2; try simp only [Bool.not_eq_true', Bool.not_eq_false'] at h) | skip))
   | (refine Fork.mk (fun h => ?_) (fun h => ?_) <;> (first | (simp [*] at h; done) | (have h2 := h; simp at h2; exfalso; omega) | (have h2 := h; simp at h2; try simp only [Bool.not_eq_true', Bool.not_eq_false'] at h) | skip))
   | (refine WK.regH Try.ntmps5 (by kernel_rfl) ?_; intro A hA Q hQ; simp [*])
   | (refine RunQ.gd rfl (by rw [hA.h]; rfl) ?_; simp [*])
   | (refine RunQ.call rfl rfl rfl rfl rfl ?_ (p) ?_ ?_; (focus (simp (maxDischargeDepth := 120) [*]; done)); (focus (simp [*]; done)); refine RunQ.evalH ?_; simp [*])
   | (refine RunQ.call rfl rfl rfl rfl rfl ?_ (d) ?_ ?_; (focus (simp (maxDischargeDepth := 120) [*]; done)); (focus (simp [*]; done)); refine RunQ.evalH ?_; simp [*])
   | (refine RunQ.call rfl rfl rfl rfl rfl ?_ (s) ?_ ?_; (focus (simp (maxDischargeDepth := 120) [*]; done)); (focus (simp [*]; done)); refine RunQ.evalH ?_; simp [*])
   | (refine RunQ.call rfl rfl rfl rfl rfl ?_ (r) ?_ ?_; (focus (simp (maxDischargeDepth := 120) [*]; done)); (focus (simp [*]; done)); refine RunQ.evalH ?_; simp [*])
   | (refine RunQ.call rfl rfl rfl rfl rfl ?_ (c) ?_ ?_; (focus (simp (maxDischargeDepth := 120) [*]; done)); (focus (simp [*]; done)); refine RunQ.evalH ?_; simp [*])
   | (refine RunQW.call rfl rfl rfl rfl ?_ (p) ?_ ?_; (focus (simp (maxDischargeDepth := 120) [*]; done)); (focus (simp [*]; done)); refine RunQ.evalH ?_; simp [*])
   | (refine RunQW.call rfl rfl rfl rfl ?_ (d) ?_ ?_; (focus (simp (maxDischargeDepth := 120) [*]; done)); (focus (simp [*]; done)); refine RunQ.evalH ?_; simp [*])
   | (refine RunQW.call rfl rfl rfl rfl ?_ (s) ?_ ?_; (focus (simp (maxDischargeDepth := 120) [*]; done)); (focus (simp [*]; done)); refine RunQ.evalH ?_; simp [*])
   | (refine RunQW.call rfl rfl rfl rfl ?_ (r) ?_ ?_; (focus (simp (maxDischargeDepth := 120) [*]; done)); (focus (simp [*]; done)); refine RunQ.evalH ?_; simp [*])
   | (refine RunQW.call rfl rfl rfl rfl ?_ (c) ?_ ?_; (focus (simp (maxDischargeDepth := 120) [*]; done)); (focus (simp [*]; done)); refine RunQ.evalH ?_; simp [*])
   | (refine WK.ret Try.func5 ?_ ?_ <;> simp (maxDischargeDepth := 120) [Try.results5, *])
   | fail)
set_option maxHeartbeats 4000000 in
theorem flowmodBack_c (m : FlowMod) (b : List (BitVec 8)) : FnP Try.prog 3 [.agg m.enc, byS b] (.bool true) := by
  have p1 := pMod_c m
  cases h1 : FlowMod.plain m
  · rw [h1] at p1
    simp only [byS] at *
    unfold FlowMod.enc at *
    refine FnP.intro Try.func3 rfl rfl fun G w => ?_
    repeat' (first
     | refine WK.seq ?_
     | refine WK.block ?_
     | refine WK.inBlock ?_
     | refine WK.skip ?_
     | refine WK.label ?_
     | refine WK.scope ?_
     | refine WK.inScope ?_
     | refine WK.exit rfl ?_
     | refine WK.condT rfl ?_
     | refine WK.condF rfl ?_
     | (refine Hid.h hQ _ _ ?_; clear hQ hA)
     | refine WK.condAny rfl ?_ ?_
     | (refine WK.cond2 rfl (fun h => ?_) (fun h => ?_) <;> (first | (simp [*] at h; done) | (have h2 := h; simp at h2; exfalso; omega) | (have h2 := h; simp at h2; try simp only [Bool.not_eq_true', Bool.not_eq_false'] at h) | skip))
     | (refine Fork.mk (fun h => ?_) (fun h => ?_) <;> (first | (simp [*] at h; done) | (have h2 := h; simp at h2; exfalso; omega) | (have h2 := h; simp at h2; try simp only [Bool.not_eq_true', Bool.not_eq_false'] at h) | skip))
     | (refine WK.regH Try.ntmps3 (by kernel_rfl) ?_; intro A hA Q hQ; simp [*])
     | (refine RunQ.gd rfl (by rw [hA.h]; rfl) ?_; simp [*])
     | (refine RunQ.call rfl rfl rfl rfl rfl ?_ (p1) ?_ ?_; (focus (simp (maxDischargeDepth := 120) [*]; done)); (focus (simp [*]; done)); refine RunQ.evalH ?_; simp [*])
     | (refine RunQ.call rfl rfl rfl rfl rfl ?_ (awake17_c) ?_ ?_; (focus (simp (maxDischargeDepth := 120) [*]; done)); (focus (simp [*]; done)); refine RunQ.evalH ?_; simp [*])
     | (refine RunQW.call rfl rfl rfl rfl ?_ (p1) ?_ ?_; (focus (simp (maxDischargeDepth := 120) [*]; done)); (focus (simp [*]; done)); refine RunQ.evalH ?_; simp [*])
     | (refine RunQW.call rfl rfl rfl rfl ?_ (awake17_c) ?_ ?_; (focus (simp (maxDischargeDepth := 120) [*]; done)); (focus (simp [*]; done)); refine RunQ.evalH ?_; simp [*])
     | (refine WK.ret Try.func3 ?_ ?_ <;> simp (maxDischargeDepth := 120) [Try.results3, *])
     | fail)
  rw [h1] at p1
  by_cases g2 : 4000 < b.length
  · have g2' : (4000 : Int) < b.length := by omega
    simp only [byS] at *
    unfold FlowMod.enc at *
    clear h1
    refine FnP.intro Try.func3 rfl rfl fun G w => ?_
    repeat' (first
     | refine WK.seq ?_
     | refine WK.block ?_
     | refine WK.inBlock ?_
     | refine WK.skip ?_
     | refine WK.label ?_
     | refine WK.scope ?_
     | refine WK.inScope ?_
     | refine WK.exit rfl ?_
     | refine WK.condT rfl ?_
     | refine WK.condF rfl ?_
     | (refine Hid.h hQ _ _ ?_; clear hQ hA)
     | refine WK.condAny rfl ?_ ?_
     | (refine WK.cond2 rfl (fun h => ?_) (fun h => ?_) <;> (first | (simp [*] at h; done) | (have h2 := h; simp at h2; exfalso; omega) | (have h2 := h; simp at h2; try simp only [Bool.not_eq_true', Bool.not_eq_false'] at h) | skip))
     | (refine Fork.mk (fun h => ?_) (fun h => ?_) <;> (first | (simp [*] at h; done) | (have h2 := h; simp at h2; exfalso; omega) | (have h2 := h; simp at h2; try simp only [Bool.not_eq_true', Bool.not_eq_false'] at h) | skip))
     | (refine WK.regH Try.ntmps3 (by kernel_rfl) ?_; intro A hA Q hQ; simp [*])
     | (refine RunQ.gd rfl (by rw [hA.h]; rfl) ?_; simp [*])
     | (refine RunQ.call rfl rfl rfl rfl rfl ?_ (p1) ?_ ?_; (focus (simp (maxDischargeDepth := 120) [*]; done)); (focus (simp [*]; done)); refine RunQ.evalH ?_; simp [*])
     | (refine RunQ.call rfl rfl rfl rfl rfl ?_ (awake17_c) ?_ ?_; (focus (simp (maxDischargeDepth := 120) [*]; done)); (focus (simp [*]; done)); refine RunQ.evalH ?_; simp [*])
     | (refine RunQW.call rfl rfl rfl rfl ?_ (p1) ?_ ?_; (focus (simp (maxDischargeDepth := 120) [*]; done)); (focus (simp [*]; done)); refine RunQ.evalH ?_; simp [*])
     | (refine RunQW.call rfl rfl rfl rfl ?_ (awake17_c) ?_ ?_; (focus (simp (maxDischargeDepth := 120) [*]; done)); (focus (simp [*]; done)); refine RunQ.evalH ?_; simp [*])
     | (refine WK.ret Try.func3 ?_ ?_ <;> simp (maxDischargeDepth := 120) [Try.results3, *])
     | fail)
  have g2' : ¬ (4000 : Int) < b.length := by omega
  have hm := fmB_plain h1
  have p := fmencP_c m hm
  have hEl := fmEnc_len m
  have dd := fmdec_c (fmEnc m).1 (by omega)
  have s := fmsame_c m m hm
  rw [fmSame_self] at s
  have d2 := fmdec_c b (by omega)
  simp only [byS] at d2 ⊢
  clear h1
  unfold FlowMod.enc at p1 p s ⊢
  refine FnP.intro Try.func3 rfl rfl fun G w => ?_
  repeat (first | refine WK.seq ?_ | refine WK.block ?_ | refine WK.inBlock ?_ | refine WK.skip ?_ | refine WK.label ?_ | refine WK.scope ?_ | refine WK.inScope ?_ | refine WK.exit rfl ?_)
  apply WK.cut (⟨(upd J 1 (.sl false b.length (byL b))), B0, 0⟩ : St)
  · intro hcut
    cases hr : fmRight m
    · have e := fmEnc_bad hr
      rw [e] at p
      simp only [byS] at p
      clear e hr
      repeat' (first
       | refine WK.seq ?_
       | refine WK.block ?_
       | refine WK.inBlock ?_
       | refine WK.skip ?_
       | refine WK.label ?_
       | refine WK.scope ?_
       | refine WK.inScope ?_
       | refine WK.exit rfl ?_
       | refine WK.condT rfl ?_
       | refine WK.condF rfl ?_
       | (refine Hid.h hQ _ _ ?_; clear hQ hA)
       | refine WK.condAny rfl ?_ ?_
       | (refine WK.cond2 rfl (fun h => ?_) (fun h => ?_) <;> (first | (simp [*] at h; done) | (have h2 := h; simp at h2; exfalso; omega) | (have h2 := h; simp at h2; try simp only [Bool.not_eq_true', Bool.not_eq_false'] at h) | skip))
       | (refine Fork.mk (fun h => ?_) (fun h => ?_) <;> (first | (simp [*] at h; done) | (have h2 := h; simp at h2; exfalso; omega) | (have h2 := h; simp at h2; try simp only [Bool.not_eq_true', Bool.not_eq_false'] at h) | skip))
       | (refine WK.regH (id := 0) Try.ntmps3 (by kernel_rfl) ?_; intro A hA Q hQ; simp [*])
       | (refine WK.regH (id := 1) Try.ntmps3 (by kernel_rfl) ?_; intro A hA Q hQ; simp [*])
       | (refine WK.regH (id := 2) Try.ntmps3 (by kernel_rfl) ?_; intro A hA Q hQ; simp [*])
       | (refine WK.regH (id := 3) Try.ntmps3 (by kernel_rfl) ?_; intro A hA Q hQ; simp [*])
       | (refine WK.regH (id := 4) Try.ntmps3 (by kernel_rfl) ?_; intro A hA Q hQ; simp [*])
       | (refine WK.regH (id := 5) Try.ntmps3 (by kernel_rfl) ?_; intro A hA Q hQ; simp [*])
       | (refine WK.regH (id := 6) Try.ntmps3 (by kernel_rfl) ?_; intro A hA Q hQ; simp [*])
       | (refine WK.regH (id := 7) Try.ntmps3 (by kernel_rfl) ?_; intro A hA Q hQ; simp [*])
       | (refine RunQ.gd rfl (by rw [hA.h]; rfl) ?_; simp [*])
       | (refine RunQ.call rfl rfl rfl rfl rfl ?_ (p1) ?_ ?_; (focus (simp (maxDischargeDepth := 120) [*]; done)); (focus (simp [*]; done)); refine RunQ.evalH ?_; simp [*])
       | (refine RunQ.call rfl rfl rfl rfl rfl ?_ (p) ?_ ?_; (focus (simp (maxDischargeDepth := 120) [*]; done)); (focus (simp [*]; done)); refine RunQ.evalH ?_; simp [*])
       | (refine RunQW.call rfl rfl rfl rfl ?_ (p1) ?_ ?_; (focus (simp (maxDischargeDepth := 120) [*]; done)); (focus (simp [*]; done)); refine RunQ.evalH ?_; simp [*])
       | (refine RunQW.call rfl rfl rfl rfl ?_ (p) ?_ ?_; (focus (simp (maxDischargeDepth := 120) [*]; done)); (focus (simp [*]; done)); refine RunQ.evalH ?_; simp [*])
       | fail)
      repeat (first | refine WK.seq ?_ | refine WK.block ?_ | refine WK.inBlock ?_ | refine WK.skip ?_ | refine WK.label ?_ | refine WK.scope ?_ | refine WK.inScope ?_ | refine WK.exit rfl ?_)
      refine WK.next (fun n => n) hcut (by repeat (first | exact TmW.nil | refine TmW.upd ?_ (by simp (maxDischargeDepth := 120)))) (by repeat (first | exact BxW.nil | refine BxW.upd ?_ (by simp (maxDischargeDepth := 120)))) (by first | exact InjW.id | exact InjW.nil | exact InjW.one | exact InjW.two (by simp) | exact InjW.three (by simp) (by simp) (by simp))
    · have e := fmEnc_back hr
      have e2 : (fmEnc m).2 = 0 := by unfold fmEnc; rw [if_pos hr]
      rw [e] at dd
      rw [e2] at p
      simp only [byS] at p dd
      unfold FlowMod.enc at dd
      clear e hr e2
      repeat' (first
       | refine WK.seq ?_
       | refine WK.block ?_
       | refine WK.inBlock ?_
       | refine WK.skip ?_
       | refine WK.label ?_
       | refine WK.scope ?_
       | refine WK.inScope ?_
       | refine WK.exit rfl ?_
       | refine WK.condT rfl ?_
       | refine WK.condF rfl ?_
       | (refine Hid.h hQ _ _ ?_; clear hQ hA)
       | refine WK.condAny rfl ?_ ?_
       | (refine WK.cond2 rfl (fun h => ?_) (fun h => ?_) <;> (first | (simp [*] at h; done) | (have h2 := h; simp at h2; exfalso; omega) | (have h2 := h; simp at h2; try simp only [Bool.not_eq_true', Bool.not_eq_false'] at h) | skip))
       | (refine Fork.mk (fun h => ?_) (fun h => ?_) <;> (first | (simp [*] at h; done) | (have h2 := h; simp at h2; exfalso; omega) | (have h2 := h; simp at h2; try simp only [Bool.not_eq_true', Bool.not_eq_false'] at h) | skip))
       | (refine WK.regH (id := 0) Try.ntmps3 (by kernel_rfl) ?_; intro A hA Q hQ; simp [gFault, bne, *])
       | (refine WK.regH (id := 1) Try.ntmps3 (by kernel_rfl) ?_; intro A hA Q hQ; simp [gFault, bne, *])
       | (refine WK.regH (id := 2) Try.ntmps3 (by kernel_rfl) ?_; intro A hA Q hQ; simp [gFault, bne, *])
       | (refine WK.regH (id := 3) Try.ntmps3 (by kernel_rfl) ?_; intro A hA Q hQ; simp [gFault, bne, *])
       | (refine WK.regH (id := 4) Try.ntmps3 (by kernel_rfl) ?_; intro A hA Q hQ; simp [gFault, bne, *])
       | (refine WK.regH (id := 5) Try.ntmps3 (by kernel_rfl) ?_; intro A hA Q hQ; simp [gFault, bne, *])
       | (refine WK.regH (id := 6) Try.ntmps3 (by kernel_rfl) ?_; intro A hA Q hQ; simp [gFault, bne, *])
       | (refine WK.regH (id := 7) Try.ntmps3 (by kernel_rfl) ?_; intro A hA Q hQ; simp [gFault, bne, *])
       | (refine RunQ.gd rfl (by rw [hA.h]; rfl) ?_; simp [gFault, bne, *])
       | (refine RunQ.call rfl rfl rfl rfl rfl ?_ (p1) ?_ ?_; (focus (simp (maxDischargeDepth := 120) [gFault, bne, *]; done)); (focus (simp [gFault, bne, *]; done)); refine RunQ.evalH ?_; simp [gFault, bne, *])
       | (refine RunQ.call rfl rfl rfl rfl rfl ?_ (p) ?_ ?_; (focus (simp (maxDischargeDepth := 120) [gFault, bne, *]; done)); (focus (simp [gFault, bne, *]; done)); refine RunQ.evalH ?_; simp [gFault, bne, *])
       | (refine RunQ.call rfl rfl rfl rfl rfl ?_ (dd) ?_ ?_; (focus (simp (maxDischargeDepth := 120) [gFault, bne, *]; done)); (focus (simp [gFault, bne, *]; done)); refine RunQ.evalH ?_; simp [gFault, bne, *])
       | (refine RunQ.call rfl rfl rfl rfl rfl ?_ (s) ?_ ?_; (focus (simp (maxDischargeDepth := 120) [gFault, bne, *]; done)); (focus (simp [gFault, bne, *]; done)); refine RunQ.evalH ?_; simp [gFault, bne, *])
       | (refine RunQW.call rfl rfl rfl rfl ?_ (p1) ?_ ?_; (focus (simp (maxDischargeDepth := 120) [gFault, bne, *]; done)); (focus (simp [gFault, bne, *]; done)); refine RunQ.evalH ?_; simp [gFault, bne, *])
       | (refine RunQW.call rfl rfl rfl rfl ?_ (p) ?_ ?_; (focus (simp (maxDischargeDepth := 120) [gFault, bne, *]; done)); (focus (simp [gFault, bne, *]; done)); refine RunQ.evalH ?_; simp [gFault, bne, *])
       | (refine RunQW.call rfl rfl rfl rfl ?_ (dd) ?_ ?_; (focus (simp (maxDischargeDepth := 120) [gFault, bne, *]; done)); (focus (simp [gFault, bne, *]; done)); refine RunQ.evalH ?_; simp [gFault, bne, *])
       | (refine RunQW.call rfl rfl rfl rfl ?_ (s) ?_ ?_; (focus (simp (maxDischargeDepth := 120) [gFault, bne, *]; done)); (focus (simp [gFault, bne, *]; done)); refine RunQ.evalH ?_; simp [gFault, bne, *])
       | fail)
      repeat (first | refine WK.seq ?_ | refine WK.block ?_ | refine WK.inBlock ?_ | refine WK.skip ?_ | refine WK.label ?_ | refine WK.scope ?_ | refine WK.inScope ?_ | refine WK.exit rfl ?_)
      refine WK.next (fun n => n) hcut (by repeat (first | exact TmW.nil | refine TmW.upd ?_ (by simp (maxDischargeDepth := 120)))) (by repeat (first | exact BxW.nil | refine BxW.upd ?_ (by simp (maxDischargeDepth := 120)))) (by first | exact InjW.id | exact InjW.nil | exact InjW.one | exact InjW.two (by simp) | exact InjW.three (by simp) (by simp) (by simp))
  obtain ⟨R, hR⟩ : ∃ R, fmDec b = R := ⟨_, rfl⟩
  rw [hR] at d2
  obtain ⟨k, f⟩ := R
  cases f with
  | some c =>
    have e := fmDec_bad hR
    subst e
    have s0 := fmsame_c flowMod0 flowMod0 flowMod0_B
    rw [fmSame_self] at s0
    simp only [flowMod0_enc, flowMod0E] at d2 s0
    clear hR
    repeat' (first
     | refine WK.seq ?_
     | refine WK.block ?_
     | refine WK.inBlock ?_
     | refine WK.skip ?_
     | refine WK.label ?_
     | refine WK.scope ?_
     | refine WK.inScope ?_
     | refine WK.exit rfl ?_
     | refine WK.condT rfl ?_
     | refine WK.condF rfl ?_
     | (refine Hid.h hQ _ _ ?_; clear hQ hA)
     | refine WK.condAny rfl ?_ ?_
     | (refine WK.cond2 rfl (fun h => ?_) (fun h => ?_) <;> (first | (simp [*] at h; done) | (have h2 := h; simp at h2; exfalso; omega) | (have h2 := h; simp at h2; try simp only [Bool.not_eq_true', Bool.not_eq_false'] at h) | skip))
     | (refine Fork.mk (fun h => ?_) (fun h => ?_) <;> (first | (simp [*] at h; done) | (have h2 := h; simp at h2; exfalso; omega) | (have h2 := h; simp at h2; try simp only [Bool.not_eq_true', Bool.not_eq_false'] at h) | skip))
     | (refine WK.regH Try.ntmps3 (by kernel_rfl) ?_; intro A hA Q hQ; simp [gFault, *])
     | (refine RunQ.gd rfl (by rw [hA.h]; rfl) ?_; simp [gFault, *])
     | (refine RunQ.call rfl rfl rfl rfl rfl ?_ (d2) ?_ ?_; (focus (simp (maxDischargeDepth := 120) [gFault, *]; done)); (focus (simp [gFault, *]; done)); refine RunQ.evalH ?_; simp [gFault, *])
     | (refine RunQ.call rfl rfl rfl rfl rfl ?_ (s0) ?_ ?_; (focus (simp (maxDischargeDepth := 120) [gFault, *]; done)); (focus (simp [gFault, *]; done)); refine RunQ.evalH ?_; simp [gFault, *])
     | (refine RunQ.call rfl rfl rfl rfl rfl ?_ (awake17_c) ?_ ?_; (focus (simp (maxDischargeDepth := 120) [gFault, *]; done)); (focus (simp [gFault, *]; done)); refine RunQ.evalH ?_; simp [gFault, *])
     | (refine RunQW.call rfl rfl rfl rfl ?_ (d2) ?_ ?_; (focus (simp (maxDischargeDepth := 120) [gFault, *]; done)); (focus (simp [gFault, *]; done)); refine RunQ.evalH ?_; simp [gFault, *])
     | (refine RunQW.call rfl rfl rfl rfl ?_ (s0) ?_ ?_; (focus (simp (maxDischargeDepth := 120) [gFault, *]; done)); (focus (simp [gFault, *]; done)); refine RunQ.evalH ?_; simp [gFault, *])
     | (refine RunQW.call rfl rfl rfl rfl ?_ (awake17_c) ?_ ?_; (focus (simp (maxDischargeDepth := 120) [gFault, *]; done)); (focus (simp [gFault, *]; done)); refine RunQ.evalH ?_; simp [gFault, *])
     | (refine WK.ret Try.func3 ?_ ?_ <;> simp (maxDischargeDepth := 120) [Try.results3, gFault, *])
     | fail)
  | none =>
    obtain ⟨hr, e⟩ := fmDec_again hR
    have hk := fmDec_B (by omega) hR
    have p2 := fmencP_c k hk
    have r2 := fmright_c k hk
    rw [e] at p2
    rw [hr] at r2
    have q := bequal_c b b (by omega)
    rw [beq_self_eq_true] at q
    simp only [byS] at p2 q d2
    unfold FlowMod.enc at p2 r2 d2
    clear hR e hr hk
    repeat' (first
     | refine WK.seq ?_
     | refine WK.block ?_
     | refine WK.inBlock ?_
     | refine WK.skip ?_
     | refine WK.label ?_
     | refine WK.scope ?_
     | refine WK.inScope ?_
     | refine WK.exit rfl ?_
     | refine WK.condT rfl ?_
     | refine WK.condF rfl ?_
     | (refine Hid.h hQ _ _ ?_; clear hQ hA)
     | refine WK.condAny rfl ?_ ?_
     | (refine WK.cond2 rfl (fun h => ?_) (fun h => ?_) <;> (first | (simp [*] at h; done) | (have h2 := h; simp at h2; exfalso; omega) | (have h2 := h; simp at h2; try simp only [Bool.not_eq_true', Bool.not_eq_false'] at h) | skip))
     | (refine Fork.mk (fun h => ?_) (fun h => ?_) <;> (first | (simp [*] at h; done) | (have h2 := h; simp at h2; exfalso; omega) | (have h2 := h; simp at h2; try simp only [Bool.not_eq_true', Bool.not_eq_false'] at h) | skip))
     | (refine WK.regH Try.ntmps3 (by kernel_rfl) ?_; intro A hA Q hQ; simp [gFault, *])
     | (refine RunQ.gd rfl (by rw [hA.h]; rfl) ?_; simp [gFault, *])
     | (refine RunQ.call rfl rfl rfl rfl rfl ?_ (d2) ?_ ?_; (focus (simp (maxDischargeDepth := 120) [gFault, *]; done)); (focus (simp [gFault, *]; done)); refine RunQ.evalH ?_; simp [gFault, *])
     | (refine RunQ.call rfl rfl rfl rfl rfl ?_ (p2) ?_ ?_; (focus (simp (maxDischargeDepth := 120) [gFault, *]; done)); (focus (simp [gFault, *]; done)); refine RunQ.evalH ?_; simp [gFault, *])
     | (refine RunQ.call rfl rfl rfl rfl rfl ?_ (q) ?_ ?_; (focus (simp (maxDischargeDepth := 120) [gFault, *]; done)); (focus (simp [gFault, *]; done)); refine RunQ.evalH ?_; simp [gFault, *])
     | (refine RunQ.call rfl rfl rfl rfl rfl ?_ (r2) ?_ ?_; (focus (simp (maxDischargeDepth := 120) [gFault, *]; done)); (focus (simp [gFault, *]; done)); refine RunQ.evalH ?_; simp [gFault, *])
     | (refine RunQ.call rfl rfl rfl rfl rfl ?_ (awake17_c) ?_ ?_; (focus (simp (maxDischargeDepth := 120) [gFault, *]; done)); (focus (simp [gFault, *]; done)); refine RunQ.evalH ?_; simp [gFault, *])
     | (refine RunQW.call rfl rfl rfl rfl ?_ (d2) ?_ ?_; (focus (simp (maxDischargeDepth := 120) [gFault, *]; done)); (focus (simp [gFault, *]; done)); refine RunQ.evalH ?_; simp [gFault, *])
     | (refine RunQW.call rfl rfl rfl rfl ?_ (p2) ?_ ?_; (focus (simp (maxDischargeDepth := 120) [gFault, *]; done)); (focus (simp [gFault, *]; done)); refine RunQ.evalH ?_; simp [gFault, *])
     | (refine RunQW.call rfl rfl rfl rfl ?_ (q) ?_ ?_; (focus (simp (maxDischargeDepth := 120) [gFault, *]; done)); (focus (simp [gFault, *]; done)); refine RunQ.evalH ?_; simp [gFault, *])
     | (refine RunQW.call rfl rfl rfl rfl ?_ (r2) ?_ ?_; (focus (simp (maxDischargeDepth := 120) [gFault, *]; done)); (focus (simp [gFault, *]; done)); refine RunQ.evalH ?_; simp [gFault, *])
     | (refine RunQW.call rfl rfl rfl rfl ?_ (awake17_c) ?_ ?_; (focus (simp (maxDischargeDepth := 120) [gFault, *]; done)); (focus (simp [gFault, *]; done)); refine RunQ.evalH ?_; simp [gFault, *])
     | (refine WK.ret Try.func3 ?_ ?_ <;> simp (maxDischargeDepth := 120) [Try.results3, gFault, *])
     | fail)
end Go.Proofs.Ytibaiiibjnnlkaa
end
