/- Changes of flows: read by the program. -/
import Derived.Test.YtiifjagnhnchoaaGreatWk11
set_option linter.all false
set_option linter.unnecessarySimpa false
section
set_option linter.unusedVariables false
set_option linter.unusedSimpArgs false
namespace Go.Proofs.YtiifjagnhnchoaaGreat
open Go Go.AI Go.Proofs
attribute [local irreducible] FnP FnO FnB FnT FnSeq WK RunQ RunQW RunX RunXW

theorem or_zero8 (x y : BitVec 8) : (bOr .u8 (bI x) (bI y) == 0) = (x == 0#8 && y == 0#8) := by
  have hx : BitVec.ofInt 8 (bI x) = x := by unfold bI; simp
  have hy : BitVec.ofInt 8 (bI y) = y := by unfold bI; simp
  have h : bOr .u8 (bI x) (bI y) = bI (x ||| y) := by
    unfold bOr
    show IntKind.wrap .u8 (((BitVec.ofInt 8 (bI x) ||| BitVec.ofInt 8 (bI y)).toNat : Nat) : Int) = _
    rw [hx, hy, wrap_u8]
    simp
  rw [h, bI_zero, Bool.eq_iff_iff, Bool.and_eq_true, beq_iff_eq, beq_iff_eq, beq_iff_eq]
  constructor
  · intro h
    have hb : ∀ i, i < 8 → x.getLsbD i = false ∧ y.getLsbD i = false := fun i hi => by
      have := congrArg (fun z => z.getLsbD i) h
      simpa using this
    exact ⟨BitVec.eq_of_getLsbD_eq fun i hi => by rw [(hb i hi).1]; simp, BitVec.eq_of_getLsbD_eq fun i hi => by rw [(hb i hi).2]; simp⟩
  · rintro ⟨rfl, rfl⟩; rfl
theorem allZ_two {b : List (BitVec 8)} {p : Nat} (h : p + 2 ≤ b.length) : allZ ((b.drop p).take 2) = (nth b p == 0#8 && nth b (p + 1) == 0#8) := by
  have : (b.drop p).take 2 = [nth b p, nth b (p + 1)] := by
    rw [nth_eq (by omega), nth_eq (by omega), List.drop_eq_getElem_cons (by omega), List.drop_eq_getElem_cons (by omega)]; rfl
  rw [this]; simp [allZ]
theorem nsRead_nth : ∀ (ss : List Nat) (b : List (BitVec 8)) (p i : Nat), i < ss.length → nth (nsRead ss b p) i = (getN b (p + (ss.take i).sum) (nth ss i)).1
  | [], _, _, i, h => by simp at h
  | s :: ss, b, p, 0, h => rfl
  | s :: ss, b, p, i + 1, h => by
    have := nsRead_nth ss b (p + s) i (by simpa using h)
    rw [nsRead, List.take_succ_cons, List.sum_cons, ← Nat.add_assoc]
    exact this
def fmAt (i : Nat) : Nat := 16 + (fmSizes.take i).sum
theorem fmAt_succ {i : Nat} (h : i < 9) : fmAt (i + 1) = fmAt i + nth fmSizes i := by
  unfold fmAt; rw [take_nth (l := fmSizes) (i := i) h, List.sum_append]; simp; omega
theorem fmAt_le : ∀ i : Nat, i < 9 → fmAt i + nth fmSizes i ≤ 38 := by
  intro i hi
  have : i = 0 ∨ i = 1 ∨ i = 2 ∨ i = 3 ∨ i = 4 ∨ i = 5 ∨ i = 6 ∨ i = 7 ∨ i = 8 := by omega
  rcases this with rfl | rfl | rfl | rfl | rfl | rfl | rfl | rfl | rfl <;> decide
/-- nine numbers, the first i of which are read -/
def fmPart (N : List Int) (i : Nat) : List AV := intL (N.take i) ++ List.replicate (9 - i) (.int .i64 0)
theorem fmPart_set {N : List Int} (hN : N.length = 9) {i : Nat} (h : i < 9) : splice (fmPart N i) i [.int .i64 (nth N i)] = fmPart N (i + 1) := by
  unfold splice fmPart
  have hl : (intL (N.take i)).length = i := by rw [intL_len, List.length_take]; omega
  have hr : List.replicate (9 - i) (AV.int .i64 0) = .int .i64 0 :: List.replicate (9 - (i + 1)) (.int .i64 0) := by rw [show 9 - i = (9 - (i + 1)) + 1 by omega]; rfl
  rw [List.take_left' hl, hr, List.append_assoc, List.drop_append, hl, show i + [AV.int .i64 (nth N i)].length - i = 1 by simp, List.drop_of_length_le (by rw [hl]; simp), take_nth (by omega)]
  unfold intL
  simp
theorem fmPart_len {N : List Int} (hN : N.length = 9) (i : Nat) (h : i ≤ 9) : (fmPart N i).length = 9 := by
  unfold fmPart; simp; omega
theorem ClL_rep (n : Nat) : ClL (List.replicate n (AV.int .i64 0)) = true := by
  induction n with
  | zero => rfl
  | succ n ih => rw [List.replicate_succ]; simp [ClL, Cl, ih]
@[simp] theorem fmPart_cl (N : List Int) (i : Nat) : ClL (fmPart N i) = true := by unfold fmPart; rw [ClL_append, ClL_rep]; simp
theorem fmPart_all {N : List Int} (hN : N.length = 9) : fmPart N 9 = intL N := by unfold fmPart; rw [List.take_of_length_le (by omega)]; simp
theorem ftake_c (c k n0 n1 n2 n3 n4 n5 n6 n7 n8 : Int) :
    FnB Tryz.prog 22 [.ptr 0 0, .agg [.int .i64 n0, .int .i64 n1, .int .i64 n2, .int .i64 n3, .int .i64 n4, .int .i64 n5, .int .i64 n6, .int .i64 n7, .int .i64 n8]] (.var [.int .u64 c, .int .u64 k, .junk, .junk, .junk, .junk, .junk, .junk, .junk, .junk, .junk, .junk, .junk]) (.tup [])
      (.var [.int .u64 c, .int .u64 k, .int .i64 n0, .int .i64 n1, .int .i64 n2, .int .i64 n3, .int .i64 n4, .int .i64 n5, .int .i64 n6, .int .i64 n7, .int .i64 n8, .junk, .junk]) := by
  refine FnB.intro Tryz.func22 rfl rfl fun G w l => ?_
  refine WK.anyNx (n := 100) ?_
  repeat' (first
   | refine WK.seq ?_
   | (refine Hid.h hQ _ _ ?_; clear hQ hA)
   | (refine WK.regH Tryz.ntmps22 (by kernel_rfl) ?_; intro A hA Q hQ; simp [splice, *])
   | (refine WK.regX (by kernel_rfl) Tryz.ntmps22 (by kernel_rfl) ?_; intro A hA Q hQ; simp [splice, *])
   | (refine Hid.h hQ _ _ _ (by decide +kernel) ?_; clear hQ hA)
   | (refine WK.retB Tryz.func22 ?_ ?_ rfl (.inl rfl) <;> simp (maxDischargeDepth := 120) [Tryz.results22, splice, *])
   | fail)
theorem oFlat_ge : ∀ {l : List Oxm}, (∀ o, o ∈ l → Oxm.right o = true) → l.length * 4 ≤ (rwFlat oBytes l).length
  | [], _ => by simp
  | o :: l, h => by
    have ih := oFlat_ge (l := l) fun a ha => h a (List.mem_cons_of_mem _ ha)
    have h5 : 5 ≤ (oBytes o).length := oEnc_ge (h o (by simp))
    have e : rwFlat oBytes (o :: l) = oBytes o ++ rwFlat oBytes l := rfl
    rw [e, List.length_append, List.length_cons]; omega
theorem mEnc_few {l : List Oxm} (h : (mEnc l).2 = 0) : l.length ≤ 250 := by
  obtain ⟨h1, h2, _⟩ := mEnc_zero h
  have := oFlat_ge (mFit_facts h1).2
  omega
theorem mDec_few {b : List (BitVec 8)} {l : List Oxm} {n : Nat} (h : mDec b = (l, n, none)) : l.length ≤ 250 ∧ n ≤ b.length := by
  have h1 := mDec_back h
  exact ⟨mEnc_few (by rw [h1.2.2.2.1]), h1.1⟩
theorem fmB_dec {b e : List (BitVec 8)} {l : List Oxm} {n : Nat} {i : List Inst} (h : mDec b = (l, n, none)) (hi : inDec e = (i, none)) (he : e.length ≤ 100000) (c k : BitVec 64) (N : List Int) : FmB (fmTake c k N l i) := by
  refine ⟨?_, ?_, fun x hx => ?_⟩
  · have := (mDec_few h).1
    show l.length ≤ 10000; omega
  · have := inDone_five (inDec_done hi)
    show i.length ≤ 100; omega
  · have := (inDec_small hi).2 x hx
    omega
theorem fmDec_short {b : List (BitVec 8)} (h : b.length < 40) : fmDec b = (flowMod0, some (1, 6)) := by unfold fmDec; rw [if_pos h]
def flowMod0E : List AV := [.int .u64 0, .int .u64 0, .int .i64 0, .int .i64 0, .int .i64 0, .int .i64 0, .int .i64 0, .int .i64 0, .int .i64 0, .int .i64 0, .int .i64 0, .sl false 0 [], .sl false 0 []]
theorem flowMod0_enc : flowMod0.enc = flowMod0E := rfl
set_option maxHeartbeats 8000000 in
theorem fmdec_c (b : List (BitVec 8)) (hb : b.length ≤ 80000) : FnP Tryz.prog 6 [byS b] (.tup [.agg (fmDec b).1.enc, .agg (gFault (fmDec b).2)]) := by
  have b16 := fmbad_c 1 6
  by_cases c0 : b.length < 40
  · have c0' : (b.length : Int) < 40 := by omega
    rw [fmDec_short c0, flowMod0_enc]
    unfold byS
    refine FnP.intro Tryz.func6 rfl rfl fun G w => ?_
    repeat' (first
     | refine WK.seq ?_
     | refine WK.condT rfl ?_
     | (refine Hid.h hQ _ _ ?_; clear hQ hA)
     | (refine WK.regH Tryz.ntmps6 (by kernel_rfl) ?_; intro A hA Q hQ; simp [gFault, flowMod0E, *])
     | (refine WK.regX (by kernel_rfl) Tryz.ntmps6 (by kernel_rfl) ?_; intro A hA Q hQ; simp [gFault, flowMod0E, *])
     | (refine Hid.h hQ _ _ _ (by decide +kernel) ?_; clear hQ hA)
     | (refine RunX.gd rfl (by rw [hA.h]; rfl) ?_; simp [gFault, flowMod0E, *])
     | (refine RunQ.call rfl rfl rfl rfl rfl ?_ (b16) ?_ ?_; (focus (simp (maxDischargeDepth := 120) [gFault, flowMod0E, *]; done)); (focus (simp [gFault, flowMod0E, *]; done)); refine RunQ.evalH ?_; simp [gFault, flowMod0E, *])
     | (refine WK.ret Tryz.func6 ?_ ?_ <;> simp (maxDischargeDepth := 120) [Tryz.results6, gFault, flowMod0E, *])
     | fail)
  have c0' : ¬ (b.length : Int) < 40 := by omega
  have hde : fmDec b = if allZ ((b.drop 38).take 2) = false then (flowMod0, some (1, 6)) else
      match (mDec (b.drop 40)).2.2 with
      | some c => (flowMod0, some c)
      | none => match (inDec (b.drop (40 + (mDec (b.drop 40)).2.1))).2 with
        | some c => (flowMod0, some c)
        | none => match fmCheck (fmTake (wGet b 8).1.lo (wGet (b.drop 8) 8).1.lo (nsRead fmSizes b 16) (mDec (b.drop 40)).1 (inDec (b.drop (40 + (mDec (b.drop 40)).2.1))).1) with
          | some c => (flowMod0, some c)
          | none => (fmTake (wGet b 8).1.lo (wGet (b.drop 8) 8).1.lo (nsRead fmSizes b 16) (mDec (b.drop 40)).1 (inDec (b.drop (40 + (mDec (b.drop 40)).2.1))).1, none) := by
    unfold fmDec; rw [if_neg c0]; rfl
  have x38 := by_get b 38 (by omega)
  have x39 := by_get b 39 (by omega)
  have u38 : (38 : Int) < b.length := by omega
  have u39 : (39 : Int) < b.length := by omega
  have v38 : 38 < b.length := by omega
  have v39 : 39 < b.length := by omega
  have zo := or_zero8 (nth b 38) (nth b 39)
  rw [allZ_two (p := 38) (by omega)] at hde
  obtain ⟨X38, hX38⟩ : ∃ X, bI (nth b 38) = X := ⟨_, rfl⟩
  obtain ⟨X39, hX39⟩ : ∃ X, bI (nth b 39) = X := ⟨_, rfl⟩
  rw [hX38] at x38 zo
  rw [hX39] at x39 zo
  obtain ⟨z, hz⟩ : ∃ z, (nth b 38 == 0#8 && nth b (38 + 1) == 0#8) = z := ⟨_, rfl⟩
  rw [show (nth b 38 == 0#8 && nth b 39 == 0#8) = z from hz] at zo
  rw [hz] at hde
  clear hX38 hX39 hz
  cases z
  case false =>
    rw [if_pos rfl] at hde
    rw [hde, flowMod0_enc]
    unfold byS
    clear hde
    refine FnP.intro Tryz.func6 rfl rfl fun G w => ?_
    repeat' (first
     | refine WK.seq ?_
     | refine WK.condT rfl ?_
     | (refine Hid.h hQ _ _ ?_; clear hQ hA)
     | (refine WK.regH Tryz.ntmps6 (by kernel_rfl) ?_; intro A hA Q hQ; simp [gFault, flowMod0E, bne, *])
     | (refine WK.regX (by kernel_rfl) Tryz.ntmps6 (by kernel_rfl) ?_; intro A hA Q hQ; simp [gFault, flowMod0E, bne, *])
     | (refine Hid.h hQ _ _ _ (by decide +kernel) ?_; clear hQ hA)
     | (refine RunX.gd rfl (by rw [hA.h]; rfl) ?_; simp [gFault, flowMod0E, bne, *])
     | (refine RunQ.call rfl rfl rfl rfl rfl ?_ (b16) ?_ ?_; (focus (simp (maxDischargeDepth := 120) [gFault, flowMod0E, bne, *]; done)); (focus (simp [gFault, flowMod0E, bne, *]; done)); refine RunQ.evalH ?_; simp [gFault, flowMod0E, bne, *])
     | (refine WK.ret Tryz.func6 ?_ ?_ <;> simp (maxDischargeDepth := 120) [Tryz.results6, gFault, flowMod0E, bne, *])
     | fail)
  rw [if_neg (by simp)] at hde
  have g1 := wget_c b 8 (by omega) (by omega)
  have g2 := wget_c (b.drop 8) 8 (by omega) (by rw [List.length_drop]; omega)
  have hs8 : ((byL b).drop 8).take (b.length - 8) = byL (b.drop 8) := by rw [byL_drop]; exact by_full _ _ (by rw [List.length_drop])
  have hs40 : ((byL b).drop 40).take (b.length - 40) = byL (b.drop 40) := by rw [byL_drop]; exact by_full _ _ (by rw [List.length_drop])
  have u8 : (8 : Int) ≤ b.length := by omega
  have u40 : (40 : Int) ≤ b.length := by omega
  have md := mdec_c (b.drop 40) (by rw [List.length_drop]; omega)
  have sz := fsizes_c
  have gN : ∀ i, i < 9 → FnP Tryz.prog 21 [byS b, .int .i64 ((fmAt i : Nat) : Int), .int .i64 ((nth fmSizes i : Nat) : Int)] (.tup [.int .i64 (getN b (fmAt i) (nth fmSizes i)).1, .int .i64 (getN b (fmAt i) (nth fmSizes i)).2]) := fun i hi => nget_c b (fmAt i) (nth fmSizes i) (fmSize_at i hi).2.1 (by omega) (by have := fmAt_le i hi; omega)
  have hNn : ∀ i, i < 9 → (getN b (fmAt i) (nth fmSizes i)).1 = nth (nsRead fmSizes b 16) i := fun i hi => (nsRead_nth fmSizes b 16 i hi).symm
  have hNl : (nsRead fmSizes b 16).length = 9 := nsRead_len _ _ _
  obtain ⟨n0, n1, n2, n3, n4, n5, n6, n7, n8, hNe⟩ : ∃ n0 n1 n2 n3 n4 n5 n6 n7 n8, nsRead fmSizes b 16 = [n0, n1, n2, n3, n4, n5, n6, n7, n8] := ⟨_, _, _, _, _, _, _, _, _, rfl⟩
  obtain ⟨N, hN⟩ : ∃ N, nsRead fmSizes b 16 = N := ⟨_, rfl⟩
  rw [hN] at hNn hNl hNe hde
  obtain ⟨w1, hw1⟩ : ∃ w, wGet b 8 = w := ⟨_, rfl⟩
  obtain ⟨w2, hw2⟩ : ∃ w, wGet (b.drop 8) 8 = w := ⟨_, rfl⟩
  rw [hw1] at g1 hde
  rw [hw2] at g2 hde
  obtain ⟨⟨h1, c⟩, o1⟩ := w1
  obtain ⟨⟨h2, k⟩, o2⟩ := w2
  simp only [byS, Wide.enc, List.length_drop] at g1 g2 md gN
  simp only at hde
  have ft := ftake_c (uI c) (uI k) n0 n1 n2 n3 n4 n5 n6 n7 n8
  have hP0 : fmPart N 0 = [.int .i64 0, .int .i64 0, .int .i64 0, .int .i64 0, .int .i64 0, .int .i64 0, .int .i64 0, .int .i64 0, .int .i64 0] := rfl
  have hA0 : fmAt 0 = 16 := rfl
  have hsl : (intL fmSizesI).length = 9 := rfl
  obtain ⟨B8, hB8⟩ : ∃ B, b.drop 8 = B := ⟨_, rfl⟩
  rw [hB8] at g2 hs8
  clear hN hw1 hw2 hB8 c0
  unfold byS
  refine FnP.intro Tryz.func6 rfl rfl fun G w => ?_
  repeat' (first
   | refine WK.seq ?_
   | refine WK.block ?_
   | refine WK.skip ?_
   | refine WK.condF rfl ?_
   | (refine Hid.h hQ _ _ ?_; clear hQ hA)
   | (refine WK.regH Tryz.ntmps6 (by kernel_rfl) ?_; intro A hA Q hQ; simp [bne, *])
   | (refine WK.regX (by kernel_rfl) Tryz.ntmps6 (by kernel_rfl) ?_; intro A hA Q hQ; simp [bne, *])
   | (refine Hid.h hQ _ _ _ (by decide +kernel) ?_; clear hQ hA)
   | (refine RunX.gd rfl (by rw [hA.h]; rfl) ?_; simp [bne, *])
   | (refine RunQ.call rfl rfl rfl rfl rfl ?_ (g1) ?_ ?_; (focus (simp (maxDischargeDepth := 120) [bne, *]; done)); (focus (simp [bne, *]; done)); refine RunQ.evalH ?_; simp [bne, *])
   | (refine RunQ.call rfl rfl rfl rfl rfl ?_ (g2) ?_ ?_; (focus (simp (maxDischargeDepth := 120) [bne, *]; done)); (focus (simp [bne, *]; done)); refine RunQ.evalH ?_; simp [bne, *])
   | (refine RunQ.call rfl rfl rfl rfl rfl ?_ (sz) ?_ ?_; (focus (simp (maxDischargeDepth := 120) [bne, *]; done)); (focus (simp [bne, *]; done)); refine RunQ.evalH ?_; simp [bne, *])
   | fail)
  refine WK.loopI (fun n => n) (fun i : Nat => (⟨(upd (upd (upd (upd (upd (upd (upd (upd J 0 (.sl false b.length (byL b))) 2 (.ptr 0 0)) 3 (.ptr 1 0)) 4 (.ptr 201 0)) 9 (.int .i64 (fmAt i : Nat))) 10 (.ptr 700 0)) 58 (.agg (intL fmSizesI))) 59 (.int .i64 i)), (upd (upd (upd (upd B0 0 (.var [.junk, .junk, .junk, .junk, .junk, .junk, .junk, .junk, .junk, .junk, .junk, .junk, .junk])) 1 (.var [.junk, .junk, .junk])) 201 (.var [.int .u64 (uI c), .int .u64 (uI k), .junk, .junk, .junk, .junk, .junk, .junk, .junk, .junk, .junk, .junk, .junk])) 700 (.var (fmPart N i))), 0⟩ : St)) (fun i => i ≤ 9) (fun i => 9 - i) (0) (by repeat (first | exact TmW.nil | refine TmW.upd ?_ (by simp (maxDischargeDepth := 120) [hP0, hA0]))) (by repeat (first | exact BxW.nil | refine BxW.upd ?_ (by simp (maxDischargeDepth := 120) [hP0, hA0]))) (by first | exact InjW.id | exact InjW.nil | exact InjW.one | exact InjW.two (by simp) | exact InjW.three (by simp) (by simp) (by simp)) (Nat.zero_le _) (fun i hi IH => ?_)
  clear g1 g2 sz hP0 hA0 x38 x39 zo u38 u39 v38 v39 b16 hs8 u8
  by_cases h1 : i < 9
  · obtain ⟨s1, s2, s3⟩ := fmSize_at i h1
    have h1' : (i : Int) < 9 := by omega
    have h6 : IntKind.i64.wrap ((i : Int) + 1) = i + 1 := wrap_i64 (by omega) (by omega)
    have ha := fmAt_le i h1
    have h8 : i ≤ 8 := by omega
    have hw : IntKind.i64.wrap ((fmAt i : Int) + (nth fmSizes i : Nat)) = ((fmAt (i + 1) : Nat) : Int) := by rw [fmAt_succ h1, wrap_i64 (by omega) (by omega)]; omega
    have g := gN i h1
    rw [hNn i h1] at g
    have gz := intL_get' fmSizesI i h1
    rw [s1] at gz
    have hset := fmPart_set hNl h1
    have hPl := fmPart_len hNl i (by omega)
    unfold splice at hset
    obtain ⟨x, hx⟩ : ∃ x, nth N i = x := ⟨_, rfl⟩
    obtain ⟨s, hs⟩ : ∃ x, nth fmSizes i = x := ⟨_, rfl⟩
    obtain ⟨p, hp⟩ : ∃ x, fmAt i = x := ⟨_, rfl⟩
    rw [hx] at g hset
    rw [hs] at g gz hw
    rw [hp] at g hw ⊢
    obtain ⟨F, hF⟩ : ∃ F, fmPart N i = F := ⟨_, rfl⟩
    rw [hF] at hset hPl ⊢
    simp only [List.append_assoc, List.cons_append, List.nil_append, List.length_cons, List.length_nil, Nat.zero_add] at hset
    clear hx hs hp hF hNn gN hde md ft hNe s1 s2 s3 ha
    repeat' (first
     | refine WK.seq ?_
     | refine WK.block ?_
     | refine WK.inBlock ?_
     | refine WK.skip ?_
     | refine WK.condT rfl ?_
     | (refine Hid.h hQ _ _ ?_; clear hQ hA)
     | (refine WK.regH Tryz.ntmps6 (by kernel_rfl) ?_; intro A hA Q hQ; simp [*])
     | (refine RunQ.call rfl rfl rfl rfl rfl ?_ (g) ?_ ?_; (focus (simp (maxDischargeDepth := 120) [*]; done)); (focus (simp [*]; done)); refine RunQ.evalH ?_; simp [*])
     | fail)
    refine WK.next (fun n => n) (IH (i + 1) (by omega) (by first | omega | (dsimp only; omega))) (by repeat (first | exact TmW.nil | refine TmW.upd ?_ (by simp (maxDischargeDepth := 120) [hset, hw]))) (by repeat (first | exact BxW.nil | refine BxW.upd ?_ (by simp (maxDischargeDepth := 120) [hset, hw]))) (by first | exact InjW.id | exact InjW.nil | exact InjW.one | exact InjW.two (by simp) | exact InjW.three (by simp) (by simp) (by simp))
  · have hi9 : i = 9 := by omega
    subst hi9
    have hPA : fmPart N 9 = [.int .i64 n0, .int .i64 n1, .int .i64 n2, .int .i64 n3, .int .i64 n4, .int .i64 n5, .int .i64 n6, .int .i64 n7, .int .i64 n8] := by rw [fmPart_all hNl, hNe]; rfl
    rw [hPA]
    clear hPA hNn gN h1 hsl
    obtain ⟨l, n, q, hM⟩ : ∃ l n q, mDec (b.drop 40) = (l, n, q) := ⟨_, _, _, rfl⟩
    rw [hM] at md hde
    simp only at hde
    unfold oxmS at md
    have hdl : (b.drop 40).length = b.length - 40 := by rw [List.length_drop]
    cases q with
    | some q =>
      simp only at hde
      rw [hde, flowMod0_enc]
      obtain ⟨B40, hB40⟩ : ∃ B, b.drop 40 = B := ⟨_, rfl⟩
      rw [hB40] at md hs40
      clear hde hM hB40 hNe hNl hdl
      repeat' (first
       | refine WK.seq ?_
       | refine WK.exit rfl ?_
       | refine WK.condT rfl ?_
       | refine WK.condF rfl ?_
       | (refine Hid.h hQ _ _ ?_; clear hQ hA)
       | (refine WK.regH Tryz.ntmps6 (by kernel_rfl) ?_; intro A hA Q hQ; simp [gFault, flowMod0E, *])
       | (refine WK.regX (by kernel_rfl) Tryz.ntmps6 (by kernel_rfl) ?_; intro A hA Q hQ; simp [gFault, flowMod0E, *])
       | (refine Hid.h hQ _ _ _ (by decide +kernel) ?_; clear hQ hA)
       | (refine RunQ.callB 201 rfl rfl rfl rfl rfl (ft) ?_ ?_ rfl rfl ?_ ?_ ?_; (focus (simp (maxDischargeDepth := 120) [gFault, flowMod0E, *]; done)); (focus (simp (maxDischargeDepth := 120) [gFault, flowMod0E, *]; done)); (focus (simp [gFault, flowMod0E, *]; done)); (focus (simp [gFault, flowMod0E, *]; done)); refine RunQ.evalH ?_; simp [gFault, flowMod0E, *])
       | (refine RunQ.call rfl rfl rfl rfl rfl ?_ (md) ?_ ?_; (focus (simp (maxDischargeDepth := 120) [gFault, flowMod0E, *]; done)); (focus (simp [gFault, flowMod0E, *]; done)); refine RunQ.evalH ?_; simp [gFault, flowMod0E, *])
       | (refine WK.ret Tryz.func6 ?_ ?_ <;> simp (maxDischargeDepth := 120) [Tryz.results6, gFault, flowMod0E, *])
       | fail)
    | none =>
    simp only at hde
    have hn := (mDec_few hM).2
    rw [hdl] at hn
    have id := idecP_c (b.drop (40 + n)) (by rw [List.length_drop]; omega)
    have hel : (b.drop (40 + n)).length = b.length - (40 + n) := by rw [List.length_drop]
    have hsn : ((byL b).drop (40 + n)).take (b.length - (40 + n)) = byL (b.drop (40 + n)) := by rw [byL_drop]; exact by_full _ _ (by rw [List.length_drop])
    have wn : IntKind.i64.wrap (40 + (n : Int)) = ((40 + n : Nat) : Int) := by rw [wrap_i64 (by omega) (by omega)]; omega
    have un : ((40 + n : Nat) : Int) ≤ b.length := by omega
    have vn : 40 + n ≤ b.length := by omega
    obtain ⟨is, q, hI⟩ : ∃ is q, inDec (b.drop (40 + n)) = (is, q) := ⟨_, _, rfl⟩
    rw [hI] at id hde
    simp only at hde
    have hB := fun (h : q = none) => fmB_dec (b := b.drop 40) (e := b.drop (40 + n)) hM (h ▸ hI) (by rw [List.length_drop]; omega) c k N
    simp only [byS, instS, hel] at id
    obtain ⟨E, hE⟩ : ∃ B, b.drop (40 + n) = B := ⟨_, rfl⟩
    rw [hE] at id hsn
    obtain ⟨B40, hB40⟩ : ∃ B, b.drop 40 = B := ⟨_, rfl⟩
    rw [hB40] at md hs40
    obtain ⟨p, hp⟩ : ∃ p, 40 + n = p := ⟨_, rfl⟩
    rw [hp] at id hsn wn un vn
    clear hM hI hdl hel hE hB40 hp hn
    cases q with
    | some q =>
      simp only at hde
      rw [hde, flowMod0_enc]
      clear hde hB hNe hNl
      repeat' (first
       | refine WK.seq ?_
       | refine WK.skip ?_
       | refine WK.exit rfl ?_
       | refine WK.condT rfl ?_
       | refine WK.condF rfl ?_
       | (refine Hid.h hQ _ _ ?_; clear hQ hA)
       | (refine WK.regH Tryz.ntmps6 (by kernel_rfl) ?_; intro A hA Q hQ; simp [gFault, flowMod0E, *])
       | (refine WK.regX (by kernel_rfl) Tryz.ntmps6 (by kernel_rfl) ?_; intro A hA Q hQ; simp [gFault, flowMod0E, *])
       | (refine Hid.h hQ _ _ _ (by decide +kernel) ?_; clear hQ hA)
       | (refine RunQ.callB 201 rfl rfl rfl rfl rfl (ft) ?_ ?_ rfl rfl ?_ ?_ ?_; (focus (simp (maxDischargeDepth := 120) [gFault, flowMod0E, *]; done)); (focus (simp (maxDischargeDepth := 120) [gFault, flowMod0E, *]; done)); (focus (simp [gFault, flowMod0E, *]; done)); (focus (simp [gFault, flowMod0E, *]; done)); refine RunQ.evalH ?_; simp [gFault, flowMod0E, *])
       | (refine RunQ.call rfl rfl rfl rfl rfl ?_ (md) ?_ ?_; (focus (simp (maxDischargeDepth := 120) [gFault, flowMod0E, *]; done)); (focus (simp [gFault, flowMod0E, *]; done)); refine RunQ.evalH ?_; simp [gFault, flowMod0E, *])
       | (refine RunQ.call rfl rfl rfl rfl rfl ?_ (id) ?_ ?_; (focus (simp (maxDischargeDepth := 120) [gFault, flowMod0E, *]; done)); (focus (simp [gFault, flowMod0E, *]; done)); refine RunQ.evalH ?_; simp [gFault, flowMod0E, *])
       | (refine WK.ret Tryz.func6 ?_ ?_ <;> simp (maxDischargeDepth := 120) [Tryz.results6, gFault, flowMod0E, *])
       | fail)
    | none =>
    simp only at hde
    have ck := fmcheck_c _ (hB rfl)
    rw [hNe] at hde ck
    obtain ⟨C, hC⟩ : ∃ C, fmCheck (fmTake c k [n0, n1, n2, n3, n4, n5, n6, n7, n8] l is) = C := ⟨_, rfl⟩
    rw [hC] at ck hde
    have hT : (fmTake c k [n0, n1, n2, n3, n4, n5, n6, n7, n8] l is).enc = [.int .u64 (uI c), .int .u64 (uI k), .int .i64 n0, .int .i64 n1, .int .i64 n2, .int .i64 n3, .int .i64 n4, .int .i64 n5, .int .i64 n6, .int .i64 n7, .int .i64 n8, .sl false l.length (oxmL l), .sl false is.length (instL is)] := rfl
    rw [hT] at ck
    cases C with
    | some q =>
      simp only at hde
      rw [hde, flowMod0_enc]
      clear hde hB hNe hNl hC hT
      repeat' (first
       | refine WK.seq ?_
       | refine WK.skip ?_
       | refine WK.exit rfl ?_
       | refine WK.condT rfl ?_
       | refine WK.condF rfl ?_
       | (refine Hid.h hQ _ _ ?_; clear hQ hA)
       | (refine WK.regH Tryz.ntmps6 (by kernel_rfl) ?_; intro A hA Q hQ; simp [gFault, flowMod0E, splice, *])
       | (refine WK.regX (by kernel_rfl) Tryz.ntmps6 (by kernel_rfl) ?_; intro A hA Q hQ; simp [gFault, flowMod0E, splice, *])
       | (refine Hid.h hQ _ _ _ (by decide +kernel) ?_; clear hQ hA)
       | (refine RunQ.callB 201 rfl rfl rfl rfl rfl (ft) ?_ ?_ rfl rfl ?_ ?_ ?_; (focus (simp (maxDischargeDepth := 120) [gFault, flowMod0E, splice, *]; done)); (focus (simp (maxDischargeDepth := 120) [gFault, flowMod0E, splice, *]; done)); (focus (simp [gFault, flowMod0E, splice, *]; done)); (focus (simp [gFault, flowMod0E, splice, *]; done)); refine RunQ.evalH ?_; simp [gFault, flowMod0E, splice, *])
       | (refine RunQ.call rfl rfl rfl rfl rfl ?_ (md) ?_ ?_; (focus (simp (maxDischargeDepth := 120) [gFault, flowMod0E, splice, *]; done)); (focus (simp [gFault, flowMod0E, splice, *]; done)); refine RunQ.evalH ?_; simp [gFault, flowMod0E, splice, *])
       | (refine RunQ.call rfl rfl rfl rfl rfl ?_ (id) ?_ ?_; (focus (simp (maxDischargeDepth := 120) [gFault, flowMod0E, splice, *]; done)); (focus (simp [gFault, flowMod0E, splice, *]; done)); refine RunQ.evalH ?_; simp [gFault, flowMod0E, splice, *])
       | (refine RunQ.call rfl rfl rfl rfl rfl ?_ (ck) ?_ ?_; (focus (simp (maxDischargeDepth := 120) [gFault, flowMod0E, splice, *]; done)); (focus (simp [gFault, flowMod0E, splice, *]; done)); refine RunQ.evalH ?_; simp [gFault, flowMod0E, splice, *])
       | (refine WK.ret Tryz.func6 ?_ ?_ <;> simp (maxDischargeDepth := 120) [Tryz.results6, gFault, flowMod0E, splice, *])
       | fail)
    | none =>
      simp only at hde
      rw [hde]
      simp only
      rw [hT]
      clear hde hB hNe hNl hC hT
      repeat' (first
       | refine WK.seq ?_
       | refine WK.skip ?_
       | refine WK.exit rfl ?_
       | refine WK.condF rfl ?_
       | (refine Hid.h hQ _ _ ?_; clear hQ hA)
       | (refine WK.regH Tryz.ntmps6 (by kernel_rfl) ?_; intro A hA Q hQ; simp [gFault, splice, *])
       | (refine RunQ.callB 201 rfl rfl rfl rfl rfl (ft) ?_ ?_ rfl rfl ?_ ?_ ?_; (focus (simp (maxDischargeDepth := 120) [gFault, splice, *]; done)); (focus (simp (maxDischargeDepth := 120) [gFault, splice, *]; done)); (focus (simp [gFault, splice, *]; done)); (focus (simp [gFault, splice, *]; done)); refine RunQ.evalH ?_; simp [gFault, splice, *])
       | (refine RunQ.call rfl rfl rfl rfl rfl ?_ (md) ?_ ?_; (focus (simp (maxDischargeDepth := 120) [gFault, splice, *]; done)); (focus (simp [gFault, splice, *]; done)); refine RunQ.evalH ?_; simp [gFault, splice, *])
       | (refine RunQ.call rfl rfl rfl rfl rfl ?_ (id) ?_ ?_; (focus (simp (maxDischargeDepth := 120) [gFault, splice, *]; done)); (focus (simp [gFault, splice, *]; done)); refine RunQ.evalH ?_; simp [gFault, splice, *])
       | (refine RunQ.call rfl rfl rfl rfl rfl ?_ (ck) ?_ ?_; (focus (simp (maxDischargeDepth := 120) [gFault, splice, *]; done)); (focus (simp [gFault, splice, *]; done)); refine RunQ.evalH ?_; simp [gFault, splice, *])
       | (refine WK.ret Tryz.func6 ?_ ?_ <;> simp (maxDischargeDepth := 120) [Tryz.results6, gFault, splice, *])
       | fail)
end Go.Proofs.YtiifjagnhnchoaaGreat
end

section
set_option linter.unusedVariables false
set_option linter.unusedSimpArgs false
namespace Go.Proofs.YtiifjagnhnchoaaGreat
open Go Go.AI Go.Proofs
attribute [local irreducible] FnP FnO FnB FnT FnSeq WK RunQ RunQW RunX RunXW

theorem fmB_plain {m : FlowMod} (h : FlowMod.plain m = true) : FmB m := by
  unfold FlowMod.plain instsPlain at h
  simp only [Bool.and_eq_true, decide_eq_true_eq, List.all_eq_true, actsPlain] at h
  obtain ⟨h1, h2, h3⟩ := h
  exact ⟨by omega, by omega, fun x hx => by have := h3 x hx; omega⟩
def L17 : FlowMod := ⟨5#64, 0#64, 1, 0, 0, 0, 7, 0, 0, 0, 0, [⟨0, false, ⟨0#64, 1#64⟩, wideZ⟩], [⟨5, 0, wideZ, wideZ, []⟩]⟩
def L17b : FlowMod := ⟨0#64, 0#64, 0, 9, 0, 0, 0, 0, 0, 0, 0, [], []⟩
theorem fL17a : (fmEnc L17).1.length = 64 := by kernel_rfl
theorem fL17b : (fmEnc L17).2 = 0 := by kernel_rfl
theorem fL17c : fmDec (fmEnc L17).1 = (L17, none) := by kernel_rfl
theorem fL17d : fmRight L17 = true := by kernel_rfl
theorem fL17e : fmCheck L17b = some (5, 6) := by kernel_rfl
set_option maxHeartbeats 4000000 in
theorem awake17_c : FnP Tryz.prog 5 [] (.bool true) := by
  have hB : FmB L17 := ⟨by decide, by decide, fun x hx => by simp [L17] at hx; subst hx; simp⟩
  have hB2 : FmB L17b := ⟨by decide, by decide, fun x hx => by simp [L17b] at hx⟩
  have p := fmencP_c L17 hB
  have d := fmdec_c (fmEnc L17).1 (by rw [fL17a]; omega)
  have s := fmsame_c L17 L17 hB
  have r := fmright_c L17 hB
  have c := fmcheck_c L17b hB2
  rw [fL17c] at d
  rw [fL17b] at p
  rw [fL17d] at r
  rw [fL17e] at c
  rw [fmSame_self] at s
  have hl := fL17a
  obtain ⟨B, hBB⟩ : ∃ B, (fmEnc L17).1 = B := ⟨_, rfl⟩
  rw [hBB] at p d hl
  clear hBB hB hB2
  unfold byS at p d
  rw [hl] at p d
  have e1 : L17.enc = [.int .u64 5, .int .u64 0, .int .i64 1, .int .i64 0, .int .i64 0, .int .i64 0, .int .i64 7, .int .i64 0, .int .i64 0, .int .i64 0, .int .i64 0, .sl false 1 [.int .i64 0, .bool false, .int .u64 0, .int .u64 1, .int .u64 0, .int .u64 0], .sl false 1 [.int .i64 5, .int .i64 0, .int .u64 0, .int .u64 0, .int .u64 0, .int .u64 0, .sl false 0 []]] := rfl
  have e2 : L17b.enc = [.int .u64 0, .int .u64 0, .int .i64 0, .int .i64 9, .int .i64 0, .int .i64 0, .int .i64 0, .int .i64 0, .int .i64 0, .int .i64 0, .int .i64 0, .sl false 0 [], .sl false 0 []] := rfl
  simp only [e1, e2, gFault] at p d s r c
  refine FnP.intro Tryz.func5 rfl rfl fun G w => ?_
  repeat' (first
   | refine WK.seq ?_
   | (refine Hid.h hQ _ _ ?_; clear hQ hA)
   | (refine WK.regH Tryz.ntmps5 (by kernel_rfl) ?_; intro A hA Q hQ; simp [*])
   | (refine RunQ.gd rfl (by rw [hA.h]; rfl) ?_; simp [*])
   | (refine RunQ.call rfl rfl rfl rfl rfl ?_ (p) ?_ ?_; (focus (simp (maxDischargeDepth := 120) [*]; done)); (focus (simp [*]; done)); refine RunQ.evalH ?_; simp [*])
   | (refine RunQ.call rfl rfl rfl rfl rfl ?_ (d) ?_ ?_; (focus (simp (maxDischargeDepth := 120) [*]; done)); (focus (simp [*]; done)); refine RunQ.evalH ?_; simp [*])
   | (refine RunQW.call rfl rfl rfl rfl ?_ (s) ?_ ?_; (focus (simp (maxDischargeDepth := 120) [*]; done)); (focus (simp [*]; done)); refine RunQ.evalH ?_; simp [*])
   | (refine RunQW.call rfl rfl rfl rfl ?_ (r) ?_ ?_; (focus (simp (maxDischargeDepth := 120) [*]; done)); (focus (simp [*]; done)); refine RunQ.evalH ?_; simp [*])
   | (refine RunQW.call rfl rfl rfl rfl ?_ (c) ?_ ?_; (focus (simp (maxDischargeDepth := 120) [*]; done)); (focus (simp [*]; done)); refine RunQ.evalH ?_; simp [*])
   | (refine WK.ret Tryz.func5 ?_ ?_ <;> simp (maxDischargeDepth := 120) [Tryz.results5, *])
   | fail)
end Go.Proofs.YtiifjagnhnchoaaGreat
end

section
set_option linter.unusedVariables false
set_option linter.unusedSimpArgs false
namespace Go.Proofs.YtiifjagnhnchoaaGreat
open Go Go.AI Go.Proofs
attribute [local irreducible] FnP FnO FnB FnT FnSeq WK RunQ RunQW RunX RunXW

set_option maxHeartbeats 4000000 in
theorem rfmcheck_c (m : FlowMod) (hm : FmB m) : FnP Tryz.prog 14 [.agg m.enc] (.agg (gFault (fmCheck m))) := by
  have mc : ∀ f, FnP Tryz.prog 43 [oxmS m.mat, .int .i64 f] (.bool (mMet m.mat f)) := fun f => rmet_c m.mat f (by have := hm.mat; omega)
  have e : fmCheck m = if m.command < 0 ∨ 4 < m.command then some (5, 6) else if 31 < m.flags then some (5, 7) else if 2 < m.command then none else if fmWrong m = true then some (2, 10) else none := rfl
  have hl := hm.insts
  have ha := hm.acts
  unfold FlowMod.enc at *
  by_cases c1 : m.command < 0
  · rw [if_pos (.inl c1)] at e
    rw [e]
    clear e mc
    refine FnP.intro Tryz.func14 rfl rfl fun G w => ?_
    repeat' (first
     | refine WK.seq ?_
     | refine WK.condT rfl ?_
     | (refine Hid.h hQ _ _ ?_; clear hQ hA)
     | (refine WK.regH Tryz.ntmps14 (by kernel_rfl) ?_; intro A hA Q hQ; simp [gFault, *])
     | (refine RunQ.gd rfl (by rw [hA.h]; rfl) ?_; simp [gFault, *])
     | (refine WK.ret Tryz.func14 ?_ ?_ <;> simp (maxDischargeDepth := 120) [Tryz.results14, gFault, *])
     | fail)
  by_cases c2 : 4 < m.command
  · rw [if_pos (.inr c2)] at e
    rw [e]
    clear e mc
    refine FnP.intro Tryz.func14 rfl rfl fun G w => ?_
    repeat' (first
     | refine WK.seq ?_
     | refine WK.condT rfl ?_
     | (refine Hid.h hQ _ _ ?_; clear hQ hA)
     | (refine WK.regH Tryz.ntmps14 (by kernel_rfl) ?_; intro A hA Q hQ; simp [gFault, *])
     | (refine RunQ.gd rfl (by rw [hA.h]; rfl) ?_; simp [gFault, *])
     | (refine WK.ret Tryz.func14 ?_ ?_ <;> simp (maxDischargeDepth := 120) [Tryz.results14, gFault, *])
     | fail)
  rw [if_neg (by omega)] at e
  by_cases c3 : 31 < m.flags
  · rw [if_pos c3] at e
    rw [e]
    clear e mc
    refine FnP.intro Tryz.func14 rfl rfl fun G w => ?_
    repeat' (first
     | refine WK.seq ?_
     | refine WK.skip ?_
     | refine WK.condT rfl ?_
     | refine WK.condF rfl ?_
     | (refine Hid.h hQ _ _ ?_; clear hQ hA)
     | (refine WK.regH Tryz.ntmps14 (by kernel_rfl) ?_; intro A hA Q hQ; simp [gFault, *])
     | (refine RunQ.gd rfl (by rw [hA.h]; rfl) ?_; simp [gFault, *])
     | (refine WK.ret Tryz.func14 ?_ ?_ <;> simp (maxDischargeDepth := 120) [Tryz.results14, gFault, *])
     | fail)
  rw [if_neg c3] at e
  by_cases c4 : 2 < m.command
  · rw [if_pos c4] at e
    rw [e]
    clear e mc
    refine FnP.intro Tryz.func14 rfl rfl fun G w => ?_
    repeat' (first
     | refine WK.seq ?_
     | refine WK.skip ?_
     | refine WK.condT rfl ?_
     | refine WK.condF rfl ?_
     | (refine Hid.h hQ _ _ ?_; clear hQ hA)
     | (refine WK.regH Tryz.ntmps14 (by kernel_rfl) ?_; intro A hA Q hQ; simp [gFault, *])
     | (refine RunQ.gd rfl (by rw [hA.h]; rfl) ?_; simp [gFault, *])
     | (refine WK.ret Tryz.func14 ?_ ?_ <;> simp (maxDischargeDepth := 120) [Tryz.results14, gFault, *])
     | fail)
  rw [if_neg c4] at e
  rw [fmWrong_eq] at e
  clear hm
  refine FnP.intro Tryz.func14 rfl rfl fun G w => ?_
  repeat' (first
   | refine WK.seq ?_
   | refine WK.block ?_
   | refine WK.skip ?_
   | refine WK.condF rfl ?_
   | (refine Hid.h hQ _ _ ?_; clear hQ hA)
   | (refine WK.regH Tryz.ntmps14 (by kernel_rfl) ?_; intro A hA Q hQ; simp [*])
   | (refine RunQ.gd rfl (by rw [hA.h]; rfl) ?_; simp [*])
   | fail)
  refine WK.loopI (fun n => n) (fun i : Nat => (⟨(upd (upd (upd J 1 (.ptr 0 0)) 2 (.ptr 1 0)) 3 (.int .i64 i)), (upd (upd B0 0 (.var m.enc)) 1 (.var [.junk, .junk, .junk])), 0⟩ : St)) (fun i => i ≤ m.insts.length ∧ ∀ j, j < i → (nth m.insts j).acts.any (actOff m.mat) = false) (fun i => m.insts.length - i) (0) (by repeat (first | exact TmW.nil | refine TmW.upd ?_ (by simp (maxDischargeDepth := 120) [FlowMod.enc]))) (by repeat (first | exact BxW.nil | refine BxW.upd ?_ (by simp (maxDischargeDepth := 120) [FlowMod.enc]))) (by first | exact InjW.id | exact InjW.nil | exact InjW.one | exact InjW.two (by simp) | exact InjW.three (by simp) (by simp) (by simp)) (⟨by omega, by simp⟩) (fun i hi IH => ?_)
  clear c1 c2 c3 c4
  unfold FlowMod.enc at *
  by_cases h1 : i < m.insts.length
  · have k6 := inst_get6 m.insts i h1
    have h6 : IntKind.i64.wrap ((i : Int) + 1) = i + 1 := wrap_i64 (by omega) (by omega)
    have v6 : i * 7 + 6 < m.insts.length * 7 := by omega
    have hF : (nth m.insts i).acts.any (actOff m.mat) = true → (m.insts.any fun i => i.acts.any (actOff m.mat)) = true := fun h => any_true' (p := fun i : Inst => i.acts.any (actOff m.mat)) h1 h
    have hN : (nth m.insts i).acts.any (actOff m.mat) = false → ∀ j, j < i + 1 → (nth m.insts j).acts.any (actOff m.mat) = false := fun h j hj => by
      by_cases h7 : j = i
      · subst h7; exact h
      · exact hi.2 j (by omega)
    have hal := ha _ (nth_mem h1)
    obtain ⟨Ac, hAc⟩ : ∃ a, (nth m.insts i).acts = a := ⟨_, rfl⟩
    rw [hAc] at k6 hF hN hal
    clear hAc hi ha
    repeat' (first
     | refine WK.seq ?_
     | refine WK.block ?_
     | refine WK.skip ?_
     | refine WK.condT rfl ?_
     | (refine Hid.h hQ _ _ ?_; clear hQ hA)
     | (refine WK.regH Tryz.ntmps14 (by kernel_rfl) ?_; intro A hA Q hQ; simp [*])
     | fail)
    refine WK.loopI (fun n => n) (fun j : Nat => (⟨(upd (upd (upd (upd J 1 (.ptr 0 0)) 2 (.ptr 1 0)) 3 (.int .i64 i)) 4 (.int .i64 j)), (upd (upd B0 0 (.var m.enc)) 1 (.var [.junk, .junk, .junk])), 0⟩ : St)) (fun j => j ≤ Ac.length ∧ ∀ k, k < j → actOff m.mat (nth Ac k) = false) (fun j => Ac.length - j) (0) (by repeat (first | exact TmW.nil | refine TmW.upd ?_ (by simp (maxDischargeDepth := 120) [FlowMod.enc]))) (by repeat (first | exact BxW.nil | refine BxW.upd ?_ (by simp (maxDischargeDepth := 120) [FlowMod.enc]))) (by first | exact InjW.id | exact InjW.nil | exact InjW.one | exact InjW.two (by simp) | exact InjW.three (by simp) (by simp) (by simp)) (⟨by omega, by simp⟩) (fun j hj IHj => ?_)
    unfold FlowMod.enc
    by_cases g1 : j < Ac.length
    · obtain ⟨g4, g3⟩ := act_load Ac j g1
      have g6 : IntKind.i64.wrap ((j : Int) + 1) = j + 1 := wrap_i64 (by omega) (by omega)
      have c := mc (nth Ac j).oxm.field
      have hFa : actOff m.mat (nth Ac j) = true → Ac.any (actOff m.mat) = true := fun h => any_true' g1 h
      have hNa : actOff m.mat (nth Ac j) = false → ∀ k, k < j + 1 → actOff m.mat (nth Ac k) = false := fun h k hk => by
        by_cases h7 : k = j
        · subst h7; exact h
        · exact hj.2 k (by omega)
      obtain ⟨a, hae⟩ : ∃ a, nth Ac j = a := ⟨_, rfl⟩
      rw [hae] at g4 c hFa hNa
      have ea : actOff m.mat a = (a.kind == 25 && !mMet m.mat a.oxm.field) := rfl
      unfold Action.enc at g4
      unfold oxmS at c
      clear hae hj hN mc
      cases k1 : a.kind == 25
      · rw [k1] at ea
        have hn := hNa ea
        clear hFa hNa ea hF c e
        repeat' (first
         | refine WK.seq ?_
         | refine WK.block ?_
         | refine WK.inBlock ?_
         | refine WK.skip ?_
         | refine WK.condT rfl ?_
         | refine WK.condF rfl ?_
         | (refine Hid.h hQ _ _ ?_; clear hQ hA)
         | (refine WK.regH Tryz.ntmps14 (by kernel_rfl) ?_; intro A hA Q hQ; simp [*])
         | (refine RunQ.gd rfl (by rw [hA.h]; rfl) ?_; simp [*])
         | fail)
        refine WK.next (fun n => n) (IHj (j + 1) (⟨by omega, hn⟩) (by first | omega | (dsimp only; omega))) (by repeat (first | exact TmW.nil | refine TmW.upd ?_ (by simp (maxDischargeDepth := 120) [FlowMod.enc]))) (by repeat (first | exact BxW.nil | refine BxW.upd ?_ (by simp (maxDischargeDepth := 120) [FlowMod.enc]))) (by first | exact InjW.id | exact InjW.nil | exact InjW.one | exact InjW.two (by simp) | exact InjW.three (by simp) (by simp) (by simp))
      cases k2 : mMet m.mat a.oxm.field
      · rw [k1, k2] at ea
        rw [k2] at c
        rw [if_pos (hF (hFa ea))] at e
        rw [e]
        clear hFa hNa ea hF e
        repeat' (first
         | refine WK.seq ?_
         | refine WK.block ?_
         | refine WK.skip ?_
         | refine WK.condT rfl ?_
         | (refine Hid.h hQ _ _ ?_; clear hQ hA)
         | (refine WK.regH Tryz.ntmps14 (by kernel_rfl) ?_; intro A hA Q hQ; simp [gFault, *])
         | (refine RunQ.gd rfl (by rw [hA.h]; rfl) ?_; simp [gFault, *])
         | (refine RunQW.call rfl rfl rfl rfl ?_ (c) ?_ ?_; (focus (simp (maxDischargeDepth := 120) [gFault, *]; done)); (focus (simp [gFault, *]; done)); refine RunQ.evalH ?_; simp [gFault, *])
         | (refine WK.ret Tryz.func14 ?_ ?_ <;> simp (maxDischargeDepth := 120) [Tryz.results14, gFault, *])
         | fail)
      · rw [k1, k2] at ea
        rw [k2] at c
        have hn := hNa ea
        clear hFa hNa ea hF e
        repeat' (first
         | refine WK.seq ?_
         | refine WK.block ?_
         | refine WK.inBlock ?_
         | refine WK.skip ?_
         | refine WK.condT rfl ?_
         | refine WK.condF rfl ?_
         | (refine Hid.h hQ _ _ ?_; clear hQ hA)
         | (refine WK.regH Tryz.ntmps14 (by kernel_rfl) ?_; intro A hA Q hQ; simp [*])
         | (refine RunQ.gd rfl (by rw [hA.h]; rfl) ?_; simp [*])
         | (refine RunQW.call rfl rfl rfl rfl ?_ (c) ?_ ?_; (focus (simp (maxDischargeDepth := 120) [*]; done)); (focus (simp [*]; done)); refine RunQ.evalH ?_; simp [*])
         | fail)
        refine WK.next (fun n => n) (IHj (j + 1) (⟨by omega, hn⟩) (by first | omega | (dsimp only; omega))) (by repeat (first | exact TmW.nil | refine TmW.upd ?_ (by simp (maxDischargeDepth := 120) [FlowMod.enc]))) (by repeat (first | exact BxW.nil | refine BxW.upd ?_ (by simp (maxDischargeDepth := 120) [FlowMod.enc]))) (by first | exact InjW.id | exact InjW.nil | exact InjW.one | exact InjW.two (by simp) | exact InjW.three (by simp) (by simp) (by simp))
    · have hn := hN (any_false' fun k hk => hj.2 k (by omega))
      clear hN hF hj e mc
      repeat' (first
       | refine WK.seq ?_
       | refine WK.inBlock ?_
       | refine WK.exit rfl ?_
       | refine WK.condF rfl ?_
       | (refine Hid.h hQ _ _ ?_; clear hQ hA)
       | (refine WK.regH Tryz.ntmps14 (by kernel_rfl) ?_; intro A hA Q hQ; simp [*])
       | fail)
      refine WK.next (fun n => n) (IH (i + 1) (⟨by omega, hn⟩) (by first | omega | (dsimp only; omega))) (by repeat (first | exact TmW.nil | refine TmW.upd ?_ (by simp (maxDischargeDepth := 120) [FlowMod.enc]))) (by repeat (first | exact BxW.nil | refine BxW.upd ?_ (by simp (maxDischargeDepth := 120) [FlowMod.enc]))) (by first | exact InjW.id | exact InjW.nil | exact InjW.one | exact InjW.two (by simp) | exact InjW.three (by simp) (by simp) (by simp))
  · have ef := any_false' (p := fun i : Inst => i.acts.any (actOff m.mat)) (l := m.insts) fun j hj => hi.2 j (by omega)
    rw [if_neg (by rw [ef]; simp)] at e
    rw [e]
    clear e mc ef
    repeat' (first
     | refine WK.seq ?_
     | refine WK.exit rfl ?_
     | refine WK.condF rfl ?_
     | (refine Hid.h hQ _ _ ?_; clear hQ hA)
     | (refine WK.regH Tryz.ntmps14 (by kernel_rfl) ?_; intro A hA Q hQ; simp [gFault, *])
     | (refine WK.ret Tryz.func14 ?_ ?_ <;> simp (maxDischargeDepth := 120) [Tryz.results14, gFault, *])
     | fail)
theorem fmRight_ref (m : FlowMod) : fmRight m = (((numOk m.table 1 && numOk m.command 1) && (numOk m.idle 2 && (numOk m.hard 2 && (numOk m.prio 2 && numOk m.flags 2)))) && ((numOk m.buffer 4 && (numOk m.outPort 4 && numOk m.outGroup 4)) && ((mEnc m.mat).2 == 0 && ((inEnc m.insts).2 == 0 && (fmCheck m).isNone)))) := by
  have e : (fmZip m).all (fun x => numOk x.1 x.2) = (numOk m.table 1 && (numOk m.command 1 && (numOk m.idle 2 && (numOk m.hard 2 && (numOk m.prio 2 && (numOk m.buffer 4 && (numOk m.outPort 4 && (numOk m.outGroup 4 && numOk m.flags 2)))))))) := by
    simp only [fmZip, fmNums, fmSizes, List.zip_cons_cons, List.zip_nil_left, List.all_cons, List.all_nil, Bool.and_true]
  unfold fmRight
  rw [e]
  ac_rfl
set_option maxHeartbeats 8000000 in
theorem rfmright_c (m : FlowMod) (hm : FmB m) : FnP Tryz.prog 16 [.agg m.enc] (.bool (fmRight m)) := by
  have me := rmencP_c m.mat hm.mat
  have ie := riencP_c m.insts hm.insts hm.acts
  have ck := rfmcheck_c m hm
  have t1 := rright_c m.table 1 Sz1
  have t2 := rright_c m.command 1 Sz1
  have t3 := rright_c m.idle 2 Sz2
  have t4 := rright_c m.hard 2 Sz2
  have t5 := rright_c m.prio 2 Sz2
  have t6 := rright_c m.flags 2 Sz2
  have t7 := rright_c m.buffer 4 Sz4
  have t8 := rright_c m.outPort 4 Sz4
  have t9 := rright_c m.outGroup 4 Sz4
  have e := fmRight_ref m
  obtain ⟨z1, hz1⟩ : ∃ z, numOk m.table 1 = z := ⟨_, rfl⟩
  obtain ⟨z2, hz2⟩ : ∃ z, numOk m.command 1 = z := ⟨_, rfl⟩
  obtain ⟨z3, hz3⟩ : ∃ z, numOk m.idle 2 = z := ⟨_, rfl⟩
  obtain ⟨z4, hz4⟩ : ∃ z, numOk m.hard 2 = z := ⟨_, rfl⟩
  obtain ⟨z5, hz5⟩ : ∃ z, numOk m.prio 2 = z := ⟨_, rfl⟩
  obtain ⟨z6, hz6⟩ : ∃ z, numOk m.flags 2 = z := ⟨_, rfl⟩
  obtain ⟨z7, hz7⟩ : ∃ z, numOk m.buffer 4 = z := ⟨_, rfl⟩
  obtain ⟨z8, hz8⟩ : ∃ z, numOk m.outPort 4 = z := ⟨_, rfl⟩
  obtain ⟨z9, hz9⟩ : ∃ z, numOk m.outGroup 4 = z := ⟨_, rfl⟩
  rw [hz1] at t1 e
  rw [hz2] at t2 e
  rw [hz3] at t3 e
  rw [hz4] at t4 e
  rw [hz5] at t5 e
  rw [hz6] at t6 e
  rw [hz7] at t7 e
  rw [hz8] at t8 e
  rw [hz9] at t9 e
  obtain ⟨M, hM⟩ : ∃ M, mEnc m.mat = M := ⟨_, rfl⟩
  obtain ⟨I, hI⟩ : ∃ I, inEnc m.insts = I := ⟨_, rfl⟩
  obtain ⟨C, hC⟩ : ∃ C, fmCheck m = C := ⟨_, rfl⟩
  rw [hM] at me e
  rw [hI] at ie e
  rw [hC] at ck e
  simp only [byS, oxmS, instS] at me ie
  clear hz1 hz2 hz3 hz4 hz5 hz6 hz7 hz8 hz9 hM hI hC hm
  unfold FlowMod.enc at *
  obtain ⟨M1, M2⟩ := M
  obtain ⟨I1, I2⟩ := I
  simp only at me ie e
  obtain ⟨p, q, hg⟩ : ∃ p q : Int, gFault C = [.bool C.isSome, .int .i64 p, .int .i64 q] := by cases C <;> exact ⟨_, _, rfl⟩
  have hC : C.isNone = !C.isSome := by cases C <;> rfl
  rw [hg] at ck
  rw [hC] at e
  obtain ⟨y, hy⟩ : ∃ y, C.isSome = y := ⟨_, rfl⟩
  rw [hy] at ck e
  clear hg hC hy
  refine FnP.intro Tryz.func16 rfl rfl fun G w => ?_
  repeat' (first
   | refine WK.seq ?_
   | (refine Hid.h hQ _ _ ?_; clear hQ hA)
   | (refine Fork.mk (fun h => ?_) (fun h => ?_) <;> (first | (simp [*] at h; done) | (have h2 := h; simp at h2; exfalso; omega) | (have h2 := h; simp at h2; try simp only [Bool.not_eq_true', Bool.not_eq_false'] at h) | skip))
   | (refine WK.regH Tryz.ntmps16 (by kernel_rfl) ?_; intro A hA Q hQ; simp [*])
   | (refine RunQ.gd rfl (by rw [hA.h]; rfl) ?_; simp [*])
   | (refine RunQ.call rfl rfl rfl rfl rfl ?_ (me) ?_ ?_; (focus (simp (maxDischargeDepth := 120) [*]; done)); (focus (simp [*]; done)); refine RunQ.evalH ?_; simp [*])
   | (refine RunQ.call rfl rfl rfl rfl rfl ?_ (ie) ?_ ?_; (focus (simp (maxDischargeDepth := 120) [*]; done)); (focus (simp [*]; done)); refine RunQ.evalH ?_; simp [*])
   | (refine RunQ.call rfl rfl rfl rfl rfl ?_ (t1) ?_ ?_; (focus (simp (maxDischargeDepth := 120) [*]; done)); (focus (simp [*]; done)); refine RunQ.evalH ?_; simp [*])
   | (refine RunQ.call rfl rfl rfl rfl rfl ?_ (t2) ?_ ?_; (focus (simp (maxDischargeDepth := 120) [*]; done)); (focus (simp [*]; done)); refine RunQ.evalH ?_; simp [*])
   | (refine RunQ.call rfl rfl rfl rfl rfl ?_ (t3) ?_ ?_; (focus (simp (maxDischargeDepth := 120) [*]; done)); (focus (simp [*]; done)); refine RunQ.evalH ?_; simp [*])
   | (refine RunQ.call rfl rfl rfl rfl rfl ?_ (t4) ?_ ?_; (focus (simp (maxDischargeDepth := 120) [*]; done)); (focus (simp [*]; done)); refine RunQ.evalH ?_; simp [*])
   | (refine RunQ.call rfl rfl rfl rfl rfl ?_ (t5) ?_ ?_; (focus (simp (maxDischargeDepth := 120) [*]; done)); (focus (simp [*]; done)); refine RunQ.evalH ?_; simp [*])
   | (refine RunQ.call rfl rfl rfl rfl rfl ?_ (t6) ?_ ?_; (focus (simp (maxDischargeDepth := 120) [*]; done)); (focus (simp [*]; done)); refine RunQ.evalH ?_; simp [*])
   | (refine RunQ.call rfl rfl rfl rfl rfl ?_ (t7) ?_ ?_; (focus (simp (maxDischargeDepth := 120) [*]; done)); (focus (simp [*]; done)); refine RunQ.evalH ?_; simp [*])
   | (refine RunQ.call rfl rfl rfl rfl rfl ?_ (t8) ?_ ?_; (focus (simp (maxDischargeDepth := 120) [*]; done)); (focus (simp [*]; done)); refine RunQ.evalH ?_; simp [*])
   | (refine RunQ.call rfl rfl rfl rfl rfl ?_ (t9) ?_ ?_; (focus (simp (maxDischargeDepth := 120) [*]; done)); (focus (simp [*]; done)); refine RunQ.evalH ?_; simp [*])
   | (refine RunQW.call rfl rfl rfl rfl ?_ (t1) ?_ ?_; (focus (simp (maxDischargeDepth := 120) [*]; done)); (focus (simp [*]; done)); refine RunQ.evalH ?_; simp [*])
   | (refine RunQW.call rfl rfl rfl rfl ?_ (t2) ?_ ?_; (focus (simp (maxDischargeDepth := 120) [*]; done)); (focus (simp [*]; done)); refine RunQ.evalH ?_; simp [*])
   | (refine RunQW.call rfl rfl rfl rfl ?_ (t3) ?_ ?_; (focus (simp (maxDischargeDepth := 120) [*]; done)); (focus (simp [*]; done)); refine RunQ.evalH ?_; simp [*])
   | (refine RunQW.call rfl rfl rfl rfl ?_ (t4) ?_ ?_; (focus (simp (maxDischargeDepth := 120) [*]; done)); (focus (simp [*]; done)); refine RunQ.evalH ?_; simp [*])
   | (refine RunQW.call rfl rfl rfl rfl ?_ (t5) ?_ ?_; (focus (simp (maxDischargeDepth := 120) [*]; done)); (focus (simp [*]; done)); refine RunQ.evalH ?_; simp [*])
   | (refine RunQW.call rfl rfl rfl rfl ?_ (t6) ?_ ?_; (focus (simp (maxDischargeDepth := 120) [*]; done)); (focus (simp [*]; done)); refine RunQ.evalH ?_; simp [*])
   | (refine RunQW.call rfl rfl rfl rfl ?_ (t7) ?_ ?_; (focus (simp (maxDischargeDepth := 120) [*]; done)); (focus (simp [*]; done)); refine RunQ.evalH ?_; simp [*])
   | (refine RunQW.call rfl rfl rfl rfl ?_ (t8) ?_ ?_; (focus (simp (maxDischargeDepth := 120) [*]; done)); (focus (simp [*]; done)); refine RunQ.evalH ?_; simp [*])
   | (refine RunQW.call rfl rfl rfl rfl ?_ (t9) ?_ ?_; (focus (simp (maxDischargeDepth := 120) [*]; done)); (focus (simp [*]; done)); refine RunQ.evalH ?_; simp [*])
   | (refine RunQW.call rfl rfl rfl rfl ?_ (ck) ?_ ?_; (focus (simp (maxDischargeDepth := 120) [*]; done)); (focus (simp [*]; done)); refine RunQ.evalH ?_; simp [*])
   | (refine WK.ret Tryz.func16 ?_ ?_ <;> simp (maxDischargeDepth := 120) [Tryz.results16, *])
   | fail)
set_option maxHeartbeats 8000000 in
theorem rfmsame_c (a b : FlowMod) (ha : FmB a) : FnP Tryz.prog 8 [.agg a.enc, .agg b.enc] (.bool (FlowMod.same a b)) := by
  have ms := rsame_oxm a.mat b.mat (by have := ha.mat; omega)
  have is := rsame_inst a.insts b.insts (by have := ha.insts; omega) ha.acts
  have e : FlowMod.same a b = ((fmNums a == fmNums b) && (a.cookie == b.cookie && (a.cookieMask == b.cookieMask && (eqBy (fun x y : Oxm => x == y) a.mat b.mat && eqBy Inst.same a.insts b.insts)))) := rfl
  obtain ⟨z1, hz1⟩ : ∃ z, eqBy (fun x y : Oxm => x == y) a.mat b.mat = z := ⟨_, rfl⟩
  obtain ⟨z2, hz2⟩ : ∃ z, eqBy Inst.same a.insts b.insts = z := ⟨_, rfl⟩
  rw [hz1] at ms e
  rw [hz2] at is e
  rw [fmNums_eq] at e
  unfold oxmS instS at *
  unfold FlowMod.enc at *
  clear hz1 hz2
  refine FnP.intro Tryz.func8 rfl rfl fun G w => ?_
  repeat' (first
   | refine WK.seq ?_
   | (refine Hid.h hQ _ _ ?_; clear hQ hA)
   | (refine Fork.mk (fun h => ?_) (fun h => ?_) <;> (first | (simp [*] at h; done) | (have h2 := h; simp at h2; exfalso; omega) | (have h2 := h; simp at h2; try simp only [Bool.not_eq_true', Bool.not_eq_false'] at h) | skip))
   | (refine WK.regH Tryz.ntmps8 (by kernel_rfl) ?_; intro A hA Q hQ; simp [*])
   | (refine RunQ.gd rfl (by rw [hA.h]; rfl) ?_; simp [*])
   | (refine RunQW.call rfl rfl rfl rfl ?_ (ms) ?_ ?_; (focus (simp (maxDischargeDepth := 120) [*]; done)); (focus (simp [*]; done)); refine RunQ.evalH ?_; simp [*])
   | (refine RunQW.call rfl rfl rfl rfl ?_ (is) ?_ ?_; (focus (simp (maxDischargeDepth := 120) [*]; done)); (focus (simp [*]; done)); refine RunQ.evalH ?_; simp [*])
   | (refine WK.ret Tryz.func8 ?_ ?_ <;> simp (maxDischargeDepth := 120) [Tryz.results8, *])
   | fail)
set_option maxHeartbeats 4000000 in
theorem rfmenc_c (m : FlowMod) (hm : FmB m) : FnT Tryz.prog 11 [.agg m.enc] (fmEnc m).1.length 1 (byL (fmEnc m).1) [.int .i64 (fmEnc m).2] := by
  have r := rfmright_c m hm
  cases hr : fmRight m
  · have e := fmEnc_bad hr
    rw [hr] at r
    rw [e]
    unfold FlowMod.enc at *
    clear e hr
    refine FnT.intro Tryz.func11 rfl rfl fun G w => ?_
    repeat' (first
     | refine WK.seq ?_
     | refine WK.condT rfl ?_
     | (refine Hid.h hQ _ _ ?_; clear hQ hA)
     | (refine WK.regH Tryz.ntmps11 (by kernel_rfl) ?_; intro A hA Q hQ; simp [*])
     | (refine RunQ.call rfl rfl rfl rfl rfl ?_ (r) ?_ ?_; (focus (simp (maxDischargeDepth := 120) [*]; done)); (focus (simp [*]; done)); refine RunQ.evalH ?_; simp [*])
     | fail)
    refine WK.ghost (Ghost.own 2 900 1 rfl rfl) ?_
    refine WK.retT2 Tryz.func11 ?_ ?_ ?_ <;> simp (maxDischargeDepth := 120) [Tryz.results11, byL_nil]
  obtain ⟨hn, hM, hI, _⟩ := fmRight_facts hr
  have e : (fmEnc m) = (fmHead m ++ ((mEnc m.mat).1 ++ (inEnc m.insts).1), 0) := by unfold fmEnc; rw [if_pos hr]
  rw [hr] at r
  have me := rmencP_c m.mat hm.mat
  have ie := riencP_c m.insts hm.insts hm.acts
  have hMl := mEnc_len m.mat
  have hIl := inEnc_len m.insts
  rw [hM] at me
  rw [hI] at ie
  have w1 := rwput_c [] ⟨0#64, m.cookie⟩ 8 (by omega) (by simp)
  rw [wPut_beN _ _ _ (by omega), wN_lo, List.nil_append] at w1
  have w2 := rwput_c (beN m.cookie.toNat 8) ⟨0#64, m.cookieMask⟩ 8 (by omega) (by simp [beN_len])
  rw [wPut_beN _ _ _ (by omega), wN_lo] at w2
  have hA0 : fmAcc m 0 = beN m.cookie.toNat 8 ++ beN m.cookieMask.toNat 8 := by unfold fmAcc fmFront nsEnc; simp
  rw [← hA0] at w2
  have h0l : (fmAcc m 0).length = 16 := by rw [hA0, List.length_append, beN_len, beN_len]
  have hcl : (beN m.cookie.toNat 8).length = 8 := beN_len _ _
  have hok : ∀ i, i < 9 → numOk (nth (fmNums m) i) (nth fmSizes i) = true := fun i hi => by
    have := hn _ (nth_mem (l := fmZip m) (i := i) hi)
    rw [fmZip_at m hi] at this; exact this
  have step : ∀ i, i < 9 → ∀ n : Int, n = nth (fmNums m) i → ∀ s : Nat, s = nth fmSizes i → Sz s → FnO Tryz.prog 38 [byS (fmAcc m i), .int .i64 n, .int .i64 s] (fmAcc m (i + 1)).length 1 (byL (fmAcc m (i + 1))) := fun i hi n hn s hs hz => by
    subst hn hs
    have hl := fmAcc_len m i
    have c := rput_c (fmAcc m i) (nth (fmNums m) i) (nth fmSizes i) hz (by omega)
    rwa [putN_beN (hok i hi), ← fmAcc_succ m hi] at c
  have len : ∀ i, i < 9 → ∀ k, (fmAcc m i).length = k → (fmAcc m (i + 1)).length = k + nth fmSizes i := fun i hi k hk => by rw [fmAcc_succ m hi, List.length_append, beN_len, hk]
  have l1 : (fmAcc m 1).length = 17 := len 0 (by omega) 16 h0l
  have l2 : (fmAcc m 2).length = 18 := len 1 (by omega) 17 l1
  have l3 : (fmAcc m 3).length = 20 := len 2 (by omega) 18 l2
  have l4 : (fmAcc m 4).length = 22 := len 3 (by omega) 20 l3
  have l5 : (fmAcc m 5).length = 24 := len 4 (by omega) 22 l4
  have l6 : (fmAcc m 6).length = 28 := len 5 (by omega) 24 l5
  have l7 : (fmAcc m 7).length = 32 := len 6 (by omega) 28 l6
  have l8 : (fmAcc m 8).length = 36 := len 7 (by omega) 32 l7
  have c1 := step 0 (by omega) m.table rfl 1 rfl Sz1
  have c2 := step 1 (by omega) m.command rfl 1 rfl Sz1
  have c3 := step 2 (by omega) m.idle rfl 2 rfl Sz2
  have c4 := step 3 (by omega) m.hard rfl 2 rfl Sz2
  have c5 := step 4 (by omega) m.prio rfl 2 rfl Sz2
  have c6 := step 5 (by omega) m.buffer rfl 4 rfl Sz4
  have c7 := step 6 (by omega) m.outPort rfl 4 rfl Sz4
  have c8 := step 7 (by omega) m.outGroup rfl 4 rfl Sz4
  have c9 := step 8 (by omega) m.flags rfl 2 rfl Sz2
  obtain ⟨hAll, hAl⟩ := fmAcc_all m
  simp only [Nat.zero_add, Nat.reduceAdd] at c1 c2 c3 c4 c5 c6 c7 c8 c9
  obtain ⟨C8, hC8⟩ : ∃ C, beN m.cookie.toNat 8 = C := ⟨_, rfl⟩
  rw [hC8] at w1 w2 hcl
  have hcf : (byL C8).take 8 = byL C8 := by_full _ _ hcl.symm
  simp only [byS, oxmS, instS, Wide.enc, uI_zero, hcl, h0l, l1, l2, l3, l4, l5, l6, l7, l8, hAl, byL_nil, List.length_nil] at w1 w2 me ie c1 c2 c3 c4 c5 c6 c7 c8 c9
  have f0 : (byL (fmAcc m 0)).take 16 = byL (fmAcc m 0) := by_full _ _ h0l.symm
  have f1 : (byL (fmAcc m 1)).take 17 = byL (fmAcc m 1) := by_full _ _ l1.symm
  have f2 : (byL (fmAcc m 2)).take 18 = byL (fmAcc m 2) := by_full _ _ l2.symm
  have f3 : (byL (fmAcc m 3)).take 20 = byL (fmAcc m 3) := by_full _ _ l3.symm
  have f4 : (byL (fmAcc m 4)).take 22 = byL (fmAcc m 4) := by_full _ _ l4.symm
  have f5 : (byL (fmAcc m 5)).take 24 = byL (fmAcc m 5) := by_full _ _ l5.symm
  have f6 : (byL (fmAcc m 6)).take 28 = byL (fmAcc m 6) := by_full _ _ l6.symm
  have f7 : (byL (fmAcc m 7)).take 32 = byL (fmAcc m 7) := by_full _ _ l7.symm
  have f8 : (byL (fmAcc m 8)).take 36 = byL (fmAcc m 8) := by_full _ _ l8.symm
  obtain ⟨F0, h0⟩ : ∃ F, fmAcc m 0 = F := ⟨_, rfl⟩
  obtain ⟨F1, h1⟩ : ∃ F, fmAcc m 1 = F := ⟨_, rfl⟩
  obtain ⟨F2, h2⟩ : ∃ F, fmAcc m 2 = F := ⟨_, rfl⟩
  obtain ⟨F3, h3⟩ : ∃ F, fmAcc m 3 = F := ⟨_, rfl⟩
  obtain ⟨F4, h4⟩ : ∃ F, fmAcc m 4 = F := ⟨_, rfl⟩
  obtain ⟨F5, h5⟩ : ∃ F, fmAcc m 5 = F := ⟨_, rfl⟩
  obtain ⟨F6, h6⟩ : ∃ F, fmAcc m 6 = F := ⟨_, rfl⟩
  obtain ⟨F7, h7⟩ : ∃ F, fmAcc m 7 = F := ⟨_, rfl⟩
  obtain ⟨F8, h8⟩ : ∃ F, fmAcc m 8 = F := ⟨_, rfl⟩
  obtain ⟨F, h9⟩ : ∃ F, fmAcc m 9 = F := ⟨_, rfl⟩
  rw [h0] at w2 c1 f0
  rw [h1] at c1 c2 f1
  rw [h2] at c2 c3 f2
  rw [h3] at c3 c4 f3
  rw [h4] at c4 c5 f4
  rw [h5] at c5 c6 f5
  rw [h6] at c6 c7 f6
  rw [h7] at c7 c8 f7
  rw [h8] at c8 c9 f8
  rw [h9] at c9 hAl hAll
  obtain ⟨M, hMM⟩ : ∃ M, (mEnc m.mat).1 = M := ⟨_, rfl⟩
  obtain ⟨I, hII⟩ : ∃ I, (inEnc m.insts).1 = I := ⟨_, rfl⟩
  rw [hMM] at me e hMl
  rw [hII] at ie e hIl
  rw [← hAll] at e
  rw [e]
  have hA2 : byL F ++ [AV.int .u8 0, AV.int .u8 0] = byL (F ++ [0#8, 0#8]) := by rw [byL_app, z2L]
  have hA2l : (F ++ [0#8, 0#8]).length = 40 := by rw [List.length_append, hAl]; rfl
  obtain ⟨H, hH⟩ : ∃ H, F ++ [0#8, 0#8] = H := ⟨_, rfl⟩
  rw [hH] at hA2 hA2l ⊢
  have hA3 : byL H ++ byL M = byL (H ++ M) := (byL_app _ _).symm
  have hA3l : (H ++ M).length = 40 + M.length := by rw [List.length_append, hA2l]
  have hE : H ++ (M ++ I) = (H ++ M) ++ I := (List.append_assoc _ _ _).symm
  rw [hE]
  obtain ⟨K, hK⟩ : ∃ K, H ++ M = K := ⟨_, rfl⟩
  rw [hK] at hA3 hA3l ⊢
  have hA4 : byL K ++ byL I = byL (K ++ I) := (byL_app _ _).symm
  have hA4l : (K ++ I).length = 40 + M.length + I.length := by rw [List.length_append, hA3l]
  obtain ⟨E, hEE⟩ : ∃ E, K ++ I = E := ⟨_, rfl⟩
  rw [hEE] at hA4 hA4l ⊢
  have hfM := by_full M M.length rfl
  have hfI := by_full I I.length rfl
  have hb1 : 40 + M.length ≤ 140737488355328 := by omega
  have hb2 : 40 + M.length + I.length ≤ 140737488355328 := by omega
  simp only
  rw [hA4l]
  clear e hm hr hn hM hI hA0 hC8 hAll hMM hII hok step len l1 l2 l3 l4 l5 l6 l7 l8 h0l h0 h1 h2 h3 h4 h5 h6 h7 h8 h9 hH hE hK hEE hMl hIl hA4l
  unfold FlowMod.enc at *
  refine FnT.intro Tryz.func11 rfl rfl fun G w => ?_
  repeat' (first
   | refine WK.seq ?_
   | refine WK.skip ?_
   | refine WK.condF rfl ?_
   | (refine Hid.h hQ _ _ ?_; clear hQ hA)
   | (refine WK.regH (id := 0) Tryz.ntmps11 (by kernel_rfl) ?_; intro A hA Q hQ; simp [*])
   | (refine WK.regH (id := 1) Tryz.ntmps11 (by kernel_rfl) ?_; intro A hA Q hQ; simp [*])
   | (refine WK.regH (id := 2) Tryz.ntmps11 (by kernel_rfl) ?_; intro A hA Q hQ; simp [*])
   | (refine WK.regH (id := 3) Tryz.ntmps11 (by kernel_rfl) ?_; intro A hA Q hQ; simp [*])
   | (refine WK.regX (id := 0) (by kernel_rfl) Tryz.ntmps11 (by kernel_rfl) ?_; intro A hA Q hQ; simp [*])
   | (refine WK.regX (id := 1) (by kernel_rfl) Tryz.ntmps11 (by kernel_rfl) ?_; intro A hA Q hQ; simp [*])
   | (refine WK.regX (id := 2) (by kernel_rfl) Tryz.ntmps11 (by kernel_rfl) ?_; intro A hA Q hQ; simp [*])
   | (refine WK.regX (id := 3) (by kernel_rfl) Tryz.ntmps11 (by kernel_rfl) ?_; intro A hA Q hQ; simp [*])
   | (refine Hid.h hQ _ _ _ (by decide +kernel) ?_; clear hQ hA)
   | (refine RunX.callO 900 rfl rfl rfl rfl ?_ (w1) ?_ ?_ ?_ ?_; (focus (simp (maxDischargeDepth := 120) [*]; done)); (focus (simp [*]; done)); (focus (simp [*]; done)); (focus (simp [*]; done)); refine RunX.evalY ?_; simp [*])
   | (refine RunX.callOz 901 15 1 rfl rfl rfl rfl rfl rfl ?_ (w2) ?_ ?_ (by simp) (by decide) ?_; (focus (simp (maxDischargeDepth := 120) [*]; done)); (focus (simp [*]; done)); (focus (simp [*]; done)); refine RunX.evalY ?_; simp [*])
   | (refine RunQ.call rfl rfl rfl rfl rfl ?_ (r) ?_ ?_; (focus (simp (maxDischargeDepth := 120) [*]; done)); (focus (simp [*]; done)); refine RunQ.evalH ?_; simp [*])
   | fail)
  repeat' (first
   | refine WK.seq ?_
   | (refine WK.regX (id := 0) (by kernel_rfl) Tryz.ntmps11 (by kernel_rfl) ?_; intro A hA Q hQ; simp [*])
   | (refine WK.regX (id := 1) (by kernel_rfl) Tryz.ntmps11 (by kernel_rfl) ?_; intro A hA Q hQ; simp [*])
   | (refine WK.regX (id := 2) (by kernel_rfl) Tryz.ntmps11 (by kernel_rfl) ?_; intro A hA Q hQ; simp [*])
   | (refine WK.regX (id := 3) (by kernel_rfl) Tryz.ntmps11 (by kernel_rfl) ?_; intro A hA Q hQ; simp [*])
   | (refine WK.regX (id := 4) (by kernel_rfl) Tryz.ntmps11 (by kernel_rfl) ?_; intro A hA Q hQ; simp [*])
   | (refine Hid.h hQ _ _ _ (by decide +kernel) ?_; clear hQ hA)
   | (refine RunX.callOz 902 20 1 rfl rfl rfl rfl rfl rfl ?_ (c1) ?_ ?_ (by simp) (by decide) ?_; (focus (simp (maxDischargeDepth := 120) [*]; done)); (focus (simp [*]; done)); (focus (simp [*]; done)); refine RunX.evalY ?_; simp [*])
   | (refine RunX.callOz 903 23 1 rfl rfl rfl rfl rfl rfl ?_ (c2) ?_ ?_ (by simp) (by decide) ?_; (focus (simp (maxDischargeDepth := 120) [*]; done)); (focus (simp [*]; done)); (focus (simp [*]; done)); refine RunX.evalY ?_; simp [*])
   | fail)
  repeat' (first
   | refine WK.seq ?_
   | (refine WK.regX (id := 0) (by kernel_rfl) Tryz.ntmps11 (by kernel_rfl) ?_; intro A hA Q hQ; simp [*])
   | (refine WK.regX (id := 1) (by kernel_rfl) Tryz.ntmps11 (by kernel_rfl) ?_; intro A hA Q hQ; simp [*])
   | (refine WK.regX (id := 2) (by kernel_rfl) Tryz.ntmps11 (by kernel_rfl) ?_; intro A hA Q hQ; simp [*])
   | (refine WK.regX (id := 3) (by kernel_rfl) Tryz.ntmps11 (by kernel_rfl) ?_; intro A hA Q hQ; simp [*])
   | (refine WK.regX (id := 4) (by kernel_rfl) Tryz.ntmps11 (by kernel_rfl) ?_; intro A hA Q hQ; simp [*])
   | (refine WK.regX (id := 5) (by kernel_rfl) Tryz.ntmps11 (by kernel_rfl) ?_; intro A hA Q hQ; simp [*])
   | (refine Hid.h hQ _ _ _ (by decide +kernel) ?_; clear hQ hA)
   | (refine RunX.callOz 904 27 1 rfl rfl rfl rfl rfl rfl ?_ (c3) ?_ ?_ (by simp) (by decide) ?_; (focus (simp (maxDischargeDepth := 120) [*]; done)); (focus (simp [*]; done)); (focus (simp [*]; done)); refine RunX.evalY ?_; simp [*])
   | (refine RunX.callOz 905 30 1 rfl rfl rfl rfl rfl rfl ?_ (c4) ?_ ?_ (by simp) (by decide) ?_; (focus (simp (maxDischargeDepth := 120) [*]; done)); (focus (simp [*]; done)); (focus (simp [*]; done)); refine RunX.evalY ?_; simp [*])
   | (refine RunX.callOz 906 33 1 rfl rfl rfl rfl rfl rfl ?_ (c5) ?_ ?_ (by simp) (by decide) ?_; (focus (simp (maxDischargeDepth := 120) [*]; done)); (focus (simp [*]; done)); (focus (simp [*]; done)); refine RunX.evalY ?_; simp [*])
   | fail)
  repeat' (first
   | refine WK.seq ?_
   | (refine WK.regX (id := 0) (by kernel_rfl) Tryz.ntmps11 (by kernel_rfl) ?_; intro A hA Q hQ; simp [*])
   | (refine WK.regX (id := 1) (by kernel_rfl) Tryz.ntmps11 (by kernel_rfl) ?_; intro A hA Q hQ; simp [*])
   | (refine WK.regX (id := 2) (by kernel_rfl) Tryz.ntmps11 (by kernel_rfl) ?_; intro A hA Q hQ; simp [*])
   | (refine WK.regX (id := 3) (by kernel_rfl) Tryz.ntmps11 (by kernel_rfl) ?_; intro A hA Q hQ; simp [*])
   | (refine WK.regX (id := 4) (by kernel_rfl) Tryz.ntmps11 (by kernel_rfl) ?_; intro A hA Q hQ; simp [*])
   | (refine WK.regX (id := 5) (by kernel_rfl) Tryz.ntmps11 (by kernel_rfl) ?_; intro A hA Q hQ; simp [*])
   | (refine WK.regX (id := 6) (by kernel_rfl) Tryz.ntmps11 (by kernel_rfl) ?_; intro A hA Q hQ; simp [*])
   | (refine Hid.h hQ _ _ _ (by decide +kernel) ?_; clear hQ hA)
   | (refine RunX.callOz 907 37 1 rfl rfl rfl rfl rfl rfl ?_ (c6) ?_ ?_ (by simp) (by decide) ?_; (focus (simp (maxDischargeDepth := 120) [*]; done)); (focus (simp [*]; done)); (focus (simp [*]; done)); refine RunX.evalY ?_; simp [*])
   | (refine RunX.callOz 908 40 1 rfl rfl rfl rfl rfl rfl ?_ (c7) ?_ ?_ (by simp) (by decide) ?_; (focus (simp (maxDischargeDepth := 120) [*]; done)); (focus (simp [*]; done)); (focus (simp [*]; done)); refine RunX.evalY ?_; simp [*])
   | (refine RunX.callOz 909 43 1 rfl rfl rfl rfl rfl rfl ?_ (c8) ?_ ?_ (by simp) (by decide) ?_; (focus (simp (maxDischargeDepth := 120) [*]; done)); (focus (simp [*]; done)); (focus (simp [*]; done)); refine RunX.evalY ?_; simp [*])
   | fail)
  repeat' (first
   | refine WK.seq ?_
   | (refine Hid.h hQ _ _ ?_; clear hQ hA)
   | (refine WK.regH Tryz.ntmps11 (by kernel_rfl) ?_; intro A hA Q hQ; simp [*])
   | (refine RunQ.callOz 910 47 1 rfl rfl rfl rfl rfl rfl rfl ?_ (c9) ?_ ?_ (by simp) (by decide) ?_; (focus (simp (maxDischargeDepth := 120) [*]; done)); (focus (simp [*]; done)); (focus (simp [*]; done)); refine RunQ.evalH ?_; simp [*])
   | (refine RunQ.append 911 appByte rfl rfl rfl rfl rfl rfl rfl rfl rfl ?_ ?_ ?_ ?_ ?_; (focus (first | omega | (simp [*]; done); done)); (focus (first | omega | (simp [*]; done); done)); (focus (first | omega | (simp [*]; done); done)); (focus (first | omega | (simp [*]; done); done)); refine RunQ.evalH ?_; simp [*])
   | (refine RunQ.append 912 appByte rfl rfl rfl rfl rfl rfl rfl rfl rfl ?_ ?_ ?_ ?_ ?_; (focus (first | omega | (simp [*]; done); done)); (focus (first | omega | (simp [*]; done); done)); (focus (first | omega | (simp [*]; done); done)); (focus (first | omega | (simp [*]; done); done)); refine RunQ.evalH ?_; simp [*])
   | (refine RunQ.append 913 appByte rfl rfl rfl rfl rfl rfl rfl rfl rfl ?_ ?_ ?_ ?_ ?_; (focus (first | omega | (simp [*]; done); done)); (focus (first | omega | (simp [*]; done); done)); (focus (first | omega | (simp [*]; done); done)); (focus (first | omega | (simp [*]; done); done)); refine RunQ.evalH ?_; simp [*])
   | (refine RunQ.call rfl rfl rfl rfl rfl ?_ (me) ?_ ?_; (focus (simp (maxDischargeDepth := 120) [*]; done)); (focus (simp [*]; done)); refine RunQ.evalH ?_; simp [*])
   | (refine RunQ.call rfl rfl rfl rfl rfl ?_ (ie) ?_ ?_; (focus (simp (maxDischargeDepth := 120) [*]; done)); (focus (simp [*]; done)); refine RunQ.evalH ?_; simp [*])
   | (refine WK.retT2 Tryz.func11 ?_ ?_ ?_ <;> simp (maxDischargeDepth := 120) [Tryz.results11, *])
   | fail)
theorem rfmencP_c (m : FlowMod) (hm : FmB m) : FnP Tryz.prog 11 [.agg m.enc] (.tup [byS (fmEnc m).1, .int .i64 (fmEnc m).2]) := by
  have h := (rfmenc_c m hm).toP (by simp [byL_take]) (by rfl)
  rwa [Nat.mul_one, by_full _ _ rfl] at h
end Go.Proofs.YtiifjagnhnchoaaGreat
end

section
set_option linter.unusedVariables false
set_option linter.unusedSimpArgs false
namespace Go.Proofs.YtiifjagnhnchoaaGreat
open Go Go.AI Go.Proofs
attribute [local irreducible] FnP FnO FnB FnT FnSeq WK RunQ RunQW RunX RunXW

set_option maxHeartbeats 4000000 in
theorem flowmodEncodes_c (m n : FlowMod) : FnP Tryz.prog 4 [.agg m.enc, .agg n.enc] (.bool true) := by
  have p1 := pMod_c m
  have p2 := pMod_c n
  cases h1 : FlowMod.plain m
  · rw [h1] at p1
    unfold FlowMod.enc at *
    refine FnP.intro Tryz.func4 rfl rfl fun G w => ?_
    repeat' (first
     | refine WK.seq ?_
     | refine WK.condT rfl ?_
     | (refine Hid.h hQ _ _ ?_; clear hQ hA)
     | (refine WK.regH Tryz.ntmps4 (by kernel_rfl) ?_; intro A hA Q hQ; simp [*])
     | (refine RunQ.gd rfl (by rw [hA.h]; rfl) ?_; simp [*])
     | (refine RunQ.call rfl rfl rfl rfl rfl ?_ (p1) ?_ ?_; (focus (simp (maxDischargeDepth := 120) [*]; done)); (focus (simp [*]; done)); refine RunQ.evalH ?_; simp [*])
     | (refine RunQ.call rfl rfl rfl rfl rfl ?_ (awake17_c) ?_ ?_; (focus (simp (maxDischargeDepth := 120) [*]; done)); (focus (simp [*]; done)); refine RunQ.evalH ?_; simp [*])
     | (refine WK.ret Tryz.func4 ?_ ?_ <;> simp (maxDischargeDepth := 120) [Tryz.results4, *])
     | fail)
  cases h2 : FlowMod.plain n
  · rw [h1] at p1
    rw [h2] at p2
    unfold FlowMod.enc at *
    refine FnP.intro Tryz.func4 rfl rfl fun G w => ?_
    repeat' (first
     | refine WK.seq ?_
     | refine WK.condT rfl ?_
     | (refine Hid.h hQ _ _ ?_; clear hQ hA)
     | (refine WK.regH Tryz.ntmps4 (by kernel_rfl) ?_; intro A hA Q hQ; simp [*])
     | (refine RunQ.gd rfl (by rw [hA.h]; rfl) ?_; simp [*])
     | (refine RunQ.call rfl rfl rfl rfl rfl ?_ (p1) ?_ ?_; (focus (simp (maxDischargeDepth := 120) [*]; done)); (focus (simp [*]; done)); refine RunQ.evalH ?_; simp [*])
     | (refine RunQ.call rfl rfl rfl rfl rfl ?_ (p2) ?_ ?_; (focus (simp (maxDischargeDepth := 120) [*]; done)); (focus (simp [*]; done)); refine RunQ.evalH ?_; simp [*])
     | (refine RunQ.call rfl rfl rfl rfl rfl ?_ (awake17_c) ?_ ?_; (focus (simp (maxDischargeDepth := 120) [*]; done)); (focus (simp [*]; done)); refine RunQ.evalH ?_; simp [*])
     | (refine RunQW.call rfl rfl rfl rfl ?_ (p1) ?_ ?_; (focus (simp (maxDischargeDepth := 120) [*]; done)); (focus (simp [*]; done)); refine RunQ.evalH ?_; simp [*])
     | (refine RunQW.call rfl rfl rfl rfl ?_ (p2) ?_ ?_; (focus (simp (maxDischargeDepth := 120) [*]; done)); (focus (simp [*]; done)); refine RunQ.evalH ?_; simp [*])
     | (refine WK.ret Tryz.func4 ?_ ?_ <;> simp (maxDischargeDepth := 120) [Tryz.results4, *])
     | fail)
  have hm := fmB_plain h1
  have a := fmencP_c m hm
  have b := rfmencP_c m hm
  have r1 := fmright_c m hm
  have r2 := rfmright_c m hm
  have k1 := fmcheck_c m hm
  have k2 := rfmcheck_c m hm
  have s1 := fmsame_c m n hm
  have s2 := rfmsame_c m n hm
  have hE := fmEnc_len m
  have q := bequal_c (fmEnc m).1 (fmEnc m).1 (by omega)
  rw [beq_self_eq_true] at q
  rw [h1] at p1
  rw [h2] at p2
  obtain ⟨x, y, z, hg⟩ : ∃ x y z, gFault (fmCheck m) = [.bool x, .int .i64 y, .int .i64 z] := by cases fmCheck m <;> exact ⟨_, _, _, rfl⟩
  rw [hg] at k1 k2
  obtain ⟨R, hR⟩ : ∃ R, fmEnc m = R := ⟨_, rfl⟩
  rw [hR] at a b q
  obtain ⟨R1, R2⟩ := R
  simp only [byS] at a b q
  unfold FlowMod.enc at *
  clear h1 h2 hm hg hE hR
  refine FnP.intro Tryz.func4 rfl rfl fun G w => ?_
  repeat' (first
   | refine WK.seq ?_
   | refine WK.skip ?_
   | refine WK.condF rfl ?_
   | (refine Hid.h hQ _ _ ?_; clear hQ hA)
   | (refine WK.regH Tryz.ntmps4 (by kernel_rfl) ?_; intro A hA Q hQ; simp [*])
   | (refine WK.regX (by kernel_rfl) Tryz.ntmps4 (by kernel_rfl) ?_; intro A hA Q hQ; simp [*])
   | (refine Hid.h hQ _ _ _ (by decide +kernel) ?_; clear hQ hA)
   | (refine RunQ.gd rfl (by rw [hA.h]; rfl) ?_; simp [*])
   | (refine RunX.gd rfl (by rw [hA.h]; rfl) ?_; simp [*])
   | (refine RunQ.call rfl rfl rfl rfl rfl ?_ (p1) ?_ ?_; (focus (simp (maxDischargeDepth := 120) [*]; done)); (focus (simp [*]; done)); refine RunQ.evalH ?_; simp [*])
   | (refine RunQ.call rfl rfl rfl rfl rfl ?_ (p2) ?_ ?_; (focus (simp (maxDischargeDepth := 120) [*]; done)); (focus (simp [*]; done)); refine RunQ.evalH ?_; simp [*])
   | (refine RunQ.call rfl rfl rfl rfl rfl ?_ (a) ?_ ?_; (focus (simp (maxDischargeDepth := 120) [*]; done)); (focus (simp [*]; done)); refine RunQ.evalH ?_; simp [*])
   | (refine RunQ.call rfl rfl rfl rfl rfl ?_ (b) ?_ ?_; (focus (simp (maxDischargeDepth := 120) [*]; done)); (focus (simp [*]; done)); refine RunQ.evalH ?_; simp [*])
   | (refine RunQW.call rfl rfl rfl rfl ?_ (p1) ?_ ?_; (focus (simp (maxDischargeDepth := 120) [*]; done)); (focus (simp [*]; done)); refine RunQ.evalH ?_; simp [*])
   | (refine RunQW.call rfl rfl rfl rfl ?_ (p2) ?_ ?_; (focus (simp (maxDischargeDepth := 120) [*]; done)); (focus (simp [*]; done)); refine RunQ.evalH ?_; simp [*])
   | (refine RunX.call rfl rfl rfl rfl ?_ (q) ?_ ?_; (focus (simp (maxDischargeDepth := 120) [*]; done)); (focus (simp [*]; done)); refine RunX.evalY ?_; simp [*])
   | (refine RunXW.call rfl rfl rfl ?_ (r1) ?_ ?_; (focus (simp (maxDischargeDepth := 120) [*]; done)); (focus (simp [*]; done)); refine RunX.evalY ?_; simp [*])
   | (refine RunXW.call rfl rfl rfl ?_ (r2) ?_ ?_; (focus (simp (maxDischargeDepth := 120) [*]; done)); (focus (simp [*]; done)); refine RunX.evalY ?_; simp [*])
   | (refine RunXW.call rfl rfl rfl ?_ (k1) ?_ ?_; (focus (simp (maxDischargeDepth := 120) [*]; done)); (focus (simp [*]; done)); refine RunX.evalY ?_; simp [*])
   | (refine RunXW.call rfl rfl rfl ?_ (k2) ?_ ?_; (focus (simp (maxDischargeDepth := 120) [*]; done)); (focus (simp [*]; done)); refine RunX.evalY ?_; simp [*])
   | (refine RunXW.call rfl rfl rfl ?_ (s1) ?_ ?_; (focus (simp (maxDischargeDepth := 120) [*]; done)); (focus (simp [*]; done)); refine RunX.evalY ?_; simp [*])
   | (refine RunXW.call rfl rfl rfl ?_ (s2) ?_ ?_; (focus (simp (maxDischargeDepth := 120) [*]; done)); (focus (simp [*]; done)); refine RunX.evalY ?_; simp [*])
   | (refine RunXW.call rfl rfl rfl ?_ (awake17_c) ?_ ?_; (focus (simp (maxDischargeDepth := 120) [*]; done)); (focus (simp [*]; done)); refine RunX.evalY ?_; simp [*])
   | (refine WK.ret Tryz.func4 ?_ ?_ <;> simp (maxDischargeDepth := 120) [Tryz.results4, *])
   | fail)
end Go.Proofs.YtiifjagnhnchoaaGreat
end
