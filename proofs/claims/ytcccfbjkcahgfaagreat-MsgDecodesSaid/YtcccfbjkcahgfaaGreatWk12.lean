/- Changes of flows: read by the program. -/
import Derived.Test.YtcccfbjkcahgfaaGreatAf
import Derived.Test.YtcccfbjkcahgfaaGreatWk11
set_option linter.all false
set_option linter.unnecessarySimpa false
namespace Go.Proofs.YtcccfbjkcahgfaaGreat
open Go Go.AI Go.Proofs
attribute [local irreducible] FnP FnO FnB FnT FnSeq WK RunQ RunQW RunX RunXW
theorem or_zero8 (x y : BitVec 8) : (bOr .u8 (bI x) (bI y) == 0) = (x == 0#8 && y == 0#8) := by
 have hx : BitVec.ofInt 8 (bI x) = x := by unfold bI; simp
 have hy : BitVec.ofInt 8 (bI y) = y := by unfold bI; simp
 have h : bOr .u8 (bI x) (bI y) = bI (x ||| y) := by
   unfold bOr
   show IntKind.wrap .u8 (((BitVec.ofInt 8 (bI x) ||| BitVec.ofInt 8 (bI y)).toNat : Nat) : Int) = _
   rw [hx, hy, wrap_u8]
   simp
 rw [h, bI_zero, Bool.eq_iff_iff, Bool.and_eq_true, beq_iff_eq, beq_iff_eq, beq_iff_eq]
 constructor
 · intro h
   have hb : ∀ i, i < 8 → x.getLsbD i = false ∧ y.getLsbD i = false := fun i hi => by
     have := congrArg (fun z => z.getLsbD i) h
     simpa using this
   exact ⟨BitVec.eq_of_getLsbD_eq fun i hi => by rw [(hb i hi).1]; simp, BitVec.eq_of_getLsbD_eq fun i hi => by rw [(hb i hi).2]; simp⟩
 · rintro ⟨rfl, rfl⟩; rfl
theorem allZ_two {b : List (BitVec 8)} {p : Nat} (h : p + 2 ≤ b.length) : allZ ((b.drop p).take 2) = (nth b p == 0#8 && nth b (p + 1) == 0#8) := by
 have : (b.drop p).take 2 = [nth b p, nth b (p + 1)] := by
   rw [nth_eq (by omega), nth_eq (by omega), List.drop_eq_getElem_cons (by omega), List.drop_eq_getElem_cons (by omega)]; rfl
 rw [this]; simp [allZ]
theorem nsRead_nth : ∀ (ss : List Nat) (b : List (BitVec 8)) (p i : Nat), i < ss.length → nth (nsRead ss b p) i = (getN b (p + (ss.take i).sum) (nth ss i)).1
 | [], _, _, i, h => by simp at h
 | s :: ss, b, p, 0, h => rfl
 | s :: ss, b, p, i + 1, h => by
   have := nsRead_nth ss b (p + s) i (by simpa using h)
   rw [nsRead, List.take_succ_cons, List.sum_cons, ← Nat.add_assoc]
   exact this
def fmAt (i : Nat) : Nat := 16 + (fmSizes.take i).sum
theorem fmAt_succ {i : Nat} (h : i < 9) : fmAt (i + 1) = fmAt i + nth fmSizes i := by
 unfold fmAt; rw [take_nth (l := fmSizes) (i := i) h, List.sum_append]; simp; omega
theorem fmAt_le : ∀ i : Nat, i < 9 → fmAt i + nth fmSizes i ≤ 38 := by
 intro i hi
 have : i = 0 ∨ i = 1 ∨ i = 2 ∨ i = 3 ∨ i = 4 ∨ i = 5 ∨ i = 6 ∨ i = 7 ∨ i = 8 := by omega
 rcases this with rfl | rfl | rfl | rfl | rfl | rfl | rfl | rfl | rfl <;> decide
def fmPart (N : List Int) (i : Nat) : List AV := intL (N.take i) ++ List.replicate (9 - i) (.int .i64 0)
theorem fmPart_set {N : List Int} (hN : N.length = 9) {i : Nat} (h : i < 9) : splice (fmPart N i) i [.int .i64 (nth N i)] = fmPart N (i + 1) := by
 unfold splice fmPart
 have hl : (intL (N.take i)).length = i := by rw [intL_len, List.length_take]; omega
 have hr : List.replicate (9 - i) (AV.int .i64 0) = .int .i64 0 :: List.replicate (9 - (i + 1)) (.int .i64 0) := by rw [show 9 - i = (9 - (i + 1)) + 1 by omega]; rfl
 rw [List.take_left' hl, hr, List.append_assoc, List.drop_append, hl, show i + [AV.int .i64 (nth N i)].length - i = 1 by simp, List.drop_of_length_le (by rw [hl]; simp), take_nth (by omega)]
 unfold intL
 simp
theorem fmPart_len {N : List Int} (hN : N.length = 9) (i : Nat) (h : i ≤ 9) : (fmPart N i).length = 9 := by
 unfold fmPart; simp; omega
theorem ClL_rep (n : Nat) : ClL (List.replicate n (AV.int .i64 0)) = true := by
 induction n with
 | zero => rfl
 | succ n ih => rw [List.replicate_succ]; simp [ClL, Cl, ih]
@[simp] theorem fmPart_cl (N : List Int) (i : Nat) : ClL (fmPart N i) = true := by unfold fmPart; rw [ClL_append, ClL_rep]; simp
theorem fmPart_all {N : List Int} (hN : N.length = 9) : fmPart N 9 = intL N := by unfold fmPart; rw [List.take_of_length_le (by omega)]; simp
theorem ftake_c (c k n0 n1 n2 n3 n4 n5 n6 n7 n8 : Int) :
   FnB Tryz.prog 104 [.ptr 0 0, .agg [.int .i64 n0, .int .i64 n1, .int .i64 n2, .int .i64 n3, .int .i64 n4, .int .i64 n5, .int .i64 n6, .int .i64 n7, .int .i64 n8]] (.var [.int .u64 c, .int .u64 k, .junk, .junk, .junk, .junk, .junk, .junk, .junk, .junk, .junk, .junk, .junk]) (.tup [])
     (.var [.int .u64 c, .int .u64 k, .int .i64 n0, .int .i64 n1, .int .i64 n2, .int .i64 n3, .int .i64 n4, .int .i64 n5, .int .i64 n6, .int .i64 n7, .int .i64 n8, .junk, .junk]) := by
 refine FnB.intro Tryz.func104 rfl rfl fun G w l => ?_
 refine WK.anyNx (n := 100) ?_
 repeat' (first | apply WK.s | (refine hQ.h _ _ ?_; clear hQ hA) | (refine WK.rH Tryz.ntmps104 (by kernel_rfl) ?_; intro A hA Q hQ; simp [splice, *]) | (refine WK.rX (by kernel_rfl) Tryz.ntmps104 (by kernel_rfl) ?_; intro A hA Q hQ; simp [splice, *]) | (refine hQ.h _ _ _ (by decide +kernel) ?_; clear hQ hA) | (refine WK.retB Tryz.func104 ?_ ?_ rfl (.inl rfl) <;> simp (maxDischargeDepth := 120) [Tryz.results104, splice, *]))
theorem oFlat_ge : ∀ {l : List Oxm}, (∀ o, o ∈ l → Oxm.right o = true) → l.length * 4 ≤ (rwFlat oBytes l).length
 | [], _ => by simp
 | o :: l, h => by
   have ih := oFlat_ge (l := l) fun a ha => h a (List.mem_cons_of_mem _ ha)
   have h5 : 5 ≤ (oBytes o).length := oEnc_ge (h o (by simp))
   have e : rwFlat oBytes (o :: l) = oBytes o ++ rwFlat oBytes l := rfl
   rw [e, List.length_append, List.length_cons]; omega
theorem mEnc_few {l : List Oxm} (h : (mEnc l).2 = 0) : l.length ≤ 250 := by
 obtain ⟨h1, h2, _⟩ := mEnc_zero h
 have := oFlat_ge (mFit_facts h1).2
 omega
theorem mDec_few {b : List (BitVec 8)} {l : List Oxm} {n : Nat} (h : mDec b = (l, n, none)) : l.length ≤ 250 ∧ n ≤ b.length := by
 have h1 := mDec_back h
 exact ⟨mEnc_few (by rw [h1.2.2.2.1]), h1.1⟩
theorem fmB_dec {b e : List (BitVec 8)} {l : List Oxm} {n : Nat} {i : List Inst} (h : mDec b = (l, n, none)) (hi : inDec e = (i, none)) (he : e.length ≤ 100000) (c k : BitVec 64) (N : List Int) : FmB (fmTake c k N l i) := by
 refine ⟨?_, ?_, fun x hx => ?_⟩
 · have := (mDec_few h).1
   show l.length ≤ 10000; omega
 · have := inDone_five (inDec_done hi)
   show i.length ≤ 100; omega
 · have := (inDec_small hi).2 x hx
   omega
theorem fmDec_short {b : List (BitVec 8)} (h : b.length < 40) : fmDec b = (flowMod0, some (1, 6)) := by unfold fmDec; rw [if_pos h]
def f0E : List AV := [.int .u64 0, .int .u64 0, .int .i64 0, .int .i64 0, .int .i64 0, .int .i64 0, .int .i64 0, .int .i64 0, .int .i64 0, .int .i64 0, .int .i64 0, .sl false 0 [], .sl false 0 []]
theorem flowMod0_enc : flowMod0.enc = f0E := rfl
set_option maxHeartbeats 8000000 in
theorem fmdec_c (b : List (BitVec 8)) (hb : b.length ≤ 80000) : FnP Tryz.prog 69 [byS b] (.tup [.agg (fmDec b).1.enc, .agg (gF (fmDec b).2)]) := by
 have b16 := fmbad_c 1 6
 by_cases c0 : b.length < 40
 · have c0' : (b.length : Int) < 40 := by omega
   rw [fmDec_short c0, flowMod0_enc]
   unfold byS
   refine FnP.i Tryz.func69 rfl rfl fun G w => ?_
   repeat' (first | apply WK.s | refine WK.cT rfl ?_ | (refine hQ.h _ _ ?_; clear hQ hA) | (refine WK.rH Tryz.ntmps69 (by kernel_rfl) ?_; intro A hA Q hQ; simp [gF, f0E, *]) | (refine WK.rX (by kernel_rfl) Tryz.ntmps69 (by kernel_rfl) ?_; intro A hA Q hQ; simp [gF, f0E, *]) | (refine hQ.h _ _ _ (by decide +kernel) ?_; clear hQ hA) | (refine RunX.gd rfl (by rw [hA.h]; rfl) ?_; simp [gF, f0E, *]) | (refine RunQ.k rfl rfl rfl rfl rfl ?_ (b16) ?_ ?_ <;> simp (maxDischargeDepth := 120) [gF, f0E, *] <;> refine ⟨?_⟩) | (refine WK.t Tryz.func69 ?_ ?_ <;> simp (maxDischargeDepth := 120) [Tryz.results69, gF, f0E, *]))
 have c0' : ¬ (b.length : Int) < 40 := by omega
 have hde : fmDec b = if allZ ((b.drop 38).take 2) = false then (flowMod0, some (1, 6)) else
     match (mDec (b.drop 40)).2.2 with
     | some c => (flowMod0, some c)
     | none => match (inDec (b.drop (40 + (mDec (b.drop 40)).2.1))).2 with
       | some c => (flowMod0, some c)
       | none => match fmCheck (fmTake (wGet b 8).1.lo (wGet (b.drop 8) 8).1.lo (nsRead fmSizes b 16) (mDec (b.drop 40)).1 (inDec (b.drop (40 + (mDec (b.drop 40)).2.1))).1) with
         | some c => (flowMod0, some c)
         | none => (fmTake (wGet b 8).1.lo (wGet (b.drop 8) 8).1.lo (nsRead fmSizes b 16) (mDec (b.drop 40)).1 (inDec (b.drop (40 + (mDec (b.drop 40)).2.1))).1, none) := by
   unfold fmDec; rw [if_neg c0]; rfl
 have x38 := by_get b 38 (by omega)
 have x39 := by_get b 39 (by omega)
 have u38 : (38 : Int) < b.length := by omega
 have u39 : (39 : Int) < b.length := by omega
 have v38 : 38 < b.length := by omega
 have v39 : 39 < b.length := by omega
 have zo := or_zero8 (nth b 38) (nth b 39)
 rw [allZ_two (p := 38) (by omega)] at hde
 obtain ⟨X38, hX38⟩ : ∃ X, bI (nth b 38) = X := ⟨_, rfl⟩
 obtain ⟨X39, hX39⟩ : ∃ X, bI (nth b 39) = X := ⟨_, rfl⟩
 rw [hX38] at x38 zo
 rw [hX39] at x39 zo
 obtain ⟨z, hz⟩ : ∃ z, (nth b 38 == 0#8 && nth b (38 + 1) == 0#8) = z := ⟨_, rfl⟩
 rw [show (nth b 38 == 0#8 && nth b 39 == 0#8) = z from hz] at zo
 rw [hz] at hde
 clear hX38 hX39 hz
 cases z
 case false =>
   rw [if_pos rfl] at hde
   rw [hde, flowMod0_enc]
   unfold byS
   clear hde
   refine FnP.i Tryz.func69 rfl rfl fun G w => ?_
   repeat' (first | apply WK.s | refine WK.cT rfl ?_ | (refine hQ.h _ _ ?_; clear hQ hA) | (refine WK.rH Tryz.ntmps69 (by kernel_rfl) ?_; intro A hA Q hQ; simp [gF, f0E, bne, *]) | (refine WK.rX (by kernel_rfl) Tryz.ntmps69 (by kernel_rfl) ?_; intro A hA Q hQ; simp [gF, f0E, bne, *]) | (refine hQ.h _ _ _ (by decide +kernel) ?_; clear hQ hA) | (refine RunX.gd rfl (by rw [hA.h]; rfl) ?_; simp [gF, f0E, bne, *]) | (refine RunQ.k rfl rfl rfl rfl rfl ?_ (b16) ?_ ?_ <;> simp (maxDischargeDepth := 120) [gF, f0E, bne, *] <;> refine ⟨?_⟩) | (refine WK.t Tryz.func69 ?_ ?_ <;> simp (maxDischargeDepth := 120) [Tryz.results69, gF, f0E, bne, *]))
 rw [if_neg (by simp)] at hde
 have g1 := wget_c b 8 (by omega) (by omega)
 have g2 := wget_c (b.drop 8) 8 (by omega) (by rw [List.length_drop]; omega)
 have hs8 : ((byL b).drop 8).take (b.length - 8) = byL (b.drop 8) := by rw [byL_drop]; exact by_full _ _ (by rw [List.length_drop])
 have hs40 : ((byL b).drop 40).take (b.length - 40) = byL (b.drop 40) := by rw [byL_drop]; exact by_full _ _ (by rw [List.length_drop])
 have u8 : (8 : Int) ≤ b.length := by omega
 have u40 : (40 : Int) ≤ b.length := by omega
 have md := mdec_c (b.drop 40) (by rw [List.length_drop]; omega)
 have sz := fsizes_c
 have gN : ∀ i, i < 9 → FnP Tryz.prog 38 [byS b, .int .i64 ((fmAt i : Nat) : Int), .int .i64 ((nth fmSizes i : Nat) : Int)] (.tup [.int .i64 (getN b (fmAt i) (nth fmSizes i)).1, .int .i64 (getN b (fmAt i) (nth fmSizes i)).2]) := fun i hi => nget_c b (fmAt i) (nth fmSizes i) (fmSize_at i hi).2.1 (by omega) (by have := fmAt_le i hi; omega)
 have hNn : ∀ i, i < 9 → (getN b (fmAt i) (nth fmSizes i)).1 = nth (nsRead fmSizes b 16) i := fun i hi => (nsRead_nth fmSizes b 16 i hi).symm
 have hNl : (nsRead fmSizes b 16).length = 9 := nsRead_len _ _ _
 obtain ⟨n0, n1, n2, n3, n4, n5, n6, n7, n8, hNe⟩ : ∃ n0 n1 n2 n3 n4 n5 n6 n7 n8, nsRead fmSizes b 16 = [n0, n1, n2, n3, n4, n5, n6, n7, n8] := ⟨_, _, _, _, _, _, _, _, _, rfl⟩
 obtain ⟨N, hN⟩ : ∃ N, nsRead fmSizes b 16 = N := ⟨_, rfl⟩
 rw [hN] at hNn hNl hNe hde
 obtain ⟨w1, hw1⟩ : ∃ w, wGet b 8 = w := ⟨_, rfl⟩
 obtain ⟨w2, hw2⟩ : ∃ w, wGet (b.drop 8) 8 = w := ⟨_, rfl⟩
 rw [hw1] at g1 hde
 rw [hw2] at g2 hde
 obtain ⟨⟨h1, c⟩, o1⟩ := w1
 obtain ⟨⟨h2, k⟩, o2⟩ := w2
 simp only [byS, Wide.enc, List.length_drop] at g1 g2 md gN
 simp only at hde
 have ft := ftake_c (uI c) (uI k) n0 n1 n2 n3 n4 n5 n6 n7 n8
 have hP0 : fmPart N 0 = [.int .i64 0, .int .i64 0, .int .i64 0, .int .i64 0, .int .i64 0, .int .i64 0, .int .i64 0, .int .i64 0, .int .i64 0] := rfl
 have hA0 : fmAt 0 = 16 := rfl
 have hsl : (intL fmSizesI).length = 9 := rfl
 obtain ⟨B8, hB8⟩ : ∃ B, b.drop 8 = B := ⟨_, rfl⟩
 rw [hB8] at g2 hs8
 clear hN hw1 hw2 hB8 c0
 unfold byS
 refine FnP.i Tryz.func69 rfl rfl fun G w => ?_
 repeat' (first | apply WK.s | apply WK.b | apply WK.k | refine WK.cF rfl ?_ | (refine hQ.h _ _ ?_; clear hQ hA) | (refine WK.rH Tryz.ntmps69 (by kernel_rfl) ?_; intro A hA Q hQ; simp [bne, *]) | (refine WK.rX (by kernel_rfl) Tryz.ntmps69 (by kernel_rfl) ?_; intro A hA Q hQ; simp [bne, *]) | (refine hQ.h _ _ _ (by decide +kernel) ?_; clear hQ hA) | (refine RunX.gd rfl (by rw [hA.h]; rfl) ?_; simp [bne, *]) | (refine RunQ.k rfl rfl rfl rfl rfl ?_ (g1) ?_ ?_ <;> simp (maxDischargeDepth := 120) [bne, *] <;> refine ⟨?_⟩) | (refine RunQ.k rfl rfl rfl rfl rfl ?_ (g2) ?_ ?_ <;> simp (maxDischargeDepth := 120) [bne, *] <;> refine ⟨?_⟩) | (refine RunQ.k rfl rfl rfl rfl rfl ?_ (sz) ?_ ?_ <;> simp (maxDischargeDepth := 120) [bne, *] <;> refine ⟨?_⟩))
 refine WK.lI (fun n => n) (fun i : Nat => (⟨(upd (upd (upd (upd (upd (upd (upd (upd J 0 (.sl false b.length (byL b))) 2 (.ptr 0 0)) 3 (.ptr 1 0)) 4 (.ptr 201 0)) 9 (.int .i64 (fmAt i : Nat))) 10 (.ptr 700 0)) 58 (.agg (intL fmSizesI))) 59 (.int .i64 i)), (upd (upd (upd (upd B0 0 (.var [.junk, .junk, .junk, .junk, .junk, .junk, .junk, .junk, .junk, .junk, .junk, .junk, .junk])) 1 (.var [.junk, .junk, .junk])) 201 (.var [.int .u64 (uI c), .int .u64 (uI k), .junk, .junk, .junk, .junk, .junk, .junk, .junk, .junk, .junk, .junk, .junk])) 700 (.var (fmPart N i))), 0⟩ : St)) (fun i => i ≤ 9) (fun i => 9 - i) (0) (by repeat (first | exact TmW.nil | refine TmW.upd ?_ (by simp (maxDischargeDepth := 120) [hP0, hA0]))) (by repeat (first | exact BxW.nil | refine BxW.upd ?_ (by simp (maxDischargeDepth := 120) [hP0, hA0]))) InjW.id (Nat.zero_le _) (fun i hi IH => ?_)
 clear g1 g2 sz hP0 hA0 x38 x39 zo u38 u39 v38 v39 b16 hs8 u8
 by_cases h1 : i < 9
 · obtain ⟨s1, s2, s3⟩ := fmSize_at i h1
   have h1' : (i : Int) < 9 := by omega
   have h6 : IntKind.i64.wrap ((i : Int) + 1) = i + 1 := wrap_i64 (by omega) (by omega)
   have ha := fmAt_le i h1
   have h8 : i ≤ 8 := by omega
   have hw : IntKind.i64.wrap ((fmAt i : Int) + (nth fmSizes i : Nat)) = ((fmAt (i + 1) : Nat) : Int) := by rw [fmAt_succ h1, wrap_i64 (by omega) (by omega)]; omega
   have g := gN i h1
   rw [hNn i h1] at g
   have gz := intL_get' fmSizesI i h1
   rw [s1] at gz
   have hset := fmPart_set hNl h1
   have hPl := fmPart_len hNl i (by omega)
   unfold splice at hset
   obtain ⟨x, hx⟩ : ∃ x, nth N i = x := ⟨_, rfl⟩
   obtain ⟨s, hs⟩ : ∃ x, nth fmSizes i = x := ⟨_, rfl⟩
   obtain ⟨p, hp⟩ : ∃ x, fmAt i = x := ⟨_, rfl⟩
   rw [hx] at g hset
   rw [hs] at g gz hw
   rw [hp] at g hw ⊢
   obtain ⟨F, hF⟩ : ∃ F, fmPart N i = F := ⟨_, rfl⟩
   rw [hF] at hset hPl ⊢
   simp only [List.append_assoc, List.cons_append, List.nil_append, List.length_cons, List.length_nil, Nat.zero_add] at hset
   clear hx hs hp hF hNn gN hde md ft hNe s1 s2 s3 ha
   repeat' (first | apply WK.s | apply WK.b | apply WK.n | apply WK.k | refine WK.cT rfl ?_ | (refine hQ.h _ _ ?_; clear hQ hA) | (refine WK.rH Tryz.ntmps69 (by kernel_rfl) ?_; intro A hA Q hQ; simp [*]) | (refine RunQ.k rfl rfl rfl rfl rfl ?_ (g) ?_ ?_ <;> simp (maxDischargeDepth := 120) [*] <;> refine ⟨?_⟩))
   refine WK.next (fun n => n) (IH (i + 1) (by omega) (by first | omega | (dsimp only; omega))) (by repeat (first | exact TmW.nil | refine TmW.upd ?_ (by simp (maxDischargeDepth := 120) [hset, hw]))) (by repeat (first | exact BxW.nil | refine BxW.upd ?_ (by simp (maxDischargeDepth := 120) [hset, hw]))) InjW.id
 · have hi9 : i = 9 := by omega
   subst hi9
   have hPA : fmPart N 9 = [.int .i64 n0, .int .i64 n1, .int .i64 n2, .int .i64 n3, .int .i64 n4, .int .i64 n5, .int .i64 n6, .int .i64 n7, .int .i64 n8] := by rw [fmPart_all hNl, hNe]; rfl
   rw [hPA]
   clear hPA hNn gN h1 hsl
   obtain ⟨l, n, q, hM⟩ : ∃ l n q, mDec (b.drop 40) = (l, n, q) := ⟨_, _, _, rfl⟩
   rw [hM] at md hde
   simp only at hde
   unfold oxmS at md
   have hdl : (b.drop 40).length = b.length - 40 := by rw [List.length_drop]
   cases q with
   | some q =>
     simp only at hde
     rw [hde, flowMod0_enc]
     obtain ⟨B40, hB40⟩ : ∃ B, b.drop 40 = B := ⟨_, rfl⟩
     rw [hB40] at md hs40
     clear hde hM hB40 hNe hNl hdl
     repeat' (first | apply WK.s | refine WK.exit rfl ?_ | refine WK.cT rfl ?_ | refine WK.cF rfl ?_ | (refine hQ.h _ _ ?_; clear hQ hA) | (refine WK.rH Tryz.ntmps69 (by kernel_rfl) ?_; intro A hA Q hQ; simp [gF, f0E, *]) | (refine WK.rX (by kernel_rfl) Tryz.ntmps69 (by kernel_rfl) ?_; intro A hA Q hQ; simp [gF, f0E, *]) | (refine hQ.h _ _ _ (by decide +kernel) ?_; clear hQ hA) | (refine RunQ.callB 201 rfl rfl rfl rfl rfl (ft) ?_ ?_ rfl rfl ?_ ?_ ?_; (focus (simp (maxDischargeDepth := 120) [gF, f0E, *]; done)); (focus (simp (maxDischargeDepth := 120) [gF, f0E, *]; done)); (focus (simp [gF, f0E, *]; done)); (focus (simp [gF, f0E, *]; done)); refine RunQ.e ?_; simp [gF, f0E, *]) | (refine RunQ.k rfl rfl rfl rfl rfl ?_ (md) ?_ ?_ <;> simp (maxDischargeDepth := 120) [gF, f0E, *] <;> refine ⟨?_⟩) | (refine WK.t Tryz.func69 ?_ ?_ <;> simp (maxDischargeDepth := 120) [Tryz.results69, gF, f0E, *]))
   | none =>
   simp only at hde
   have hn := (mDec_few hM).2
   rw [hdl] at hn
   have id := idecP_c (b.drop (40 + n)) (by rw [List.length_drop]; omega)
   have hel : (b.drop (40 + n)).length = b.length - (40 + n) := by rw [List.length_drop]
   have hsn : ((byL b).drop (40 + n)).take (b.length - (40 + n)) = byL (b.drop (40 + n)) := by rw [byL_drop]; exact by_full _ _ (by rw [List.length_drop])
   have wn : IntKind.i64.wrap (40 + (n : Int)) = ((40 + n : Nat) : Int) := by rw [wrap_i64 (by omega) (by omega)]; omega
   have un : ((40 + n : Nat) : Int) ≤ b.length := by omega
   have vn : 40 + n ≤ b.length := by omega
   obtain ⟨is, q, hI⟩ : ∃ is q, inDec (b.drop (40 + n)) = (is, q) := ⟨_, _, rfl⟩
   rw [hI] at id hde
   simp only at hde
   have hB := fun (h : q = none) => fmB_dec (b := b.drop 40) (e := b.drop (40 + n)) hM (h ▸ hI) (by rw [List.length_drop]; omega) c k N
   simp only [byS, instS, hel] at id
   obtain ⟨E, hE⟩ : ∃ B, b.drop (40 + n) = B := ⟨_, rfl⟩
   rw [hE] at id hsn
   obtain ⟨B40, hB40⟩ : ∃ B, b.drop 40 = B := ⟨_, rfl⟩
   rw [hB40] at md hs40
   obtain ⟨p, hp⟩ : ∃ p, 40 + n = p := ⟨_, rfl⟩
   rw [hp] at id hsn wn un vn
   clear hM hI hdl hel hE hB40 hp hn
   cases q with
   | some q =>
     simp only at hde
     rw [hde, flowMod0_enc]
     clear hde hB hNe hNl
     repeat' (first | apply WK.s | apply WK.k | refine WK.exit rfl ?_ | refine WK.cT rfl ?_ | refine WK.cF rfl ?_ | (refine hQ.h _ _ ?_; clear hQ hA) | (refine WK.rH Tryz.ntmps69 (by kernel_rfl) ?_; intro A hA Q hQ; simp [gF, f0E, *]) | (refine WK.rX (by kernel_rfl) Tryz.ntmps69 (by kernel_rfl) ?_; intro A hA Q hQ; simp [gF, f0E, *]) | (refine hQ.h _ _ _ (by decide +kernel) ?_; clear hQ hA) | (refine RunQ.callB 201 rfl rfl rfl rfl rfl (ft) ?_ ?_ rfl rfl ?_ ?_ ?_; (focus (simp (maxDischargeDepth := 120) [gF, f0E, *]; done)); (focus (simp (maxDischargeDepth := 120) [gF, f0E, *]; done)); (focus (simp [gF, f0E, *]; done)); (focus (simp [gF, f0E, *]; done)); refine RunQ.e ?_; simp [gF, f0E, *]) | (refine RunQ.k rfl rfl rfl rfl rfl ?_ (md) ?_ ?_ <;> simp (maxDischargeDepth := 120) [gF, f0E, *] <;> refine ⟨?_⟩) | (refine RunQ.k rfl rfl rfl rfl rfl ?_ (id) ?_ ?_ <;> simp (maxDischargeDepth := 120) [gF, f0E, *] <;> refine ⟨?_⟩) | (refine WK.t Tryz.func69 ?_ ?_ <;> simp (maxDischargeDepth := 120) [Tryz.results69, gF, f0E, *]))
   | none =>
   simp only at hde
   have ck := fmcheck_c _ (hB rfl)
   rw [hNe] at hde ck
   obtain ⟨C, hC⟩ : ∃ C, fmCheck (fmTake c k [n0, n1, n2, n3, n4, n5, n6, n7, n8] l is) = C := ⟨_, rfl⟩
   rw [hC] at ck hde
   have hT : (fmTake c k [n0, n1, n2, n3, n4, n5, n6, n7, n8] l is).enc = [.int .u64 (uI c), .int .u64 (uI k), .int .i64 n0, .int .i64 n1, .int .i64 n2, .int .i64 n3, .int .i64 n4, .int .i64 n5, .int .i64 n6, .int .i64 n7, .int .i64 n8, .sl false l.length (oxmL l), .sl false is.length (instL is)] := rfl
   rw [hT] at ck
   cases C with
   | some q =>
     simp only at hde
     rw [hde, flowMod0_enc]
     clear hde hB hNe hNl hC hT
     repeat' (first | apply WK.s | apply WK.k | refine WK.exit rfl ?_ | refine WK.cT rfl ?_ | refine WK.cF rfl ?_ | (refine hQ.h _ _ ?_; clear hQ hA) | (refine WK.rH Tryz.ntmps69 (by kernel_rfl) ?_; intro A hA Q hQ; simp [gF, f0E, splice, *]) | (refine WK.rX (by kernel_rfl) Tryz.ntmps69 (by kernel_rfl) ?_; intro A hA Q hQ; simp [gF, f0E, splice, *]) | (refine hQ.h _ _ _ (by decide +kernel) ?_; clear hQ hA) | (refine RunQ.callB 201 rfl rfl rfl rfl rfl (ft) ?_ ?_ rfl rfl ?_ ?_ ?_; (focus (simp (maxDischargeDepth := 120) [gF, f0E, splice, *]; done)); (focus (simp (maxDischargeDepth := 120) [gF, f0E, splice, *]; done)); (focus (simp [gF, f0E, splice, *]; done)); (focus (simp [gF, f0E, splice, *]; done)); refine RunQ.e ?_; simp [gF, f0E, splice, *]) | (refine RunQ.k rfl rfl rfl rfl rfl ?_ (md) ?_ ?_ <;> simp (maxDischargeDepth := 120) [gF, f0E, splice, *] <;> refine ⟨?_⟩) | (refine RunQ.k rfl rfl rfl rfl rfl ?_ (id) ?_ ?_ <;> simp (maxDischargeDepth := 120) [gF, f0E, splice, *] <;> refine ⟨?_⟩) | (refine RunQ.k rfl rfl rfl rfl rfl ?_ (ck) ?_ ?_ <;> simp (maxDischargeDepth := 120) [gF, f0E, splice, *] <;> refine ⟨?_⟩) | (refine WK.t Tryz.func69 ?_ ?_ <;> simp (maxDischargeDepth := 120) [Tryz.results69, gF, f0E, splice, *]))
   | none =>
     simp only at hde
     rw [hde]
     simp only
     rw [hT]
     clear hde hB hNe hNl hC hT
     repeat' (first | apply WK.s | apply WK.k | refine WK.exit rfl ?_ | refine WK.cF rfl ?_ | (refine hQ.h _ _ ?_; clear hQ hA) | (refine WK.rH Tryz.ntmps69 (by kernel_rfl) ?_; intro A hA Q hQ; simp [gF, splice, *]) | (refine RunQ.callB 201 rfl rfl rfl rfl rfl (ft) ?_ ?_ rfl rfl ?_ ?_ ?_; (focus (simp (maxDischargeDepth := 120) [gF, splice, *]; done)); (focus (simp (maxDischargeDepth := 120) [gF, splice, *]; done)); (focus (simp [gF, splice, *]; done)); (focus (simp [gF, splice, *]; done)); refine RunQ.e ?_; simp [gF, splice, *]) | (refine RunQ.k rfl rfl rfl rfl rfl ?_ (md) ?_ ?_ <;> simp (maxDischargeDepth := 120) [gF, splice, *] <;> refine ⟨?_⟩) | (refine RunQ.k rfl rfl rfl rfl rfl ?_ (id) ?_ ?_ <;> simp (maxDischargeDepth := 120) [gF, splice, *] <;> refine ⟨?_⟩) | (refine RunQ.k rfl rfl rfl rfl rfl ?_ (ck) ?_ ?_ <;> simp (maxDischargeDepth := 120) [gF, splice, *] <;> refine ⟨?_⟩) | (refine WK.t Tryz.func69 ?_ ?_ <;> simp (maxDischargeDepth := 120) [Tryz.results69, gF, splice, *]))

theorem fmDec_B {b : List (BitVec 8)} {m : FlowMod} (hb : b.length ≤ 80000) (h : fmDec b = (m, none)) : FmB m := by
 unfold fmDec at h
 split at h
 · cases h
 split at h
 · cases h
 obtain ⟨l, n, c, hm⟩ : ∃ l n c, mDec (b.drop 40) = (l, n, c) := ⟨_, _, _, rfl⟩
 rw [hm] at h
 cases c with
 | some c => simp at h
 | none =>
 simp only at h
 obtain ⟨i, c, hi⟩ : ∃ i c, inDec (b.drop (40 + n)) = (i, c) := ⟨_, _, rfl⟩
 rw [hi] at h
 cases c with
 | some c => simp at h
 | none =>
 simp only at h
 split at h
 · cases h
 · cases h
   exact fmB_dec hm hi (by rw [List.length_drop]; omega) _ _ _
theorem flowMod0_B : FmB flowMod0 := ⟨by simp [flowMod0], by simp [flowMod0], fun x hx => by simp [flowMod0] at hx⟩

theorem bsOk : BsOk Tryz.prog 32 9 := ⟨_, Tryz.underlying32, Tryz.underlying5, Tryz.underlying9⟩
theorem bStr_eq (l m : List (BitVec 8)) : ((strOfNums (l.map bI)).toList == (strOfNums (m.map bI)).toList) = (l == m) := by
 have hr : ∀ k : List (BitVec 8), ∀ x, x ∈ k.map bI → 0 ≤ x ∧ x < 256 := fun k x hx => by
   obtain ⟨y, _, rfl⟩ := List.mem_map.1 hx
   have := y.isLt
   unfold bI; omega
 rw [strOfNums_eq _ _ (hr l) (hr m), Bool.eq_iff_iff, beq_iff_eq, beq_iff_eq]
 constructor
 · intro h
   exact (List.map_inj_right (fun x y h => BitVec.eq_of_toNat_eq (by unfold bI at h; omega))).1 h
 · intro h; rw [h]
theorem bytesEq_c (l m : List (BitVec 8)) : FnP Tryz.prog 11 [byS l, byS m] (.bool (l == m)) := by
 have e := bStr_eq l m
 unfold byS
 refine FnP.i Tryz.func11 rfl rfl fun G w => ?_
 repeat' (first | apply WK.s | (refine hQ.h _ _ ?_; clear hQ hA) | (refine WK.rH Tryz.ntmps11 (by kernel_rfl) ?_; intro A hA Q hQ; simp [*]) | (refine RunQ.bytesStr (l.map bI) bsOk rfl rfl rfl rfl ?_ ?_ ?_; (focus (simp [byL]; done)); (focus (simp; done)); refine RunQ.e ?_; simp [*]) | (refine RunQ.bytesStr (m.map bI) bsOk rfl rfl rfl rfl ?_ ?_ ?_; (focus (simp [byL]; done)); (focus (simp; done)); refine RunQ.e ?_; simp [*]) | (refine WK.t Tryz.func11 ?_ ?_ <;> simp (maxDischargeDepth := 120) [Tryz.results11, *]))
theorem bytesClone_c (l : List (BitVec 8)) (hl : l.length ≤ 1000000) : FnP Tryz.prog 67 [byS l] (byS l) := by
 unfold byS
 cases l with
 | nil =>
   refine FnP.i Tryz.func67 rfl rfl fun G w => ?_
   repeat' (first | apply WK.s | apply WK.k | (refine hQ.h _ _ ?_; clear hQ hA) | refine WK.condAny rfl ?_ ?_ | (refine WK.rH Tryz.ntmps67 (by kernel_rfl) ?_; intro A hA Q hQ; simp [b0_, *]) | (refine RunQ.appendN appByte rfl rfl rfl rfl rfl rfl rfl rfl ?_; refine RunQ.e ?_; simp [b0_, *]) | (refine WK.t Tryz.func67 ?_ ?_ <;> simp (maxDischargeDepth := 120) [Tryz.results67, b0_, *]))
 | cons x l =>
   have hfu := by_full (x :: l) (l.length + 1) rfl
   have hbl : (byL (x :: l)).length = l.length + 1 := by rw [byL_len]; rfl
   have hcl : ClL (byL (x :: l)) = true := byL_cl _
   simp only [List.length_cons] at hl ⊢
   have hb : l.length + 1 ≤ 140737488355328 := by omega
   obtain ⟨B, hB⟩ : ∃ B, byL (x :: l) = B := ⟨_, rfl⟩
   rw [hB] at hfu hbl hcl ⊢
   clear hB
   refine FnP.i Tryz.func67 rfl rfl fun G w => ?_
   repeat' (first | apply WK.s | apply WK.k | refine WK.cF rfl ?_ | (refine hQ.h _ _ ?_; clear hQ hA) | (refine WK.rH Tryz.ntmps67 (by kernel_rfl) ?_; intro A hA Q hQ; simp [*]) | (refine RunQ.append0 900 901 appByte rfl rfl rfl rfl rfl rfl rfl ?_ rfl ?_ ?_ ?_ ?_ ?_ ?_; (focus (simp [*]; done)); (focus (first | omega | (simp [*]; done); done)); (focus (first | omega | (simp [*]; done); done)); (focus (simp [*]; done)); (focus (simp [*]; done)); (focus (simp [*]; done)); refine RunQ.e ?_; simp [*]))
   refine WK.ghost (Ghost.frzSl 2 1 rfl rfl) ?_
   repeat' (first | (refine WK.t Tryz.func67 ?_ ?_ <;> simp (maxDischargeDepth := 120) [Tryz.results67, *]))
theorem fof_c (k n : Int) : FnP Tryz.prog 66 [.int .i64 k, .int .i64 n] (.agg (gF (some (k, n)))) := by
 refine FnP.i Tryz.func66 rfl rfl fun G w => ?_
 repeat' (first | apply WK.s | (refine hQ.h _ _ ?_; clear hQ hA) | (refine WK.rH Tryz.ntmps66 (by kernel_rfl) ?_; intro A hA Q hQ; simp [*]) | (refine WK.t Tryz.func66 ?_ ?_ <;> simp (maxDischargeDepth := 120) [Tryz.results66, gF, *]))
theorem sclone_c (l : List (BitVec 8)) (hl : l.length ≤ 1000000) : FnP Tryz.prog 47 [byS l] (byS l) := by
 have h := (clone_by l hl).toP (by rw [Nat.mul_one, by_full _ _ rfl]; simp)
 rwa [Nat.mul_one, by_full _ _ rfl] at h
theorem fparse_short (b : List (BitVec 8)) (h : b.length < 4) : FnP Tryz.prog 68 [byS b] (.tup [.agg (gF none), .sl false 0 [], .bool false]) := by
 have g0 := nget_c b 0 2 Sz2 (by omega) (by omega)
 have g2 := nget_c b 2 2 Sz2 (by omega) (by omega)
 have e2 : getN b 2 2 = (0, 3) := by unfold getN; rw [if_neg (by omega)]
 rw [e2] at g2
 by_cases h2 : b.length < 2
 · have e0 : getN b 0 2 = (0, 3) := by unfold getN; rw [if_neg (by omega)]
   rw [e0] at g0
   unfold byS at *
   refine FnP.i Tryz.func68 rfl rfl fun G w => ?_
   repeat' (first | apply WK.s | refine WK.cT rfl ?_ | (refine hQ.h _ _ ?_; clear hQ hA) | (refine WK.rH Tryz.ntmps68 (by kernel_rfl) ?_; intro A hA Q hQ; simp [gF, bne, *]) | (refine RunQ.g rfl (by rw [hA.h]; rfl) ?_; simp [gF, bne, *]) | (refine RunQ.k rfl rfl rfl rfl rfl ?_ (g0) ?_ ?_ <;> simp (maxDischargeDepth := 120) [gF, bne, *] <;> refine ⟨?_⟩) | (refine RunQ.k rfl rfl rfl rfl rfl ?_ (g2) ?_ ?_ <;> simp (maxDischargeDepth := 120) [gF, bne, *] <;> refine ⟨?_⟩) | (refine WK.t Tryz.func68 ?_ ?_ <;> simp (maxDischargeDepth := 120) [Tryz.results68, gF, bne, *]))
 · have e0 := getN_val (b := b) (p := 0) (s := 2) (by omega)
   rw [e0] at g0
   unfold byS at *
   refine FnP.i Tryz.func68 rfl rfl fun G w => ?_
   repeat' (first | apply WK.s | refine WK.cT rfl ?_ | (refine hQ.h _ _ ?_; clear hQ hA) | (refine WK.rH Tryz.ntmps68 (by kernel_rfl) ?_; intro A hA Q hQ; simp [gF, bne, *]) | (refine RunQ.g rfl (by rw [hA.h]; rfl) ?_; simp [gF, bne, *]) | (refine RunQ.k rfl rfl rfl rfl rfl ?_ (g0) ?_ ?_ <;> simp (maxDischargeDepth := 120) [gF, bne, *] <;> refine ⟨?_⟩) | (refine RunQ.k rfl rfl rfl rfl rfl ?_ (g2) ?_ ?_ <;> simp (maxDischargeDepth := 120) [gF, bne, *] <;> refine ⟨?_⟩) | (refine WK.t Tryz.func68 ?_ ?_ <;> simp (maxDischargeDepth := 120) [Tryz.results68, gF, bne, *]))
theorem fparse_c (b : List (BitVec 8)) (h : ¬ b.length < 4) (hb : b.length ≤ 1000000) : FnP Tryz.prog 68 [byS b] (.tup [.agg [.bool true, .int .i64 (getN b 0 2).1, .int .i64 (getN b 2 2).1], byS (b.drop 4), .bool true]) := by
 have g0 := nget_c b 0 2 Sz2 (by omega) (by omega)
 have g2 := nget_c b 2 2 Sz2 (by omega) (by omega)
 have e0 := getN_val (b := b) (p := 0) (s := 2) (by omega)
 have e2 := getN_val (b := b) (p := 2) (s := 2) (by omega)
 rw [e0] at g0 ⊢
 rw [e2] at g2 ⊢
 obtain ⟨x, hx⟩ : ∃ x : Int, ((valN ((b.drop 0).take 2) : Nat) : Int) = x := ⟨_, rfl⟩
 obtain ⟨y, hy⟩ : ∃ x : Int, ((valN ((b.drop 2).take 2) : Nat) : Int) = x := ⟨_, rfl⟩
 rw [hx] at g0 ⊢
 rw [hy] at g2 ⊢
 have f := fof_c x y
 have c := sclone_c (b.drop 4) (by rw [List.length_drop]; omega)
 have hs4 : ((byL b).drop 4).take (b.length - 4) = byL (b.drop 4) := by rw [byL_drop]; exact by_full _ _ (by rw [List.length_drop])
 have u4 : (4 : Int) ≤ b.length := by omega
 simp only [byS, List.length_drop] at *
 obtain ⟨B, hB⟩ : ∃ B, b.drop 4 = B := ⟨_, rfl⟩
 rw [hB] at c hs4 ⊢
 clear e0 e2 hx hy hB
 refine FnP.i Tryz.func68 rfl rfl fun G w => ?_
 repeat' (first | apply WK.s | apply WK.k | refine WK.cF rfl ?_ | (refine hQ.h _ _ ?_; clear hQ hA) | (refine WK.rH Tryz.ntmps68 (by kernel_rfl) ?_; intro A hA Q hQ; simp [gF, bne, *]) | (refine WK.rX (by kernel_rfl) Tryz.ntmps68 (by kernel_rfl) ?_; intro A hA Q hQ; simp [gF, bne, *]) | (refine hQ.h _ _ _ (by decide +kernel) ?_; clear hQ hA) | (refine RunQ.g rfl (by rw [hA.h]; rfl) ?_; simp [gF, bne, *]) | (refine RunQ.k rfl rfl rfl rfl rfl ?_ (g0) ?_ ?_ <;> simp (maxDischargeDepth := 120) [gF, bne, *] <;> refine ⟨?_⟩) | (refine RunQ.k rfl rfl rfl rfl rfl ?_ (g2) ?_ ?_ <;> simp (maxDischargeDepth := 120) [gF, bne, *] <;> refine ⟨?_⟩) | (refine RunX.k rfl rfl rfl rfl ?_ (f) ?_ ?_ <;> simp (maxDischargeDepth := 120) [gF, bne, *] <;> refine ⟨?_⟩) | (refine RunX.k rfl rfl rfl rfl ?_ (c) ?_ ?_ <;> simp (maxDischargeDepth := 120) [gF, bne, *] <;> refine ⟨?_⟩) | (refine WK.t Tryz.func68 ?_ ?_ <;> simp (maxDischargeDepth := 120) [Tryz.results68, gF, bne, *]))
set_option maxHeartbeats 4000000 in
theorem head_c (k x : Int) (b : List (BitVec 8)) (hb : b.length ≤ 1000000) : FnT Tryz.prog 23 [.int .i64 k, .int .i64 x, byS b] (frHead k x b).1.length 1 (byL (frHead k x b).1) [.int .i64 (frHead k x b).2] := by
 have r1 := nright_c k 1 Sz1
 have r4 := nright_c x 4 Sz4
 unfold byS
 by_cases hh : (numOk k 1 && numOk x 4) = true ∧ b.length ≤ 65527
 case neg =>
   have e : frHead k x b = ([], 1) := by unfold frHead; rw [if_neg hh]
   rw [e]
   cases h1 : numOk k 1
   · rw [h1] at r1
     clear r4 hh e
     refine FnT.intro Tryz.func23 rfl rfl fun G w => ?_
     repeat' (first | apply WK.s | refine WK.cT rfl ?_ | (refine hQ.h _ _ ?_; clear hQ hA) | (refine WK.rH Tryz.ntmps23 (by kernel_rfl) ?_; intro A hA Q hQ; simp [*]) | (refine RunQ.g rfl (by rw [hA.h]; rfl) ?_; simp [*]) | (refine RunQ.k rfl rfl rfl rfl rfl ?_ (r1) ?_ ?_ <;> simp (maxDischargeDepth := 120) [*] <;> refine ⟨?_⟩))
     refine WK.ghost (Ghost.own 6 900 1 rfl rfl) ?_
     refine WK.retT2 Tryz.func23 ?_ ?_ ?_ <;> simp (maxDischargeDepth := 120) [Tryz.results23, b0_]
   cases h2 : numOk x 4
   · rw [h1] at r1
     rw [h2] at r4
     clear hh e
     refine FnT.intro Tryz.func23 rfl rfl fun G w => ?_
     repeat' (first | apply WK.s | refine WK.cT rfl ?_ | (refine hQ.h _ _ ?_; clear hQ hA) | (refine WK.rH Tryz.ntmps23 (by kernel_rfl) ?_; intro A hA Q hQ; simp [*]) | (refine RunQ.g rfl (by rw [hA.h]; rfl) ?_; simp [*]) | (refine RunQ.k rfl rfl rfl rfl rfl ?_ (r1) ?_ ?_ <;> simp (maxDischargeDepth := 120) [*] <;> refine ⟨?_⟩) | (refine RunQ.k rfl rfl rfl rfl rfl ?_ (r4) ?_ ?_ <;> simp (maxDischargeDepth := 120) [*] <;> refine ⟨?_⟩) | (refine RunQW.k rfl rfl rfl rfl ?_ (r1) ?_ ?_ <;> simp (maxDischargeDepth := 120) [*] <;> refine ⟨?_⟩) | (refine RunQW.k rfl rfl rfl rfl ?_ (r4) ?_ ?_ <;> simp (maxDischargeDepth := 120) [*] <;> refine ⟨?_⟩))
     refine WK.ghost (Ghost.own 6 900 1 rfl rfl) ?_
     refine WK.retT2 Tryz.func23 ?_ ?_ ?_ <;> simp (maxDischargeDepth := 120) [Tryz.results23, b0_]
   have h3 : 65527 < b.length := by
     rcases Nat.lt_or_ge 65527 b.length with h | h
     · exact h
     · exact absurd ⟨by rw [h1, h2]; rfl, h⟩ hh
   have h3' : (65527 : Int) < b.length := by omega
   rw [h1] at r1
   rw [h2] at r4
   clear hh e
   refine FnT.intro Tryz.func23 rfl rfl fun G w => ?_
   repeat' (first | apply WK.s | refine WK.cT rfl ?_ | (refine hQ.h _ _ ?_; clear hQ hA) | (refine WK.rH Tryz.ntmps23 (by kernel_rfl) ?_; intro A hA Q hQ; simp [*]) | (refine RunQ.g rfl (by rw [hA.h]; rfl) ?_; simp [*]) | (refine RunQ.k rfl rfl rfl rfl rfl ?_ (r1) ?_ ?_ <;> simp (maxDischargeDepth := 120) [*] <;> refine ⟨?_⟩) | (refine RunQ.k rfl rfl rfl rfl rfl ?_ (r4) ?_ ?_ <;> simp (maxDischargeDepth := 120) [*] <;> refine ⟨?_⟩) | (refine RunQW.k rfl rfl rfl rfl ?_ (r1) ?_ ?_ <;> simp (maxDischargeDepth := 120) [*] <;> refine ⟨?_⟩) | (refine RunQW.k rfl rfl rfl rfl ?_ (r4) ?_ ?_ <;> simp (maxDischargeDepth := 120) [*] <;> refine ⟨?_⟩))
   refine WK.ghost (Ghost.own 6 900 1 rfl rfl) ?_
   refine WK.retT2 Tryz.func23 ?_ ?_ ?_ <;> simp (maxDischargeDepth := 120) [Tryz.results23, b0_]
 have e : frHead k x b = (beN 4 1 ++ (beN k 1 ++ (beN (8 + b.length : Nat) 2 ++ (beN x 4 ++ b))), 0) := by unfold frHead; rw [if_pos hh]
 obtain ⟨h12, h3⟩ := hh
 rw [Bool.and_eq_true] at h12
 obtain ⟨h1, h2⟩ := h12
 rw [h1] at r1
 rw [h2] at r4
 have c1 := nput_c [] 4 1 Sz1 (by simp)
 rw [putN_beN (n := 4) (s := 1) (by decide), List.nil_append] at c1
 have c2 := nput_c (beN 4 1) k 1 Sz1 (by simp [beN_len])
 rw [putN_beN h1] at c2
 have c3 := nput_c (beN 4 1 ++ beN k 1) ((8 + b.length : Nat) : Int) 2 Sz2 (by simp [beN_len])
 rw [putN_beN (numOk2 (by omega))] at c3
 have c4 := nput_c (beN 4 1 ++ beN k 1 ++ beN ((8 + b.length : Nat) : Int) 2) x 4 Sz4 (by simp [beN_len])
 rw [putN_beN h2] at c4
 have l1 : (beN 4 1).length = 1 := beN_len _ _
 have l2 : (beN 4 1 ++ beN k 1).length = 2 := by simp [beN_len]
 have l3 : (beN 4 1 ++ beN k 1 ++ beN ((8 + b.length : Nat) : Int) 2).length = 4 := by simp [beN_len]
 have l4 : (beN 4 1 ++ beN k 1 ++ beN ((8 + b.length : Nat) : Int) 2 ++ beN x 4).length = 8 := by simp [beN_len]
 have hE : beN 4 1 ++ (beN k 1 ++ (beN (8 + b.length : Nat) 2 ++ (beN x 4 ++ b))) = beN 4 1 ++ beN k 1 ++ beN ((8 + b.length : Nat) : Int) 2 ++ beN x 4 ++ b := by simp only [List.append_assoc]
 rw [e, hE]
 obtain ⟨F1, hF1⟩ : ∃ F, beN 4 1 = F := ⟨_, rfl⟩
 rw [hF1] at c1 c2 c3 c4 l1 l2 l3 l4 ⊢
 obtain ⟨F2, hF2⟩ : ∃ F, F1 ++ beN k 1 = F := ⟨_, rfl⟩
 rw [hF2] at c2 c3 c4 l2 l3 l4 ⊢
 obtain ⟨F3, hF3⟩ : ∃ F, F2 ++ beN ((8 + b.length : Nat) : Int) 2 = F := ⟨_, rfl⟩
 rw [hF3] at c3 c4 l3 l4 ⊢
 obtain ⟨F4, hF4⟩ : ∃ F, F3 ++ beN x 4 = F := ⟨_, rfl⟩
 rw [hF4] at c4 l4 ⊢
 have f1 : (byL F1).take 1 = byL F1 := by_full _ _ l1.symm
 have f2 : (byL F2).take 2 = byL F2 := by_full _ _ l2.symm
 have f3 : (byL F3).take 4 = byL F3 := by_full _ _ l3.symm
 have hfb := by_full b b.length rfl
 have hG : byL F4 ++ byL b = byL (F4 ++ b) := (byL_app _ _).symm
 have hGl : (F4 ++ b).length = 8 + b.length := by rw [List.length_append, l4]
 obtain ⟨H, hH⟩ : ∃ H, F4 ++ b = H := ⟨_, rfl⟩
 rw [hH] at hG hGl ⊢
 have w8 : IntKind.i64.wrap (8 + (b.length : Int)) = 8 + (b.length : Int) := wrap_i64 (by omega) (by omega)
 have h3' : ¬ (65527 : Int) < b.length := by omega
 have hbd : 8 + b.length ≤ 140737488355328 := by omega
 unfold byS at c1 c2 c3 c4
 simp only [l1, l2, l3, b0_, List.length_nil] at c1 c2 c3 c4
 rw [hGl]
 simp only
 clear e hE hF1 hF2 hF3 hF4 hH hGl l1 l2 l3 h1 h2
 refine FnT.intro Tryz.func23 rfl rfl fun G w => ?_
 repeat' (first | apply WK.s | apply WK.k | refine WK.cF rfl ?_ | (refine hQ.h _ _ ?_; clear hQ hA) | (refine WK.rH Tryz.ntmps23 (by kernel_rfl) ?_; intro A hA Q hQ; simp [*]) | (refine RunQ.g rfl (by rw [hA.h]; rfl) ?_; simp [*]) | (refine RunQ.callO 900 rfl rfl rfl rfl rfl ?_ (c1) ?_ ?_ ?_ ?_; (focus (simp (maxDischargeDepth := 120) [*]; done)); (focus (simp [*]; done)); (focus (simp [*]; done)); (focus (simp [*]; done)); refine RunQ.e ?_; simp [*]) | (refine RunQ.callOz 901 22 1 rfl rfl rfl rfl rfl rfl rfl ?_ (c2) ?_ ?_ (by simp) (by decide) ?_; (focus (simp (maxDischargeDepth := 120) [*]; done)); (focus (simp [*]; done)); (focus (simp [*]; done)); refine RunQ.e ?_; simp [*]) | (refine RunQ.callOz 902 25 1 rfl rfl rfl rfl rfl rfl rfl ?_ (c3) ?_ ?_ (by simp) (by decide) ?_; (focus (simp (maxDischargeDepth := 120) [*]; done)); (focus (simp [*]; done)); (focus (simp [*]; done)); refine RunQ.e ?_; simp [*]) | (refine RunQ.callOz 903 29 1 rfl rfl rfl rfl rfl rfl rfl ?_ (c4) ?_ ?_ (by simp) (by decide) ?_; (focus (simp (maxDischargeDepth := 120) [*]; done)); (focus (simp [*]; done)); (focus (simp [*]; done)); refine RunQ.e ?_; simp [*]) | (refine RunQ.append 904 appByte rfl rfl rfl rfl rfl rfl rfl rfl rfl ?_ ?_ ?_ ?_ ?_; (focus (first | omega | (simp [*]; done); done)); (focus (first | omega | (simp [*]; done); done)); (focus (first | omega | (simp [*]; done); done)); (focus (first | omega | (simp [*]; done); done)); refine RunQ.e ?_; simp [*]) | (refine RunQ.k rfl rfl rfl rfl rfl ?_ (r1) ?_ ?_ <;> simp (maxDischargeDepth := 120) [*] <;> refine ⟨?_⟩) | (refine RunQ.k rfl rfl rfl rfl rfl ?_ (r4) ?_ ?_ <;> simp (maxDischargeDepth := 120) [*] <;> refine ⟨?_⟩) | (refine RunQW.k rfl rfl rfl rfl ?_ (r1) ?_ ?_ <;> simp (maxDischargeDepth := 120) [*] <;> refine ⟨?_⟩) | (refine RunQW.k rfl rfl rfl rfl ?_ (r4) ?_ ?_ <;> simp (maxDischargeDepth := 120) [*] <;> refine ⟨?_⟩) | (refine WK.retT2 Tryz.func23 ?_ ?_ ?_ <;> simp (maxDischargeDepth := 120) [Tryz.results23, *]))

structure MsB (m : Msg) : Prop where
 flow : FmB m.flow
 group : GmFit m.group
 data : m.data.length ≤ 100000
theorem dright_c (l : List (BitVec 8)) : FnP Tryz.prog 228 [.agg [byS l]] (.bool (decide (l.length ≤ 60000))) := by
 unfold byS
 by_cases h : l.length ≤ 60000
 · have h' : (l.length : Int) ≤ 60000 := by omega
   refine FnP.i Tryz.func228 rfl rfl fun G w => ?_
   repeat' (first | apply WK.s | (refine hQ.h _ _ ?_; clear hQ hA) | (refine WK.rH Tryz.ntmps228 (by kernel_rfl) ?_; intro A hA Q hQ; simp [*]) | (refine WK.t Tryz.func228 ?_ ?_ <;> simp (maxDischargeDepth := 120) [Tryz.results228, *]))
 · have h' : ¬ (l.length : Int) ≤ 60000 := by omega
   refine FnP.i Tryz.func228 rfl rfl fun G w => ?_
   repeat' (first | apply WK.s | (refine hQ.h _ _ ?_; clear hQ hA) | (refine WK.rH Tryz.ntmps228 (by kernel_rfl) ?_; intro A hA Q hQ; simp [*]) | (refine WK.t Tryz.func228 ?_ ?_ <;> simp (maxDischargeDepth := 120) [Tryz.results228, *]))
theorem dbytes_c (l : List (BitVec 8)) : FnP Tryz.prog 227 [.agg [byS l]] (byS l) := by
 unfold byS
 refine FnP.i Tryz.func227 rfl rfl fun G w => ?_
 repeat' (first | apply WK.s | (refine hQ.h _ _ ?_; clear hQ hA) | (refine WK.rH Tryz.ntmps227 (by kernel_rfl) ?_; intro A hA Q hQ; simp [*]) | (refine WK.t Tryz.func227 ?_ ?_ <;> simp (maxDischargeDepth := 120) [Tryz.results227, *]))
theorem wright_c (l : List (BitVec 8)) (f : Flt) : FnP Tryz.prog 230 [.agg (byS l :: f.enc)] (.bool (f.is && (numOk f.kind 2 && (numOk f.code 2 && decide (l.length ≤ 60000))))) := by
 have d := dright_c l
 have n1 := nright_c f.kind 2 Sz2
 have n2 := nright_c f.code 2 Sz2
 obtain ⟨z1, hz1⟩ : ∃ z, numOk f.kind 2 = z := ⟨_, rfl⟩
 obtain ⟨z2, hz2⟩ : ∃ z, numOk f.code 2 = z := ⟨_, rfl⟩
 obtain ⟨z3, hz3⟩ : ∃ z, decide (l.length ≤ 60000) = z := ⟨_, rfl⟩
 rw [hz1] at n1 ⊢
 rw [hz2] at n2 ⊢
 rw [hz3] at d ⊢
 clear hz1 hz2 hz3
 unfold byS at *
 unfold Flt.enc
 refine FnP.i Tryz.func230 rfl rfl fun G w => ?_
 repeat' (first | apply WK.s | (refine hQ.h _ _ ?_; clear hQ hA) | (refine Fork.mk (fun h => ?_) (fun h => ?_) <;> (first | (simp [*] at h; done) | (have h2 := h; simp at h2; exfalso; omega) | (have h2 := h; simp at h2; try simp only [Bool.not_eq_true', Bool.not_eq_false'] at h) | skip)) | (refine WK.rH Tryz.ntmps230 (by kernel_rfl) ?_; intro A hA Q hQ; simp [*]) | (refine RunQ.g rfl (by rw [hA.h]; rfl) ?_; simp [*]) | (refine RunQW.k rfl rfl rfl rfl ?_ (d) ?_ ?_ <;> simp (maxDischargeDepth := 120) [*] <;> refine ⟨?_⟩) | (refine RunQW.k rfl rfl rfl rfl ?_ (n1) ?_ ?_ <;> simp (maxDischargeDepth := 120) [*] <;> refine ⟨?_⟩) | (refine RunQW.k rfl rfl rfl rfl ?_ (n2) ?_ ?_ <;> simp (maxDischargeDepth := 120) [*] <;> refine ⟨?_⟩) | (refine WK.t Tryz.func230 ?_ ?_ <;> simp (maxDischargeDepth := 120) [Tryz.results230, *]))
set_option maxHeartbeats 4000000 in
theorem wbytes_c (l : List (BitVec 8)) (f : Flt) (hl : l.length ≤ 100000) : FnP Tryz.prog 229 [.agg (byS l :: f.enc)] (byS (putN (putN [] f.kind 2) f.code 2 ++ l)) := by
 have c1 := nput_c [] f.kind 2 Sz2 (by simp)
 have k1 := putN_len [] f.kind 2
 simp only [List.length_nil] at k1
 have c2 := nput_c (putN [] f.kind 2) f.code 2 Sz2 (by omega)
 have k2 := putN_len (putN [] f.kind 2) f.code 2
 obtain ⟨F1, hF1⟩ : ∃ F, putN [] f.kind 2 = F := ⟨_, rfl⟩
 rw [hF1] at c1 c2 k1 k2 ⊢
 obtain ⟨F2, hF2⟩ : ∃ F, putN F1 f.code 2 = F := ⟨_, rfl⟩
 rw [hF2] at c2 k2 ⊢
 have f1 := by_full F1 F1.length rfl
 have f2 := by_full F2 F2.length rfl
 have fl := by_full l l.length rfl
 have hE : byL F2 ++ byL l = byL (F2 ++ l) := (byL_app _ _).symm
 have hEl : (F2 ++ l).length = F2.length + l.length := List.length_append
 have hbd : F2.length + l.length ≤ 140737488355328 := by omega
 obtain ⟨E, hEE⟩ : ∃ E, F2 ++ l = E := ⟨_, rfl⟩
 rw [hEE] at hE hEl ⊢
 have hfE : (byL E).take (F2.length + l.length) = byL E := by_full _ _ hEl.symm
 unfold byS at *
 rw [b0_] at c1
 simp only [List.length_nil] at c1
 rw [hEl]
 unfold Flt.enc
 clear hF1 hF2 hEE k1 k2 hEl
 refine FnP.i Tryz.func229 rfl rfl fun G w => ?_
 repeat' (first | apply WK.s | (refine hQ.h _ _ ?_; clear hQ hA) | (refine WK.rH Tryz.ntmps229 (by kernel_rfl) ?_; intro A hA Q hQ; simp [*]) | (refine WK.rX (by kernel_rfl) Tryz.ntmps229 (by kernel_rfl) ?_; intro A hA Q hQ; simp [*]) | (refine hQ.h _ _ _ (by decide +kernel) ?_; clear hQ hA) | (refine RunX.callO 900 rfl rfl rfl rfl ?_ (c1) ?_ ?_ ?_ ?_; (focus (simp (maxDischargeDepth := 120) [*]; done)); (focus (simp [*]; done)); (focus (simp [*]; done)); (focus (simp [*]; done)); refine RunX.e ?_; simp [*]) | (refine RunX.callOz 901 6 1 rfl rfl rfl rfl rfl rfl ?_ (c2) ?_ ?_ (by simp) (by decide) ?_; (focus (simp (maxDischargeDepth := 120) [*]; done)); (focus (simp [*]; done)); (focus (simp [*]; done)); refine RunX.e ?_; simp [*]) | (refine RunX.append 902 appByte rfl rfl rfl rfl rfl rfl rfl rfl ?_ ?_ ?_ ?_ ?_; (focus (first | omega | (simp [*]; done); done)); (focus (first | omega | (simp [*]; done); done)); (focus (first | omega | (simp [*]; done); done)); (focus (first | omega | (simp [*]; done); done)); refine RunX.e ?_; simp [*]))
 refine WK.ghost (Ghost.frzSl 2 1 rfl rfl) ?_
 repeat' (first | (refine WK.t Tryz.func229 ?_ ?_ <;> simp (maxDischargeDepth := 120) [Tryz.results229, *]))
theorem flright_c (m : FlowMod) (hm : FmB m) : FnP Tryz.prog 232 [.agg m.enc] (.bool (fmRight m)) := by
 have r := fmright_c m hm
 unfold FlowMod.enc at *
 refine FnP.i Tryz.func232 rfl rfl fun G w => ?_
 repeat' (first | apply WK.s | (refine hQ.h _ _ ?_; clear hQ hA) | (refine WK.rH Tryz.ntmps232 (by kernel_rfl) ?_; intro A hA Q hQ; simp [*]) | (refine RunQ.k rfl rfl rfl rfl rfl ?_ (r) ?_ ?_ <;> simp (maxDischargeDepth := 120) [*] <;> refine ⟨?_⟩) | (refine WK.t Tryz.func232 ?_ ?_ <;> simp (maxDischargeDepth := 120) [Tryz.results232, *]))
theorem flbytes_c (m : FlowMod) (hm : FmB m) : FnP Tryz.prog 231 [.agg m.enc] (byS (fmEnc m).1) := by
 have r := fmencP_c m hm
 obtain ⟨R, hR⟩ : ∃ R, fmEnc m = R := ⟨_, rfl⟩
 rw [hR] at r ⊢
 unfold byS FlowMod.enc at *
 clear hR
 refine FnP.i Tryz.func231 rfl rfl fun G w => ?_
 repeat' (first | apply WK.s | (refine hQ.h _ _ ?_; clear hQ hA) | (refine WK.rH Tryz.ntmps231 (by kernel_rfl) ?_; intro A hA Q hQ; simp [*]) | (refine RunQ.k rfl rfl rfl rfl rfl ?_ (r) ?_ ?_ <;> simp (maxDischargeDepth := 120) [*] <;> refine ⟨?_⟩) | (refine WK.t Tryz.func231 ?_ ?_ <;> simp (maxDischargeDepth := 120) [Tryz.results231, *]))
theorem grright_c (m : GroupMod) (hm : GmFit m) : FnP Tryz.prog 246 [.agg m.enc] (.bool (gmRight m)) := by
 have r := gright_c m hm
 unfold GroupMod.enc at *
 refine FnP.i Tryz.func246 rfl rfl fun G w => ?_
 repeat' (first | apply WK.s | (refine hQ.h _ _ ?_; clear hQ hA) | (refine WK.rH Tryz.ntmps246 (by kernel_rfl) ?_; intro A hA Q hQ; simp [*]) | (refine RunQ.k rfl rfl rfl rfl rfl ?_ (r) ?_ ?_ <;> simp (maxDischargeDepth := 120) [*] <;> refine ⟨?_⟩) | (refine WK.t Tryz.func246 ?_ ?_ <;> simp (maxDischargeDepth := 120) [Tryz.results246, *]))
theorem grbytes_c (m : GroupMod) (hm : GmFit m) : FnP Tryz.prog 245 [.agg m.enc] (byS (gmEnc m).1) := by
 have r := gencP_c m hm
 obtain ⟨R, hR⟩ : ∃ R, gmEnc m = R := ⟨_, rfl⟩
 rw [hR] at r ⊢
 unfold byS GroupMod.enc at *
 clear hR
 refine FnP.i Tryz.func245 rfl rfl fun G w => ?_
 repeat' (first | apply WK.s | (refine hQ.h _ _ ?_; clear hQ hA) | (refine WK.rH Tryz.ntmps245 (by kernel_rfl) ?_; intro A hA Q hQ; simp [*]) | (refine RunQ.k rfl rfl rfl rfl rfl ?_ (r) ?_ ?_ <;> simp (maxDischargeDepth := 120) [*] <;> refine ⟨?_⟩) | (refine WK.t Tryz.func245 ?_ ?_ <;> simp (maxDischargeDepth := 120) [Tryz.results245, *]))
def mgI (m : Msg) : AV := if mgData m.kind = true then .iface 87 (.agg [byS m.data]) else if m.kind = 1 then .iface 89 (.agg (byS m.data :: m.fault.enc)) else if m.kind = 14 then .iface 91 (.agg m.flow.enc) else if m.kind = 15 then .iface 93 (.agg m.group.enc) else .niface
set_option maxHeartbeats 8000000 in
theorem mof_c (m : Msg) : FnP Tryz.prog 22 [.agg m.enc] (.tup [mgI m, .agg (mgBare m).enc]) := by
 obtain ⟨k, x, fl, gr, fa, d⟩ := m
 have hI : mgI ⟨k, x, fl, gr, fa, d⟩ = if mgData k = true then .iface 87 (.agg [byS d]) else if k = 1 then .iface 89 (.agg (byS d :: fa.enc)) else if k = 14 then .iface 91 (.agg fl.enc) else if k = 15 then .iface 93 (.agg gr.enc) else .niface := rfl
 have hB : mgBare ⟨k, x, fl, gr, fa, d⟩ = if mgData k = true then { msg0 with kind := k, xid := x, data := d } else if k = 1 then { msg0 with kind := k, xid := x, fault := fa, data := d } else if k = 14 then { msg0 with kind := k, xid := x, flow := fl } else if k = 15 then { msg0 with kind := k, xid := x, group := gr } else { msg0 with kind := k, xid := x } := rfl
 by_cases k0 : k = 0 ∨ k = 2 ∨ k = 3
 · rw [if_pos (mgData_iff.2 k0)] at hI hB
   rw [hI, hB]
   clear hI hB
   rcases k0 with rfl | rfl | rfl
   all_goals
     · refine FnP.i Tryz.func22 rfl rfl fun G w => ?_
       repeat' (first | apply WK.s | apply WK.b | apply WK.k | refine WK.cT rfl ?_ | refine WK.cF rfl ?_ | (refine hQ.h _ _ ?_; clear hQ hA) | (refine WK.rH Tryz.ntmps22 (by kernel_rfl) ?_; intro A hA Q hQ; simp [zM, byS, *]) | (refine WK.rX (by kernel_rfl) Tryz.ntmps22 (by kernel_rfl) ?_; intro A hA Q hQ; simp [zM, byS, *]) | (refine hQ.h _ _ _ (by decide +kernel) ?_; clear hQ hA) | (refine RunX.mkI ((by kernel_rfl)) rfl rfl ?_; refine RunX.e ?_; simp [zM, byS, *]) | (refine WK.t Tryz.func22 ?_ ?_ <;> simp (maxDischargeDepth := 120) [Tryz.results22, zM, byS, *]))
 have hd : mgData k = false := by cases h : mgData k; rfl; exact absurd (mgData_iff.1 h) k0
 rw [hd, if_neg (by simp)] at hI hB
 by_cases k1 : k = 1
 · subst k1
   rw [if_pos rfl] at hI hB
   rw [hI, hB]
   clear hI hB
   refine FnP.i Tryz.func22 rfl rfl fun G w => ?_
   repeat' (first | apply WK.s | apply WK.b | refine WK.cT rfl ?_ | refine WK.cF rfl ?_ | (refine hQ.h _ _ ?_; clear hQ hA) | (refine WK.rH Tryz.ntmps22 (by kernel_rfl) ?_; intro A hA Q hQ; simp [zM, byS, *]) | (refine WK.rX (by kernel_rfl) Tryz.ntmps22 (by kernel_rfl) ?_; intro A hA Q hQ; simp [zM, byS, *]) | (refine hQ.h _ _ _ (by decide +kernel) ?_; clear hQ hA) | (refine RunX.mkI ((by kernel_rfl)) rfl rfl ?_; refine RunX.e ?_; simp [zM, byS, *]) | (refine WK.t Tryz.func22 ?_ ?_ <;> simp (maxDischargeDepth := 120) [Tryz.results22, zM, byS, *]))
 rw [if_neg k1] at hI hB
 by_cases k14 : k = 14
 · subst k14
   rw [if_pos rfl] at hI hB
   rw [hI, hB]
   clear hI hB
   refine FnP.i Tryz.func22 rfl rfl fun G w => ?_
   repeat' (first | apply WK.s | apply WK.b | refine WK.cT rfl ?_ | refine WK.cF rfl ?_ | (refine hQ.h _ _ ?_; clear hQ hA) | (refine WK.rH Tryz.ntmps22 (by kernel_rfl) ?_; intro A hA Q hQ; simp [zM, byS, *]) | (refine WK.rX (by kernel_rfl) Tryz.ntmps22 (by kernel_rfl) ?_; intro A hA Q hQ; simp [zM, byS, *]) | (refine hQ.h _ _ _ (by decide +kernel) ?_; clear hQ hA) | (refine RunX.mkI ((by kernel_rfl)) rfl rfl ?_; refine RunX.e ?_; simp [zM, byS, *]) | (refine WK.t Tryz.func22 ?_ ?_ <;> simp (maxDischargeDepth := 120) [Tryz.results22, zM, byS, *]))
 rw [if_neg k14] at hI hB
 by_cases k15 : k = 15
 · subst k15
   rw [if_pos rfl] at hI hB
   rw [hI, hB]
   clear hI hB
   refine FnP.i Tryz.func22 rfl rfl fun G w => ?_
   repeat' (first | apply WK.s | apply WK.b | refine WK.cT rfl ?_ | refine WK.cF rfl ?_ | (refine hQ.h _ _ ?_; clear hQ hA) | (refine WK.rH Tryz.ntmps22 (by kernel_rfl) ?_; intro A hA Q hQ; simp [zM, byS, *]) | (refine WK.rX (by kernel_rfl) Tryz.ntmps22 (by kernel_rfl) ?_; intro A hA Q hQ; simp [zM, byS, *]) | (refine hQ.h _ _ _ (by decide +kernel) ?_; clear hQ hA) | (refine RunX.mkI ((by kernel_rfl)) rfl rfl ?_; refine RunX.e ?_; simp [zM, byS, *]) | (refine WK.t Tryz.func22 ?_ ?_ <;> simp (maxDischargeDepth := 120) [Tryz.results22, zM, byS, *]))
 rw [if_neg k15] at hI hB
 rw [hI, hB]
 have j0 : (k == 0) = false := by rw [beq_eq_false_iff_ne]; omega
 have j2 : (k == 2) = false := by rw [beq_eq_false_iff_ne]; omega
 have j3 : (k == 3) = false := by rw [beq_eq_false_iff_ne]; omega
 have j1 : (k == 1) = false := by rw [beq_eq_false_iff_ne]; omega
 have j14 : (k == 14) = false := by rw [beq_eq_false_iff_ne]; omega
 have j15 : (k == 15) = false := by rw [beq_eq_false_iff_ne]; omega
 clear hI hB k0 k1 k14 k15 hd
 refine FnP.i Tryz.func22 rfl rfl fun G w => ?_
 repeat' (first | apply WK.s | apply WK.b | apply WK.n | apply WK.k | refine WK.cF rfl ?_ | (refine hQ.h _ _ ?_; clear hQ hA) | (refine WK.rH Tryz.ntmps22 (by kernel_rfl) ?_; intro A hA Q hQ; simp [zM, byS, *]) | (refine WK.rX (by kernel_rfl) Tryz.ntmps22 (by kernel_rfl) ?_; intro A hA Q hQ; simp [zM, byS, *]) | (refine hQ.h _ _ _ (by decide +kernel) ?_; clear hQ hA) | (refine WK.t Tryz.func22 ?_ ?_ <;> simp (maxDischargeDepth := 120) [Tryz.results22, zM, byS, *]))
theorem flt_eq (a b : Flt) : (a == b) = (a.is == b.is && (a.kind == b.kind && a.code == b.code)) := by
 obtain ⟨a1, a2, a3⟩ := a
 obtain ⟨b1, b2, b3⟩ := b
 rw [Bool.eq_iff_iff]
 simp only [beq_iff_eq, Bool.and_eq_true, Flt.mk.injEq]
set_option maxHeartbeats 8000000 in
theorem mgsame_c (a b : Msg) (ha : MsB a) : FnP Tryz.prog 14 [.agg a.enc, .agg b.enc] (.bool (Msg.same a b)) := by
 have fs := fmsame_c a.flow b.flow ha.flow
 have gs := gsame_c a.group b.group ha.group
 have bs := bytesEq_c a.data b.data
 have e : Msg.same a b = (a.kind == b.kind && (a.xid == b.xid && (a.fault == b.fault && (a.data == b.data && (FlowMod.same a.flow b.flow && GroupMod.same a.group b.group))))) := rfl
 rw [flt_eq] at e
 obtain ⟨S, hS⟩ : ∃ S, Msg.same a b = S := ⟨_, rfl⟩
 rw [hS] at e ⊢
 clear hS
 obtain ⟨k, x, fl, gr, fa, d⟩ := a
 obtain ⟨k', x', fl', gr', fa', d'⟩ := b
 simp only at fs gs bs e
 obtain ⟨z1, hz1⟩ : ∃ z, FlowMod.same fl fl' = z := ⟨_, rfl⟩
 obtain ⟨z2, hz2⟩ : ∃ z, GroupMod.same gr gr' = z := ⟨_, rfl⟩
 obtain ⟨z3, hz3⟩ : ∃ z, (d == d') = z := ⟨_, rfl⟩
 rw [hz1] at fs e
 rw [hz2] at gs e
 rw [hz3] at bs e
 unfold byS at bs
 unfold FlowMod.enc at fs
 unfold GroupMod.enc at gs
 clear hz1 hz2 hz3 ha
 refine FnP.i Tryz.func14 rfl rfl fun G w => ?_
 repeat' (first | apply WK.s | (refine hQ.h _ _ ?_; clear hQ hA) | (refine Fork.mk (fun h => ?_) (fun h => ?_) <;> (first | (simp [*] at h; done) | (have h2 := h; simp at h2; exfalso; omega) | (have h2 := h; simp at h2; try simp only [Bool.not_eq_true', Bool.not_eq_false'] at h) | skip)) | (refine WK.rH Tryz.ntmps14 (by kernel_rfl) ?_; intro A hA Q hQ; simp [Msg.enc, FlowMod.enc, GroupMod.enc, Flt.enc, *]) | (refine RunQ.g rfl (by rw [hA.h]; rfl) ?_; simp [Msg.enc, FlowMod.enc, GroupMod.enc, Flt.enc, *]) | (refine RunQW.k rfl rfl rfl rfl ?_ (fs) ?_ ?_ <;> simp (maxDischargeDepth := 120) [Msg.enc, FlowMod.enc, GroupMod.enc, Flt.enc, *] <;> refine ⟨?_⟩) | (refine RunQW.k rfl rfl rfl rfl ?_ (gs) ?_ ?_ <;> simp (maxDischargeDepth := 120) [Msg.enc, FlowMod.enc, GroupMod.enc, Flt.enc, *] <;> refine ⟨?_⟩) | (refine RunQW.k rfl rfl rfl rfl ?_ (bs) ?_ ?_ <;> simp (maxDischargeDepth := 120) [Msg.enc, FlowMod.enc, GroupMod.enc, Flt.enc, *] <;> refine ⟨?_⟩) | (refine WK.t Tryz.func14 ?_ ?_ <;> simp (maxDischargeDepth := 120) [Tryz.results14, Msg.enc, FlowMod.enc, GroupMod.enc, Flt.enc, *]))
theorem mI_r1 (v : Value) (w : World) : (callMethod (.iface 87 v) "weirbox/msg.right" #[]).run Tryz.prog w = .ok (.enter 228 #[v]) w := by kernel_rfl
theorem mI_r2 (v : Value) (w : World) : (callMethod (.iface 89 v) "weirbox/msg.right" #[]).run Tryz.prog w = .ok (.enter 230 #[v]) w := by kernel_rfl
theorem mI_r3 (v : Value) (w : World) : (callMethod (.iface 91 v) "weirbox/msg.right" #[]).run Tryz.prog w = .ok (.enter 232 #[v]) w := by kernel_rfl
theorem mI_r4 (v : Value) (w : World) : (callMethod (.iface 93 v) "weirbox/msg.right" #[]).run Tryz.prog w = .ok (.enter 246 #[v]) w := by kernel_rfl
theorem mI_b1 (v : Value) (w : World) : (callMethod (.iface 87 v) "weirbox/msg.bytes" #[]).run Tryz.prog w = .ok (.enter 227 #[v]) w := by kernel_rfl
theorem mI_b2 (v : Value) (w : World) : (callMethod (.iface 89 v) "weirbox/msg.bytes" #[]).run Tryz.prog w = .ok (.enter 229 #[v]) w := by kernel_rfl
theorem mI_b3 (v : Value) (w : World) : (callMethod (.iface 91 v) "weirbox/msg.bytes" #[]).run Tryz.prog w = .ok (.enter 231 #[v]) w := by kernel_rfl
theorem mI_b4 (v : Value) (w : World) : (callMethod (.iface 93 v) "weirbox/msg.bytes" #[]).run Tryz.prog w = .ok (.enter 245 #[v]) w := by kernel_rfl
set_option maxHeartbeats 8000000 in
theorem mgright_c (m : Msg) (hm : MsB m) : FnP Tryz.prog 12 [.agg m.enc] (.bool (mgRight m)) := by
 have o := mof_c m
 have s := mgsame_c m (mgBare m) hm
 have n := nright_c m.xid 4 Sz4
 have e : mgRight m = (mgOk m && (numOk m.xid 4 && Msg.same m (mgBare m))) := rfl
 obtain ⟨S, hS⟩ : ∃ S, Msg.same m (mgBare m) = S := ⟨_, rfl⟩
 obtain ⟨N, hN⟩ : ∃ S, numOk m.xid 4 = S := ⟨_, rfl⟩
 rw [hS] at s e
 rw [hN] at n e
 have r1 := dright_c m.data
 have r2 := wright_c m.data m.fault
 have r3 := flright_c m.flow hm.flow
 have r4 := grright_c m.group hm.group
 obtain ⟨B, hB⟩ : ∃ B, mgBare m = B := ⟨_, rfl⟩
 rw [hB] at o s
 have hc : ClL B.enc = true := by unfold Msg.enc; simp [ClL, Cl, Flt.enc]
 have hBl : B.enc.length = 23 := rfl
 have hO : mgOk m = if mgData m.kind = true then decide (m.data.length ≤ 60000) else if m.kind = 1 then m.fault.is && (numOk m.fault.kind 2 && (numOk m.fault.code 2 && decide (m.data.length ≤ 60000))) else if m.kind = 14 then fmRight m.flow else if m.kind = 15 then gmRight m.group else false := rfl
 unfold mgI at o
 clear hS hN hB hm
 by_cases k0 : mgData m.kind = true
 · rw [if_pos k0] at o hO
   rw [hO] at e
   obtain ⟨z, hz⟩ : ∃ z, decide (m.data.length ≤ 60000) = z := ⟨_, rfl⟩
   rw [hz] at r1 e
   obtain ⟨S', hS'⟩ : ∃ S, mgRight m = S := ⟨_, rfl⟩
   rw [hS'] at e ⊢
   clear hO r2 r3 r4 hz hS' k0
   unfold Msg.enc Flt.enc FlowMod.enc GroupMod.enc at *
   unfold byS at *
   refine FnP.i Tryz.func12 rfl rfl fun G w => ?_
   repeat' (first | apply WK.s | (refine hQ.h _ _ ?_; clear hQ hA) | (refine Fork.mk (fun h => ?_) (fun h => ?_) <;> (first | (simp [*] at h; done) | (have h2 := h; simp at h2; exfalso; omega) | (have h2 := h; simp at h2; try simp only [Bool.not_eq_true', Bool.not_eq_false'] at h) | skip)) | (refine WK.rH Tryz.ntmps12 (by kernel_rfl) ?_; intro A hA Q hQ; simp [*]) | (refine RunQ.g rfl (by rw [hA.h]; rfl) ?_; simp [*]) | (refine RunQW.by (fun hw => ?_); refine RunQ.invoke (mI_r1) (r1) rfl rfl rfl rfl hw rfl ?_ ?_; (focus (simp [*]; done)); clear hw; refine RunQ.e ?_; simp [*]) | (refine RunQ.k rfl rfl rfl rfl rfl ?_ (o) ?_ ?_ <;> simp (maxDischargeDepth := 120) [*] <;> refine ⟨?_⟩) | (refine RunQW.k rfl rfl rfl rfl ?_ (s) ?_ ?_ <;> simp (maxDischargeDepth := 120) [*] <;> refine ⟨?_⟩) | (refine RunQW.k rfl rfl rfl rfl ?_ (n) ?_ ?_ <;> simp (maxDischargeDepth := 120) [*] <;> refine ⟨?_⟩) | (refine WK.t Tryz.func12 ?_ ?_ <;> simp (maxDischargeDepth := 120) [Tryz.results12, *]))
 rw [if_neg k0] at o hO
 by_cases k1 : m.kind = 1
 · rw [if_pos k1] at o hO
   rw [hO] at e
   obtain ⟨z, hz⟩ : ∃ z, (m.fault.is && (numOk m.fault.kind 2 && (numOk m.fault.code 2 && decide (m.data.length ≤ 60000)))) = z := ⟨_, rfl⟩
   rw [hz] at r2 e
   obtain ⟨S', hS'⟩ : ∃ S, mgRight m = S := ⟨_, rfl⟩
   rw [hS'] at e ⊢
   clear hO r1 r3 r4 hz hS' k0 k1
   unfold Msg.enc Flt.enc FlowMod.enc GroupMod.enc at *
   unfold byS at *
   refine FnP.i Tryz.func12 rfl rfl fun G w => ?_
   repeat' (first | apply WK.s | (refine hQ.h _ _ ?_; clear hQ hA) | (refine Fork.mk (fun h => ?_) (fun h => ?_) <;> (first | (simp [*] at h; done) | (have h2 := h; simp at h2; exfalso; omega) | (have h2 := h; simp at h2; try simp only [Bool.not_eq_true', Bool.not_eq_false'] at h) | skip)) | (refine WK.rH Tryz.ntmps12 (by kernel_rfl) ?_; intro A hA Q hQ; simp [*]) | (refine RunQ.g rfl (by rw [hA.h]; rfl) ?_; simp [*]) | (refine RunQW.by (fun hw => ?_); refine RunQ.invoke (mI_r2) (r2) rfl rfl rfl rfl hw rfl ?_ ?_; (focus (simp [*]; done)); clear hw; refine RunQ.e ?_; simp [*]) | (refine RunQ.k rfl rfl rfl rfl rfl ?_ (o) ?_ ?_ <;> simp (maxDischargeDepth := 120) [*] <;> refine ⟨?_⟩) | (refine RunQW.k rfl rfl rfl rfl ?_ (s) ?_ ?_ <;> simp (maxDischargeDepth := 120) [*] <;> refine ⟨?_⟩) | (refine RunQW.k rfl rfl rfl rfl ?_ (n) ?_ ?_ <;> simp (maxDischargeDepth := 120) [*] <;> refine ⟨?_⟩) | (refine WK.t Tryz.func12 ?_ ?_ <;> simp (maxDischargeDepth := 120) [Tryz.results12, *]))
 rw [if_neg k1] at o hO
 by_cases k2 : m.kind = 14
 · rw [if_pos k2] at o hO
   rw [hO] at e
   obtain ⟨z, hz⟩ : ∃ z, fmRight m.flow = z := ⟨_, rfl⟩
   rw [hz] at r3 e
   obtain ⟨S', hS'⟩ : ∃ S, mgRight m = S := ⟨_, rfl⟩
   rw [hS'] at e ⊢
   clear hO r1 r2 r4 hz hS' k0 k1 k2
   unfold Msg.enc Flt.enc FlowMod.enc GroupMod.enc at *
   refine FnP.i Tryz.func12 rfl rfl fun G w => ?_
   repeat' (first | apply WK.s | (refine hQ.h _ _ ?_; clear hQ hA) | (refine Fork.mk (fun h => ?_) (fun h => ?_) <;> (first | (simp [*] at h; done) | (have h2 := h; simp at h2; exfalso; omega) | (have h2 := h; simp at h2; try simp only [Bool.not_eq_true', Bool.not_eq_false'] at h) | skip)) | (refine WK.rH Tryz.ntmps12 (by kernel_rfl) ?_; intro A hA Q hQ; simp [*]) | (refine RunQ.g rfl (by rw [hA.h]; rfl) ?_; simp [*]) | (refine RunQW.by (fun hw => ?_); refine RunQ.invoke (mI_r3) (r3) rfl rfl rfl rfl hw rfl ?_ ?_; (focus (simp [*]; done)); clear hw; refine RunQ.e ?_; simp [*]) | (refine RunQ.k rfl rfl rfl rfl rfl ?_ (o) ?_ ?_ <;> simp (maxDischargeDepth := 120) [*] <;> refine ⟨?_⟩) | (refine RunQW.k rfl rfl rfl rfl ?_ (s) ?_ ?_ <;> simp (maxDischargeDepth := 120) [*] <;> refine ⟨?_⟩) | (refine RunQW.k rfl rfl rfl rfl ?_ (n) ?_ ?_ <;> simp (maxDischargeDepth := 120) [*] <;> refine ⟨?_⟩) | (refine WK.t Tryz.func12 ?_ ?_ <;> simp (maxDischargeDepth := 120) [Tryz.results12, *]))
 rw [if_neg k2] at o hO
 by_cases k3 : m.kind = 15
 · rw [if_pos k3] at o hO
   rw [hO] at e
   obtain ⟨z, hz⟩ : ∃ z, gmRight m.group = z := ⟨_, rfl⟩
   rw [hz] at r4 e
   obtain ⟨S', hS'⟩ : ∃ S, mgRight m = S := ⟨_, rfl⟩
   rw [hS'] at e ⊢
   clear hO r1 r2 r3 hz hS' k0 k1 k2 k3
   unfold Msg.enc Flt.enc FlowMod.enc GroupMod.enc at *
   refine FnP.i Tryz.func12 rfl rfl fun G w => ?_
   repeat' (first | apply WK.s | (refine hQ.h _ _ ?_; clear hQ hA) | (refine Fork.mk (fun h => ?_) (fun h => ?_) <;> (first | (simp [*] at h; done) | (have h2 := h; simp at h2; exfalso; omega) | (have h2 := h; simp at h2; try simp only [Bool.not_eq_true', Bool.not_eq_false'] at h) | skip)) | (refine WK.rH Tryz.ntmps12 (by kernel_rfl) ?_; intro A hA Q hQ; simp [*]) | (refine RunQ.g rfl (by rw [hA.h]; rfl) ?_; simp [*]) | (refine RunQW.by (fun hw => ?_); refine RunQ.invoke (mI_r4) (r4) rfl rfl rfl rfl hw rfl ?_ ?_; (focus (simp [*]; done)); clear hw; refine RunQ.e ?_; simp [*]) | (refine RunQ.k rfl rfl rfl rfl rfl ?_ (o) ?_ ?_ <;> simp (maxDischargeDepth := 120) [*] <;> refine ⟨?_⟩) | (refine RunQW.k rfl rfl rfl rfl ?_ (s) ?_ ?_ <;> simp (maxDischargeDepth := 120) [*] <;> refine ⟨?_⟩) | (refine RunQW.k rfl rfl rfl rfl ?_ (n) ?_ ?_ <;> simp (maxDischargeDepth := 120) [*] <;> refine ⟨?_⟩) | (refine WK.t Tryz.func12 ?_ ?_ <;> simp (maxDischargeDepth := 120) [Tryz.results12, *]))
 rw [if_neg k3] at o hO
 rw [hO] at e
 obtain ⟨S', hS'⟩ : ∃ S, mgRight m = S := ⟨_, rfl⟩
 rw [hS'] at e ⊢
 clear hO r1 r2 r3 r4 hS' k0 k1 k2 k3
 unfold Msg.enc Flt.enc FlowMod.enc GroupMod.enc at *
 refine FnP.i Tryz.func12 rfl rfl fun G w => ?_
 repeat' (first | apply WK.s | (refine hQ.h _ _ ?_; clear hQ hA) | (refine WK.rH Tryz.ntmps12 (by kernel_rfl) ?_; intro A hA Q hQ; simp [*]) | (refine RunQ.g rfl (by rw [hA.h]; rfl) ?_; simp [*]) | (refine RunQ.nilI (td52) rfl rfl rfl rfl rfl ?_; refine RunQ.e ?_; simp [*]) | (refine RunQ.k rfl rfl rfl rfl rfl ?_ (o) ?_ ?_ <;> simp (maxDischargeDepth := 120) [*] <;> refine ⟨?_⟩) | (refine WK.t Tryz.func12 ?_ ?_ <;> simp (maxDischargeDepth := 120) [Tryz.results12, *]))

set_option maxHeartbeats 8000000 in
theorem mgenc_c (m : Msg) (hm : MsB m) : FnT Tryz.prog 9 [.agg m.enc] (mgEnc m).1.length 1 (byL (mgEnc m).1) [.int .i64 (mgEnc m).2] := by
 have r := mgright_c m hm
 have o := mof_c m
 cases hr : mgRight m
 · rw [mgEnc_bad hr]
   rw [hr] at r
   clear hr o
   unfold Msg.enc Flt.enc FlowMod.enc GroupMod.enc at *
   refine FnT.intro Tryz.func9 rfl rfl fun G w => ?_
   repeat' (first | apply WK.s | refine WK.cT rfl ?_ | (refine hQ.h _ _ ?_; clear hQ hA) | (refine WK.rH Tryz.ntmps9 (by kernel_rfl) ?_; intro A hA Q hQ; simp [*]) | (refine RunQ.k rfl rfl rfl rfl rfl ?_ (r) ?_ ?_ <;> simp (maxDischargeDepth := 120) [*] <;> refine ⟨?_⟩))
   refine WK.ghost (Ghost.own 2 900 1 rfl rfl) ?_
   refine WK.retT2 Tryz.func9 ?_ ?_ ?_ <;> simp (maxDischargeDepth := 120) [Tryz.results9, b0_]
 have hok := (mgRight_facts hr).ok
 have hk := mgKind_of hok
 have hbl := mgBody_len hok
 have hd := head_c m.kind m.xid (mgBody m) (by omega)
 have eH : mgEnc m = frHead m.kind m.xid (mgBody m) := by unfold mgEnc; rw [if_pos hr]
 rw [eH]
 rw [hr] at r
 have hG : mgBody m = if mgData m.kind = true then m.data else if m.kind = 1 then putN (putN [] m.fault.kind 2) m.fault.code 2 ++ m.data else if m.kind = 14 then (fmEnc m.flow).1 else (gmEnc m.group).1 := rfl
 have b1 := dbytes_c m.data
 have b2 := wbytes_c m.data m.fault hm.data
 have b3 := flbytes_c m.flow hm.flow
 have b4 := grbytes_c m.group hm.group
 obtain ⟨B, hB⟩ : ∃ B, mgBare m = B := ⟨_, rfl⟩
 rw [hB] at o
 have hc : ClL B.enc = true := by unfold Msg.enc; simp [ClL, Cl, Flt.enc]
 unfold mgI at o
 obtain ⟨R, hR⟩ : ∃ R, frHead m.kind m.xid (mgBody m) = R := ⟨_, rfl⟩
 rw [hR] at hd ⊢
 obtain ⟨R1, R2⟩ := R
 simp only at hd ⊢
 have hfR := by_full R1 R1.length rfl
 clear hR hB hm hr hok hbl eH
 by_cases k0 : mgData m.kind = true
 · rw [if_pos k0] at o hG
   rw [hG] at hd
   unfold byS at *
   clear b2 b3 b4 hk k0 hG
   unfold Msg.enc Flt.enc FlowMod.enc GroupMod.enc at *
   refine FnT.intro Tryz.func9 rfl rfl fun G w => ?_
   repeat' (first | apply WK.s | apply WK.k | refine WK.cF rfl ?_ | (refine hQ.h _ _ ?_; clear hQ hA) | (refine WK.rH Tryz.ntmps9 (by kernel_rfl) ?_; intro A hA Q hQ; simp [*]) | (refine WK.rX (by kernel_rfl) Tryz.ntmps9 (by kernel_rfl) ?_; intro A hA Q hQ; simp [*]) | (refine hQ.h _ _ _ (by decide +kernel) ?_; clear hQ hA) | (refine RunX.invoke (mI_b1) (b1) rfl rfl rfl rfl rfl ?_ ?_; (focus (simp [*]; done)); refine RunX.e ?_; simp [*]) | (refine RunX.callT 900 rfl rfl rfl rfl ?_ (hd) ?_ ?_ ?_ ?_ ?_; (focus (simp (maxDischargeDepth := 120) [*]; done)); (focus (simp [*]; done)); (focus (simp [*]; done)); (focus (simp [*]; done)); (focus (simp [*]; done)); refine RunX.e ?_; simp [*]) | (refine RunQ.k rfl rfl rfl rfl rfl ?_ (r) ?_ ?_ <;> simp (maxDischargeDepth := 120) [*] <;> refine ⟨?_⟩) | (refine RunQ.k rfl rfl rfl rfl rfl ?_ (o) ?_ ?_ <;> simp (maxDischargeDepth := 120) [*] <;> refine ⟨?_⟩) | (refine WK.retT2 Tryz.func9 ?_ ?_ ?_ <;> simp (maxDischargeDepth := 120) [Tryz.results9, *]))
 rw [if_neg k0] at o hG
 by_cases k1 : m.kind = 1
 · rw [if_pos k1] at o hG
   rw [← hG] at b2
   unfold byS at *
   clear b1 b3 b4 hk k0 hG k1
   unfold Msg.enc Flt.enc FlowMod.enc GroupMod.enc at *
   refine FnT.intro Tryz.func9 rfl rfl fun G w => ?_
   repeat' (first | apply WK.s | apply WK.k | refine WK.cF rfl ?_ | (refine hQ.h _ _ ?_; clear hQ hA) | (refine WK.rH Tryz.ntmps9 (by kernel_rfl) ?_; intro A hA Q hQ; simp [*]) | (refine WK.rX (by kernel_rfl) Tryz.ntmps9 (by kernel_rfl) ?_; intro A hA Q hQ; simp [*]) | (refine hQ.h _ _ _ (by decide +kernel) ?_; clear hQ hA) | (refine RunX.invoke (mI_b2) (b2) rfl rfl rfl rfl rfl ?_ ?_; (focus (simp [*]; done)); refine RunX.e ?_; simp [*]) | (refine RunX.callT 900 rfl rfl rfl rfl ?_ (hd) ?_ ?_ ?_ ?_ ?_; (focus (simp (maxDischargeDepth := 120) [*]; done)); (focus (simp [*]; done)); (focus (simp [*]; done)); (focus (simp [*]; done)); (focus (simp [*]; done)); refine RunX.e ?_; simp [*]) | (refine RunQ.k rfl rfl rfl rfl rfl ?_ (r) ?_ ?_ <;> simp (maxDischargeDepth := 120) [*] <;> refine ⟨?_⟩) | (refine RunQ.k rfl rfl rfl rfl rfl ?_ (o) ?_ ?_ <;> simp (maxDischargeDepth := 120) [*] <;> refine ⟨?_⟩) | (refine WK.retT2 Tryz.func9 ?_ ?_ ?_ <;> simp (maxDischargeDepth := 120) [Tryz.results9, *]))
 rw [if_neg k1] at o hG
 by_cases k2 : m.kind = 14
 · rw [if_pos k2] at o hG
   rw [← hG] at b3
   unfold byS at *
   clear b1 b2 b4 hk k0 hG k1 k2
   unfold Msg.enc Flt.enc FlowMod.enc GroupMod.enc at *
   refine FnT.intro Tryz.func9 rfl rfl fun G w => ?_
   repeat' (first | apply WK.s | apply WK.k | refine WK.cF rfl ?_ | (refine hQ.h _ _ ?_; clear hQ hA) | (refine WK.rH Tryz.ntmps9 (by kernel_rfl) ?_; intro A hA Q hQ; simp [*]) | (refine WK.rX (by kernel_rfl) Tryz.ntmps9 (by kernel_rfl) ?_; intro A hA Q hQ; simp [*]) | (refine hQ.h _ _ _ (by decide +kernel) ?_; clear hQ hA) | (refine RunX.invoke (mI_b3) (b3) rfl rfl rfl rfl rfl ?_ ?_; (focus (simp [*]; done)); refine RunX.e ?_; simp [*]) | (refine RunX.callT 900 rfl rfl rfl rfl ?_ (hd) ?_ ?_ ?_ ?_ ?_; (focus (simp (maxDischargeDepth := 120) [*]; done)); (focus (simp [*]; done)); (focus (simp [*]; done)); (focus (simp [*]; done)); (focus (simp [*]; done)); refine RunX.e ?_; simp [*]) | (refine RunQ.k rfl rfl rfl rfl rfl ?_ (r) ?_ ?_ <;> simp (maxDischargeDepth := 120) [*] <;> refine ⟨?_⟩) | (refine RunQ.k rfl rfl rfl rfl rfl ?_ (o) ?_ ?_ <;> simp (maxDischargeDepth := 120) [*] <;> refine ⟨?_⟩) | (refine WK.retT2 Tryz.func9 ?_ ?_ ?_ <;> simp (maxDischargeDepth := 120) [Tryz.results9, *]))
 rw [if_neg k2] at o hG
 have k3 : m.kind = 15 := by
   rcases hk with h | h | h | h
   · exact absurd h k0
   · exact absurd h k1
   · exact absurd h k2
   · exact h
 rw [if_pos k3] at o
 rw [← hG] at b4
 unfold byS at *
 clear b1 b2 b3 hk k0 hG k1 k2 k3
 unfold Msg.enc Flt.enc FlowMod.enc GroupMod.enc at *
 refine FnT.intro Tryz.func9 rfl rfl fun G w => ?_
 repeat' (first | apply WK.s | apply WK.k | refine WK.cF rfl ?_ | (refine hQ.h _ _ ?_; clear hQ hA) | (refine WK.rH Tryz.ntmps9 (by kernel_rfl) ?_; intro A hA Q hQ; simp [*]) | (refine WK.rX (by kernel_rfl) Tryz.ntmps9 (by kernel_rfl) ?_; intro A hA Q hQ; simp [*]) | (refine hQ.h _ _ _ (by decide +kernel) ?_; clear hQ hA) | (refine RunX.invoke (mI_b4) (b4) rfl rfl rfl rfl rfl ?_ ?_; (focus (simp [*]; done)); refine RunX.e ?_; simp [*]) | (refine RunX.callT 900 rfl rfl rfl rfl ?_ (hd) ?_ ?_ ?_ ?_ ?_; (focus (simp (maxDischargeDepth := 120) [*]; done)); (focus (simp [*]; done)); (focus (simp [*]; done)); (focus (simp [*]; done)); (focus (simp [*]; done)); refine RunX.e ?_; simp [*]) | (refine RunQ.k rfl rfl rfl rfl rfl ?_ (r) ?_ ?_ <;> simp (maxDischargeDepth := 120) [*] <;> refine ⟨?_⟩) | (refine RunQ.k rfl rfl rfl rfl rfl ?_ (o) ?_ ?_ <;> simp (maxDischargeDepth := 120) [*] <;> refine ⟨?_⟩) | (refine WK.retT2 Tryz.func9 ?_ ?_ ?_ <;> simp (maxDischargeDepth := 120) [Tryz.results9, *]))
theorem mgencP_c (m : Msg) (hm : MsB m) : FnP Tryz.prog 9 [.agg m.enc] (.tup [byS (mgEnc m).1, .int .i64 (mgEnc m).2]) := by
 have h := (mgenc_c m hm).toP (by simp [byL_take]) (by rfl)
 rwa [Nat.mul_one, by_full _ _ rfl] at h
def msg0E : List AV := [.int .i64 0, .int .i64 0, .int .u64 0, .int .u64 0, .int .i64 0, .int .i64 0, .int .i64 0, .int .i64 0, .int .i64 0, .int .i64 0, .int .i64 0, .int .i64 0, .int .i64 0, .sl false 0 [], .sl false 0 [], .int .i64 0, .int .i64 0, .int .i64 0, .sl false 0 [], .bool false, .int .i64 0, .int .i64 0, .sl false 0 []]
theorem msg0_enc : msg0.enc = msg0E := rfl
theorem mgbad_c (n : Int) : FnP Tryz.prog 37 [.int .i64 n] (.tup [.agg msg0.enc, .agg (gF (some (1, n)))]) := by
 have f := fof_c 1 n
 rw [msg0_enc]
 refine FnP.i Tryz.func37 rfl rfl fun G w => ?_
 repeat' (first | apply WK.s | (refine hQ.h _ _ ?_; clear hQ hA) | (refine WK.rH Tryz.ntmps37 (by kernel_rfl) ?_; intro A hA Q hQ; simp [gF, msg0E, *]) | (refine RunQ.k rfl rfl rfl rfl rfl ?_ (f) ?_ ?_ <;> simp (maxDischargeDepth := 120) [gF, msg0E, *] <;> refine ⟨?_⟩) | (refine WK.t Tryz.func37 ?_ ?_ <;> simp (maxDischargeDepth := 120) [Tryz.results37, gF, msg0E, *]))
def mgBase (k x : Int) : Msg := { msg0 with kind := k, xid := x }
set_option maxHeartbeats 16000000 in
theorem mgfill_c (k x : Int) (b : List (BitVec 8)) (hb : b.length ≤ 80000) : FnP Tryz.prog 39 [.agg (mgBase k x).enc, byS b] (.tup [.agg (mgFill k x b).1.enc, .agg (gF (mgFill k x b).2)]) := by
 have b6 := mgbad_c 6
 have b1 := mgbad_c 1
 rw [msg0_enc] at b6 b1
 have hF : mgFill k x b = if mgData k = true then (if 60000 < b.length then (msg0, some (1, 6)) else ({ msg0 with kind := k, xid := x, data := b }, none))
   else if k = 1 then (if b.length < 4 then (msg0, some (1, 6)) else if 60000 < b.length - 4 then (msg0, some (1, 6)) else ({ msg0 with kind := k, xid := x, fault := ⟨true, (getN b 0 2).1, (getN b 2 2).1⟩, data := b.drop 4 }, none))
   else if k = 14 then (match (fmDec b).2 with | some c => (msg0, some c) | none => ({ msg0 with kind := k, xid := x, flow := (fmDec b).1 }, none))
   else if k = 15 then (match (gmDec b).2 with | some c => (msg0, some c) | none => ({ msg0 with kind := k, xid := x, group := (gmDec b).1 }, none))
   else (msg0, some (1, 1)) := rfl
 by_cases k0 : k = 0 ∨ k = 2 ∨ k = 3
 · rw [if_pos (mgData_iff.2 k0)] at hF
   have c := bytesClone_c b (by omega)
   unfold byS at *
   by_cases g : 60000 < b.length
   · have g' : (60000 : Int) < b.length := by omega
     rw [if_pos g] at hF
     rw [hF, msg0_enc]
     clear hF b1
     rcases k0 with rfl | rfl | rfl
     all_goals
       · refine FnP.i Tryz.func39 rfl rfl fun G w => ?_
         repeat' (first | apply WK.s | apply WK.b | apply WK.n | apply WK.k | refine WK.cT rfl ?_ | refine WK.cF rfl ?_ | (refine hQ.h _ _ ?_; clear hQ hA) | (refine WK.rH Tryz.ntmps39 (by kernel_rfl) ?_; intro A hA Q hQ; simp [mgBase, zM, gF, msg0E, *]) | (refine RunQ.k rfl rfl rfl rfl rfl ?_ (c) ?_ ?_ <;> simp (maxDischargeDepth := 120) [mgBase, zM, gF, msg0E, *] <;> refine ⟨?_⟩) | (refine RunQ.k rfl rfl rfl rfl rfl ?_ (b6) ?_ ?_ <;> simp (maxDischargeDepth := 120) [mgBase, zM, gF, msg0E, *] <;> refine ⟨?_⟩) | (refine WK.t Tryz.func39 ?_ ?_ <;> simp (maxDischargeDepth := 120) [Tryz.results39, mgBase, zM, gF, msg0E, *]))
   · have g' : ¬ (60000 : Int) < b.length := by omega
     rw [if_neg g] at hF
     rw [hF]
     clear hF b1 b6
     rcases k0 with rfl | rfl | rfl
     all_goals
       · refine FnP.i Tryz.func39 rfl rfl fun G w => ?_
         repeat' (first | apply WK.s | apply WK.b | apply WK.n | apply WK.k | refine WK.cT rfl ?_ | refine WK.cF rfl ?_ | (refine hQ.h _ _ ?_; clear hQ hA) | (refine WK.rH Tryz.ntmps39 (by kernel_rfl) ?_; intro A hA Q hQ; simp [mgBase, zM, gF, *]) | (refine RunQ.k rfl rfl rfl rfl rfl ?_ (c) ?_ ?_ <;> simp (maxDischargeDepth := 120) [mgBase, zM, gF, *] <;> refine ⟨?_⟩) | (refine WK.t Tryz.func39 ?_ ?_ <;> simp (maxDischargeDepth := 120) [Tryz.results39, mgBase, zM, gF, *]))
 have hd : mgData k = false := by cases h : mgData k; rfl; exact absurd (mgData_iff.1 h) k0
 rw [hd, if_neg (by simp)] at hF
 by_cases k1 : k = 1
 · subst k1
   rw [if_pos rfl] at hF
   by_cases g4 : b.length < 4
   · rw [if_pos g4] at hF
     have p := fparse_short b g4
     rw [hF, msg0_enc]
     unfold byS at *
     clear hF b1
     refine FnP.i Tryz.func39 rfl rfl fun G w => ?_
     repeat' (first | apply WK.s | apply WK.b | refine WK.cT rfl ?_ | refine WK.cF rfl ?_ | (refine hQ.h _ _ ?_; clear hQ hA) | (refine WK.rH Tryz.ntmps39 (by kernel_rfl) ?_; intro A hA Q hQ; simp [mgBase, zM, gF, msg0E, *]) | (refine RunQ.k rfl rfl rfl rfl rfl ?_ (p) ?_ ?_ <;> simp (maxDischargeDepth := 120) [mgBase, zM, gF, msg0E, *] <;> refine ⟨?_⟩) | (refine RunQ.k rfl rfl rfl rfl rfl ?_ (b6) ?_ ?_ <;> simp (maxDischargeDepth := 120) [mgBase, zM, gF, msg0E, *] <;> refine ⟨?_⟩) | (refine WK.t Tryz.func39 ?_ ?_ <;> simp (maxDischargeDepth := 120) [Tryz.results39, mgBase, zM, gF, msg0E, *]))
   rw [if_neg g4] at hF
   have p := fparse_c b g4 (by omega)
   obtain ⟨n0, h0⟩ : ∃ n, (getN b 0 2).1 = n := ⟨_, rfl⟩
   obtain ⟨n1, h1⟩ : ∃ n, (getN b 2 2).1 = n := ⟨_, rfl⟩
   rw [h0, h1] at p hF
   have hdl : (b.drop 4).length = b.length - 4 := by rw [List.length_drop]
   rw [← hdl] at hF
   obtain ⟨D, hD⟩ : ∃ D, b.drop 4 = D := ⟨_, rfl⟩
   rw [hD] at p hF
   unfold byS at *
   by_cases g : 60000 < D.length
   · have g' : (60000 : Int) < D.length := by omega
     rw [if_pos g] at hF
     rw [hF, msg0_enc]
     clear hF b1 hD hdl h0 h1
     refine FnP.i Tryz.func39 rfl rfl fun G w => ?_
     repeat' (first | apply WK.s | apply WK.b | apply WK.n | apply WK.k | refine WK.cT rfl ?_ | refine WK.cF rfl ?_ | (refine hQ.h _ _ ?_; clear hQ hA) | (refine WK.rH Tryz.ntmps39 (by kernel_rfl) ?_; intro A hA Q hQ; simp [mgBase, zM, gF, msg0E, *]) | (refine RunQ.k rfl rfl rfl rfl rfl ?_ (p) ?_ ?_ <;> simp (maxDischargeDepth := 120) [mgBase, zM, gF, msg0E, *] <;> refine ⟨?_⟩) | (refine RunQ.k rfl rfl rfl rfl rfl ?_ (b6) ?_ ?_ <;> simp (maxDischargeDepth := 120) [mgBase, zM, gF, msg0E, *] <;> refine ⟨?_⟩) | (refine WK.t Tryz.func39 ?_ ?_ <;> simp (maxDischargeDepth := 120) [Tryz.results39, mgBase, zM, gF, msg0E, *]))
   · have g' : ¬ (60000 : Int) < D.length := by omega
     rw [if_neg g] at hF
     rw [hF]
     clear hF b1 b6 hD hdl h0 h1
     refine FnP.i Tryz.func39 rfl rfl fun G w => ?_
     repeat' (first | apply WK.s | apply WK.b | apply WK.n | apply WK.k | refine WK.cT rfl ?_ | refine WK.cF rfl ?_ | (refine hQ.h _ _ ?_; clear hQ hA) | (refine WK.rH Tryz.ntmps39 (by kernel_rfl) ?_; intro A hA Q hQ; simp [mgBase, zM, gF, *]) | (refine RunQ.k rfl rfl rfl rfl rfl ?_ (p) ?_ ?_ <;> simp (maxDischargeDepth := 120) [mgBase, zM, gF, *] <;> refine ⟨?_⟩) | (refine WK.t Tryz.func39 ?_ ?_ <;> simp (maxDischargeDepth := 120) [Tryz.results39, mgBase, zM, gF, *]))
 rw [if_neg k1] at hF
 by_cases k14 : k = 14
 · subst k14
   rw [if_pos rfl] at hF
   have d := fmdec_c b hb
   obtain ⟨R, hR⟩ : ∃ R, fmDec b = R := ⟨_, rfl⟩
   rw [hR] at d hF
   obtain ⟨y, c⟩ := R
   unfold byS at *
   cases c with
   | some c =>
     simp only at hF
     rw [hF, msg0_enc]
     clear hF b1 b6 hR
     refine FnP.i Tryz.func39 rfl rfl fun G w => ?_
     repeat' (first | apply WK.s | apply WK.b | apply WK.n | refine WK.cT rfl ?_ | refine WK.cF rfl ?_ | (refine hQ.h _ _ ?_; clear hQ hA) | (refine WK.rH Tryz.ntmps39 (by kernel_rfl) ?_; intro A hA Q hQ; simp [mgBase, zM, gF, msg0E, *]) | (refine WK.rX (by kernel_rfl) Tryz.ntmps39 (by kernel_rfl) ?_; intro A hA Q hQ; simp [mgBase, zM, gF, msg0E, *]) | (refine hQ.h _ _ _ (by decide +kernel) ?_; clear hQ hA) | (refine RunQ.k rfl rfl rfl rfl rfl ?_ (d) ?_ ?_ <;> simp (maxDischargeDepth := 120) [mgBase, zM, gF, msg0E, *] <;> refine ⟨?_⟩) | (refine WK.t Tryz.func39 ?_ ?_ <;> simp (maxDischargeDepth := 120) [Tryz.results39, mgBase, zM, gF, msg0E, *]))
   | none =>
     simp only at hF
     rw [hF]
     clear hF b1 b6 hR
     refine FnP.i Tryz.func39 rfl rfl fun G w => ?_
     repeat' (first | apply WK.s | apply WK.b | apply WK.n | apply WK.k | refine WK.cT rfl ?_ | refine WK.cF rfl ?_ | (refine hQ.h _ _ ?_; clear hQ hA) | (refine WK.rH Tryz.ntmps39 (by kernel_rfl) ?_; intro A hA Q hQ; simp [mgBase, zM, gF, *]) | (refine RunQ.k rfl rfl rfl rfl rfl ?_ (d) ?_ ?_ <;> simp (maxDischargeDepth := 120) [mgBase, zM, gF, *] <;> refine ⟨?_⟩) | (refine WK.t Tryz.func39 ?_ ?_ <;> simp (maxDischargeDepth := 120) [Tryz.results39, mgBase, zM, gF, *]))
 rw [if_neg k14] at hF
 by_cases k15 : k = 15
 · subst k15
   rw [if_pos rfl] at hF
   have d := gdec_c b (by omega)
   obtain ⟨R, hR⟩ : ∃ R, gmDec b = R := ⟨_, rfl⟩
   rw [hR] at d hF
   obtain ⟨y, c⟩ := R
   unfold byS at *
   cases c with
   | some c =>
     simp only at hF
     rw [hF, msg0_enc]
     clear hF b1 b6 hR
     refine FnP.i Tryz.func39 rfl rfl fun G w => ?_
     repeat' (first | apply WK.s | apply WK.b | apply WK.n | refine WK.cT rfl ?_ | refine WK.cF rfl ?_ | (refine hQ.h _ _ ?_; clear hQ hA) | (refine WK.rH Tryz.ntmps39 (by kernel_rfl) ?_; intro A hA Q hQ; simp [mgBase, zM, gF, msg0E, *]) | (refine WK.rX (by kernel_rfl) Tryz.ntmps39 (by kernel_rfl) ?_; intro A hA Q hQ; simp [mgBase, zM, gF, msg0E, *]) | (refine hQ.h _ _ _ (by decide +kernel) ?_; clear hQ hA) | (refine RunQ.k rfl rfl rfl rfl rfl ?_ (d) ?_ ?_ <;> simp (maxDischargeDepth := 120) [mgBase, zM, gF, msg0E, *] <;> refine ⟨?_⟩) | (refine WK.t Tryz.func39 ?_ ?_ <;> simp (maxDischargeDepth := 120) [Tryz.results39, mgBase, zM, gF, msg0E, *]))
   | none =>
     simp only at hF
     rw [hF]
     clear hF b1 b6 hR
     refine FnP.i Tryz.func39 rfl rfl fun G w => ?_
     repeat' (first | apply WK.s | apply WK.b | apply WK.n | apply WK.k | refine WK.cT rfl ?_ | refine WK.cF rfl ?_ | (refine hQ.h _ _ ?_; clear hQ hA) | (refine WK.rH Tryz.ntmps39 (by kernel_rfl) ?_; intro A hA Q hQ; simp [mgBase, zM, gF, *]) | (refine RunQ.k rfl rfl rfl rfl rfl ?_ (d) ?_ ?_ <;> simp (maxDischargeDepth := 120) [mgBase, zM, gF, *] <;> refine ⟨?_⟩) | (refine WK.t Tryz.func39 ?_ ?_ <;> simp (maxDischargeDepth := 120) [Tryz.results39, mgBase, zM, gF, *]))
 rw [if_neg k15] at hF
 rw [hF, msg0_enc]
 have j0 : (k == 0) = false := by rw [beq_eq_false_iff_ne]; omega
 have j2 : (k == 2) = false := by rw [beq_eq_false_iff_ne]; omega
 have j3 : (k == 3) = false := by rw [beq_eq_false_iff_ne]; omega
 have j1 : (k == 1) = false := by rw [beq_eq_false_iff_ne]; omega
 have j14 : (k == 14) = false := by rw [beq_eq_false_iff_ne]; omega
 have j15 : (k == 15) = false := by rw [beq_eq_false_iff_ne]; omega
 unfold byS at *
 clear hF b6 k0 k1 k14 k15 hd
 refine FnP.i Tryz.func39 rfl rfl fun G w => ?_
 repeat' (first | apply WK.s | apply WK.b | refine WK.cF rfl ?_ | (refine hQ.h _ _ ?_; clear hQ hA) | (refine WK.rH Tryz.ntmps39 (by kernel_rfl) ?_; intro A hA Q hQ; simp [mgBase, zM, gF, msg0E, *]) | (refine RunQ.k rfl rfl rfl rfl rfl ?_ (b1) ?_ ?_ <;> simp (maxDischargeDepth := 120) [mgBase, zM, gF, msg0E, *] <;> refine ⟨?_⟩) | (refine WK.t Tryz.func39 ?_ ?_ <;> simp (maxDischargeDepth := 120) [Tryz.results39, mgBase, zM, gF, msg0E, *]))
theorem bI_four (x : BitVec 8) : (bI x == 4) = (x == 4#8) := by
 rw [Bool.eq_iff_iff, beq_iff_eq, beq_iff_eq]
 unfold bI
 constructor
 · intro h; exact BitVec.eq_of_toNat_eq (by simp; omega)
 · intro h; subst h; rfl
theorem mgDec_short {b : List (BitVec 8)} (h : b.length < 8) : mgDec b = (msg0, some (1, 6)) := by unfold mgDec; rw [if_pos h]
set_option maxHeartbeats 8000000 in
theorem mgdec_c (b : List (BitVec 8)) (hb : b.length ≤ 80000) : FnP Tryz.prog 16 [byS b] (.tup [.agg (mgDec b).1.enc, .agg (gF (mgDec b).2)]) := by
 have b6 := mgbad_c 6
 have b0 := mgbad_c 0
 rw [msg0_enc] at b6 b0
 by_cases c0 : b.length < 8
 · have c0' : (b.length : Int) < 8 := by omega
   rw [mgDec_short c0, msg0_enc]
   unfold byS
   clear b0
   refine FnP.i Tryz.func16 rfl rfl fun G w => ?_
   repeat' (first | apply WK.s | refine WK.cT rfl ?_ | (refine hQ.h _ _ ?_; clear hQ hA) | (refine WK.rH Tryz.ntmps16 (by kernel_rfl) ?_; intro A hA Q hQ; simp [gF, msg0E, *]) | (refine RunQ.k rfl rfl rfl rfl rfl ?_ (b6) ?_ ?_ <;> simp (maxDischargeDepth := 120) [gF, msg0E, *] <;> refine ⟨?_⟩) | (refine WK.t Tryz.func16 ?_ ?_ <;> simp (maxDischargeDepth := 120) [Tryz.results16, gF, msg0E, *]))
 have c0' : ¬ (b.length : Int) < 8 := by omega
 have hD : mgDec b = if (nth b 0 == 4#8) = false then (msg0, some (1, 0)) else if ¬ valN ((b.drop 2).take 2) = b.length then (msg0, some (1, 6)) else mgFill (bI (nth b 1)) (getN b 4 4).1 (b.drop 8) := by unfold mgDec; rw [if_neg c0]
 have g2 := nget_c b 2 2 Sz2 (by omega) (by omega)
 have g4 := nget_c b 4 4 Sz4 (by omega) (by omega)
 have e2 := getN_val (b := b) (p := 2) (s := 2) (by omega)
 have e4 := getN_val (b := b) (p := 4) (s := 4) (by omega)
 rw [e2] at g2
 have x0 := by_get b 0 (by omega)
 have x1 := by_get b 1 (by omega)
 have u0 : (0 : Int) < b.length := by omega
 have u1 : (1 : Int) < b.length := by omega
 have v0 : 0 < b.length := by omega
 have v1 : 1 < b.length := by omega
 have y0 := bI_four (nth b 0)
 have w1 := u8_i64' (nth b 1)
 obtain ⟨z, hz⟩ : ∃ z, (nth b 0 == 4#8) = z := ⟨_, rfl⟩
 rw [hz] at y0 hD
 obtain ⟨X0, h0⟩ : ∃ X, bI (nth b 0) = X := ⟨_, rfl⟩
 rw [h0] at x0 y0
 obtain ⟨X1, h1⟩ : ∃ X, bI (nth b 1) = X := ⟨_, rfl⟩
 rw [h1] at x1 hD w1
 obtain ⟨v, hv⟩ : ∃ v, valN ((b.drop 2).take 2) = v := ⟨_, rfl⟩
 rw [hv] at g2 hD
 have fl := mgfill_c X1 (getN b 4 4).1 (b.drop 8) (by rw [List.length_drop]; omega)
 rw [e4] at g4 hD fl
 simp only at hD fl
 obtain ⟨q, hq⟩ : ∃ q : Int, ((valN ((b.drop 4).take 4) : Nat) : Int) = q := ⟨_, rfl⟩
 rw [hq] at g4 hD fl
 have hs8 : ((byL b).drop 8).take (b.length - 8) = byL (b.drop 8) := by rw [byL_drop]; exact by_full _ _ (by rw [List.length_drop])
 have u8 : (8 : Int) ≤ b.length := by omega
 have hz7 : ((v : Int) == (b.length : Int)) = (v == b.length) := by rw [Bool.eq_iff_iff, beq_iff_eq, beq_iff_eq]; omega
 simp only [byS, List.length_drop] at g2 g4 fl ⊢
 obtain ⟨B8, hB8⟩ : ∃ B, b.drop 8 = B := ⟨_, rfl⟩
 rw [hB8] at fl hs8 hD
 clear hz h0 h1 hv e2 e4 hq hB8 c0
 cases z
 · rw [if_pos rfl] at hD
   rw [hD, msg0_enc]
   clear hD b6 fl
   refine FnP.i Tryz.func16 rfl rfl fun G w => ?_
   repeat' (first | apply WK.s | apply WK.b | apply WK.k | refine WK.cT rfl ?_ | refine WK.cF rfl ?_ | (refine hQ.h _ _ ?_; clear hQ hA) | (refine WK.rH Tryz.ntmps16 (by kernel_rfl) ?_; intro A hA Q hQ; simp [gF, msg0E, bne, *]) | (refine RunQ.k rfl rfl rfl rfl rfl ?_ (g2) ?_ ?_ <;> simp (maxDischargeDepth := 120) [gF, msg0E, bne, *] <;> refine ⟨?_⟩) | (refine RunQ.k rfl rfl rfl rfl rfl ?_ (g4) ?_ ?_ <;> simp (maxDischargeDepth := 120) [gF, msg0E, bne, *] <;> refine ⟨?_⟩) | (refine RunQ.k rfl rfl rfl rfl rfl ?_ (b0) ?_ ?_ <;> simp (maxDischargeDepth := 120) [gF, msg0E, bne, *] <;> refine ⟨?_⟩) | (refine WK.t Tryz.func16 ?_ ?_ <;> simp (maxDischargeDepth := 120) [Tryz.results16, gF, msg0E, bne, *]))
 rw [if_neg (by simp)] at hD
 by_cases hl : v = b.length
 case neg =>
   have hl' : (v == b.length) = false := by simpa using hl
   rw [if_pos hl] at hD
   rw [hD, msg0_enc]
   rw [hl'] at hz7
   clear hD b0 fl hl'
   refine FnP.i Tryz.func16 rfl rfl fun G w => ?_
   repeat' (first | apply WK.s | apply WK.b | apply WK.k | refine WK.cT rfl ?_ | refine WK.cF rfl ?_ | (refine hQ.h _ _ ?_; clear hQ hA) | (refine WK.rH Tryz.ntmps16 (by kernel_rfl) ?_; intro A hA Q hQ; simp [gF, msg0E, bne, *]) | (refine RunQ.k rfl rfl rfl rfl rfl ?_ (g2) ?_ ?_ <;> simp (maxDischargeDepth := 120) [gF, msg0E, bne, *] <;> refine ⟨?_⟩) | (refine RunQ.k rfl rfl rfl rfl rfl ?_ (g4) ?_ ?_ <;> simp (maxDischargeDepth := 120) [gF, msg0E, bne, *] <;> refine ⟨?_⟩) | (refine RunQ.k rfl rfl rfl rfl rfl ?_ (b6) ?_ ?_ <;> simp (maxDischargeDepth := 120) [gF, msg0E, bne, *] <;> refine ⟨?_⟩) | (refine WK.t Tryz.func16 ?_ ?_ <;> simp (maxDischargeDepth := 120) [Tryz.results16, gF, msg0E, bne, *]))
 have hl' : (v == b.length) = true := by simpa using hl
 rw [if_neg (by simpa using hl)] at hD
 rw [hl'] at hz7
 rw [hD]
 have hbase : (mgBase X1 q).enc = [.int .i64 X1, .int .i64 q, .int .u64 0, .int .u64 0, .int .i64 0, .int .i64 0, .int .i64 0, .int .i64 0, .int .i64 0, .int .i64 0, .int .i64 0, .int .i64 0, .int .i64 0, .sl false 0 [], .sl false 0 [], .int .i64 0, .int .i64 0, .int .i64 0, .sl false 0 [], .bool false, .int .i64 0, .int .i64 0, .sl false 0 []] := rfl
 rw [hbase] at fl
 obtain ⟨R, hR⟩ : ∃ R, mgFill X1 q B8 = R := ⟨_, rfl⟩
 rw [hR] at fl ⊢
 obtain ⟨y, c⟩ := R
 obtain ⟨f0, f1, f2, hg⟩ : ∃ f0 f1 f2, gF c = [.bool f0, .int .i64 f1, .int .i64 f2] := by cases c <;> exact ⟨_, _, _, rfl⟩
 simp only at fl ⊢
 rw [hg] at fl ⊢
 clear hD b0 b6 hbase hl' hR hg
 unfold Msg.enc Flt.enc FlowMod.enc GroupMod.enc at *
 refine FnP.i Tryz.func16 rfl rfl fun G w => ?_
 repeat' (first | apply WK.s | apply WK.b | apply WK.n | apply WK.k | refine WK.cF rfl ?_ | (refine hQ.h _ _ ?_; clear hQ hA) | (refine WK.rH Tryz.ntmps16 (by kernel_rfl) ?_; intro A hA Q hQ; simp [bne, *]) | (refine WK.rX (by kernel_rfl) Tryz.ntmps16 (by kernel_rfl) ?_; intro A hA Q hQ; simp [bne, *]) | (refine hQ.h _ _ _ (by decide +kernel) ?_; clear hQ hA) | (refine RunQ.k rfl rfl rfl rfl rfl ?_ (g2) ?_ ?_ <;> simp (maxDischargeDepth := 120) [bne, *] <;> refine ⟨?_⟩) | (refine RunQ.k rfl rfl rfl rfl rfl ?_ (g4) ?_ ?_ <;> simp (maxDischargeDepth := 120) [bne, *] <;> refine ⟨?_⟩) | (refine RunX.k rfl rfl rfl rfl ?_ (fl) ?_ ?_ <;> simp (maxDischargeDepth := 120) [bne, *] <;> refine ⟨?_⟩) | (refine WK.t Tryz.func16 ?_ ?_ <;> simp (maxDischargeDepth := 120) [Tryz.results16, bne, *]))
end Go.Proofs.YtcccfbjkcahgfaaGreat
