/- Matches: their bytes, by the reference. -/
import Derived.Test.YtmhapglejjehbaaGreatAf
import Derived.Test.YtmhapglejjehbaaGreatWk6
import Derived.Test.YtmhapglejjehbaaGreatWk5
set_option linter.all false
set_option linter.unnecessarySimpa false
namespace Go.Proofs.YtmhapglejjehbaaGreat
open Go Go.AI Go.Proofs
attribute [local irreducible] FnP FnO FnB FnT WK RunQ RunQW RunX RunXW
theorem oFlat_succ {l : List Oxm} {i : Nat} (h : i < l.length) : rwFlat oBytes (l.take (i + 1)) = rwFlat oBytes (l.take i) ++ oBytes (nth l i) := by
 unfold rwFlat; rw [take_nth h, List.flatMap_append]; simp
theorem mPad_stop {m k : Nat} (h1 : m ≤ k) (h2 : k ≤ mPad m) : (k % 8 = 0 ↔ k = mPad m) := by unfold mPad at *; omega
theorem byL_zero (Y : List (BitVec 8)) (m k : Nat) (h : m ≤ k) : byL (Y ++ List.replicate (k - m) 0#8) ++ [AV.int .u8 0] = byL (Y ++ List.replicate (k + 1 - m) 0#8) := by
 rw [show k + 1 - m = (k - m) + 1 by omega, List.replicate_succ', ← List.append_assoc, byL_app (Y ++ List.replicate (k - m) 0#8)]; rfl
set_option maxHeartbeats 4000000 in
theorem rmenc_c (l : List Oxm) (hl : l.length ≤ 10000) : FnT Tryz.prog 97 [oxmS l] (mEnc l).1.length 1 (byL (mEnc l).1) [.int .i64 (mEnc l).2] := by
 have ck := rmcheck_c l (by omega)
 unfold oxmS at *
 cases hc : mCheck l with
 | some c =>
   have e := mEnc_check hc
   rw [hc] at ck
   rw [e]
   clear e hc
   refine FnT.intro Tryz.func97 rfl rfl fun G w => ?_
   repeat' (first | apply WK.s | refine WK.cT rfl ?_ | (apply hQ.h; clear hQ hA) | (refine WK.R Tryz.ntmps97 ?_; intro A hA Q hQ; simp [mF, gF, *]) | (refine RunQ.k rfl rfl rfl rfl rfl ?_ (ck) ?_ ?_ <;> simp (config := zd) [mF, gF, *] <;> refine ⟨?_⟩))
   refine WK.ghost (Ghost.own 2 900 1 rfl rfl) ?_
   refine WK.retT2 Tryz.func97 ?_ ?_ ?_ <;> simp (config := zd) [Tryz.results97, b0_]
 | none =>
 rw [hc] at ck
 refine FnT.intro Tryz.func97 rfl rfl fun G w => ?_
 repeat' (first | apply WK.s | apply WK.b | apply WK.k | refine WK.cF rfl ?_ | (apply hQ.h; clear hQ hA) | (refine WK.R Tryz.ntmps97 ?_; intro A hA Q hQ; simp [mF, gF, *]) | (refine RunQ.k rfl rfl rfl rfl rfl ?_ (ck) ?_ ?_ <;> simp (config := zd) [mF, gF, *] <;> refine ⟨?_⟩))
 refine WK.ghost (Ghost.own 4 901 1 rfl rfl) ?_
 refine WK.L (fun n => if n = 1 then 901 else n) (fun i : Nat => (⟨(upd (upd (upd J 0 (.sl false l.length (oxmL l))) 4 (.msl 1 0 (rwFlat oBytes (l.take i)).length)) 5 (.int .i64 i)), (upd B0 1 (.buf 1 (byL (rwFlat oBytes (l.take i))))), 0⟩ : St)) (fun i => i ≤ l.length ∧ ∀ j, j < i → Oxm.right (nth l j) = true) (fun i => l.length - i) (0) (by repeat (first | exact TmW.nil | refine TmW.upd ?_ (by simp (config := zd) [rwFlat, b0_]))) (by repeat (first | exact BxW.nil | refine BxW.upd ?_ (by simp (config := zd) [rwFlat, b0_]))) (⟨by omega, by simp⟩) (fun i hi IH => ?_)
 clear ck
 have hfl := oFlat_len (l.take i)
 have htl : (l.take i).length ≤ i := by rw [List.length_take]; omega
 have hil := hi.1
 by_cases h1 : i < l.length
 · have g4 := oxm_sub l i h1
   have g3 : 6 ≤ l.length * 6 - i * 6 := by omega
   have g6 : IntKind.i64.wrap ((i : Int) + 1) = i + 1 := wrap_i64 (by omega) (by omega)
   have p := roenc_c (nth l i)
   have hs := oFlat_succ h1
   have hw : Oxm.right (nth l i) = false → mEnc l = ([], 1) := mEnc_wrong h1
   have hr : Oxm.right (nth l i) = true → ∀ j, j < i + 1 → Oxm.right (nth l j) = true := fun hr j hj => by
     by_cases h7 : j = i
     · subst h7; exact hr
     · exact hi.2 j (by omega)
   have hol : (oBytes (nth l i)).length ≤ 36 := oEnc_len _
   have hoe : Oxm.right (nth l i) = true → oEnc (nth l i) = (oBytes (nth l i), 0) := oBytes_of
   have hob : Oxm.right (nth l i) = false → oEnc (nth l i) = ([], 1) := oEnc_wrong
   obtain ⟨o, ho⟩ : ∃ o, nth l i = o := ⟨_, rfl⟩
   rw [ho] at g4 p hs hw hr hol hoe hob
   obtain ⟨F, hF⟩ : ∃ F, rwFlat oBytes (l.take i) = F := ⟨_, rfl⟩
   rw [hF] at hfl hs ⊢
   unfold Oxm.enc at g4 p
   clear ho hF hi
   cases hrt : Oxm.right o
   · rw [hw hrt]
     rw [hob hrt] at p
     unfold byS at p
     clear hw hr hoe hob hs hrt
     repeat' (first | apply WK.s | apply WK.b | apply WK.k | refine WK.cT rfl ?_ | (apply hQ.h; clear hQ hA) | (refine WK.R Tryz.ntmps97 ?_; intro A hA Q hQ; simp [bne, *]) | (refine RunQ.k rfl rfl rfl rfl rfl ?_ (p) ?_ ?_ <;> simp (config := zd) [bne, *] <;> refine ⟨?_⟩))
     refine WK.ghost (Ghost.own 2 902 1 rfl rfl) ?_
     refine WK.retT2 Tryz.func97 ?_ ?_ ?_ <;> simp (config := zd) [Tryz.results97, b0_]
   · rw [hoe hrt] at p
     have hr2 := hr hrt
     obtain ⟨B, hB⟩ : ∃ B, oBytes o = B := ⟨_, rfl⟩
     rw [hB] at p hs hol
     have hs3 : byL F ++ byL B = byL (rwFlat oBytes (l.take (i + 1))) := by rw [hs, byL_app]
     have hs4 : (rwFlat oBytes (l.take (i + 1))).length = F.length + B.length := by rw [hs, List.length_append]
     have hbd : F.length + B.length ≤ 140737488355328 := by omega
     have hfu := by_full B B.length rfl
     unfold byS at p
     clear hw hr hoe hob hs hrt hB
     repeat' (first | apply WK.s | apply WK.b | apply WK.n | apply WK.k | refine WK.cT rfl ?_ | refine WK.cF rfl ?_ | (apply hQ.h; clear hQ hA) | (refine WK.R Tryz.ntmps97 ?_; intro A hA Q hQ; simp [bne, *]) | (refine RunQ.append 902 appByte rfl rfl rfl rfl rfl rfl rfl rfl rfl ?_ ?_ ?_ ?_ ?_; (focus first | omega | simp [bne, *]; done); (focus first | omega | simp [bne, *]; done); (focus first | omega | simp [bne, *]; done); (focus first | omega | simp [bne, *]; done); refine RunQ.evalH ?_; simp [bne, *]) | (refine RunQ.k rfl rfl rfl rfl rfl ?_ (p) ?_ ?_ <;> simp (config := zd) [bne, *] <;> refine ⟨?_⟩))
     refine WK.N (fun n => if n = 1 then 902 else n) (IH (i + 1) (⟨by omega, hr2⟩) (by first | omega | (dsimp only; omega))) (by repeat (first | exact TmW.nil | refine TmW.upd ?_ (by simp (config := zd) [hs3, hs4]))) (by repeat (first | exact BxW.nil | refine BxW.upd ?_ (by simp (config := zd) [hs3, hs4])))
 · have hT : l.take i = l := List.take_of_length_le (by omega)
   have hfit := mFit_of hc (fun j hj => hi.2 j (by omega))
   have hdef := mEnc_fit hfit
   have hwl := mWhole_len l
   rw [hT] at hfl ⊢
   have hW : mWhole l = beN 1 2 ++ (beN (4 + (rwFlat oBytes l).length : Nat) 2 ++ (rwFlat oBytes l ++ List.replicate (mPad (4 + (rwFlat oBytes l).length) - (4 + (rwFlat oBytes l).length)) 0#8)) := rfl
   obtain ⟨F, hF⟩ : ∃ F, rwFlat oBytes l = F := ⟨_, rfl⟩
   rw [hF] at hdef hfl hwl hW ⊢
   by_cases h6 : F.length ≤ 1000
   case neg =>
     rw [if_neg h6] at hdef
     rw [hdef]
     have hm3 : (1000 : Int) < F.length := by omega
     clear hdef hW hF hi hc hfit hT hfl hil
     repeat' (first | apply WK.s | refine WK.exit rfl ?_ | refine WK.cT rfl ?_ | refine WK.cF rfl ?_ | (apply hQ.h; clear hQ hA) | (refine WK.R Tryz.ntmps97 ?_; intro A hA Q hQ; simp [*]))
     refine WK.ghost (Ghost.own 2 902 1 rfl rfl) ?_
     refine WK.retT2 Tryz.func97 ?_ ?_ ?_ <;> simp (config := zd) [Tryz.results97, b0_]
   rw [if_pos h6] at hdef
   have hp := mPad_ge (4 + F.length)
   have c1 := rput_c [] 1 2 Sz2 (by simp)
   rw [show putN [] 1 2 = [0#8, 1#8] from rfl] at c1
   have c2 := rput_c [0#8, 1#8] ((4 + F.length : Nat) : Int) 2 Sz2 (by simp)
   rw [putN_beN (numOk2 (by omega))] at c2
   have hHl : ([0#8, 1#8] ++ beN ((4 + F.length : Nat) : Int) 2).length = 4 := by simp [beN_len]
   have hWY : mWhole l = (([0#8, 1#8] ++ beN ((4 + F.length : Nat) : Int) 2) ++ F) ++ List.replicate (mPad (4 + F.length) - (4 + F.length)) 0#8 := by rw [hW]; simp only [List.append_assoc]; rfl
   have hB2 : (byL [0#8, 1#8]).take 2 = byL [0#8, 1#8] := rfl
   obtain ⟨H, hH⟩ : ∃ H, [0#8, 1#8] ++ beN ((4 + F.length : Nat) : Int) 2 = H := ⟨_, rfl⟩
   rw [hH] at c2 hHl hWY
   have hYY : byL H ++ byL F = byL (H ++ F) := (byL_app H F).symm
   have hYl : (H ++ F).length = 4 + F.length := by rw [List.length_append, hHl]
   obtain ⟨Y, hY⟩ : ∃ Y, H ++ F = Y := ⟨_, rfl⟩
   rw [hY] at hYY hWY hYl
   have hfu := by_full F F.length rfl
   have w4 : IntKind.i64.wrap (4 + (F.length : Int)) = 4 + (F.length : Int) := wrap_i64 (by omega) (by omega)
   have hm3 : ¬ (1000 : Int) < F.length := by omega
   have hbd : 4 + F.length ≤ 140737488355328 := by omega
   unfold byS at c1 c2
   simp only [hHl, b0_, List.length_cons, List.length_nil, Nat.zero_add, Nat.reduceAdd, Int.natCast_add, Int.cast_ofNat_Int] at c1 c2
   clear hW hF hi hc hfit hT hfl hil hH hY
   repeat' (first | apply WK.s | apply WK.b | apply WK.k | refine WK.exit rfl ?_ | refine WK.cF rfl ?_ | (apply hQ.h; clear hQ hA) | (refine WK.R Tryz.ntmps97 ?_; intro A hA Q hQ; simp [*]) | (refine RunQ.callO 902 rfl rfl rfl rfl rfl ?_ (c1) ?_ ?_ ?_ ?_; (focus simp (config := zd) [*]; done); (focus simp [*]; done); (focus simp [*]; done); (focus simp [*]; done); refine RunQ.evalH ?_; simp [*]) | (refine RunQ.callOz 903 35 1 rfl rfl rfl rfl rfl rfl rfl ?_ (c2) ?_ ?_ (by simp) (by decide) ?_; (focus simp (config := zd) [*]; done); (focus simp [*]; done); (focus simp [*]; done); refine RunQ.evalH ?_; simp [*]) | (refine RunQ.appendFz 904 appByte rfl rfl rfl rfl rfl rfl rfl rfl rfl rfl ?_ ?_ ?_ ?_ ?_ ?_; (focus first | omega | simp [*]; done); (focus first | omega | simp [*]; done); (focus first | omega | simp [*]; done); (focus simp [*]; done); (focus simp [*]; done); refine RunQ.evalH ?_; simp [*]))
   refine WK.L (fun n => if n = 1 then 904 else n) (fun k : Nat => (⟨(upd J 8 (.msl 1 0 k)), (upd B0 1 (.buf 1 (byL (Y ++ List.replicate (k - (4 + F.length)) 0#8)))), 0⟩ : St)) (fun k => 4 + F.length ≤ k ∧ k ≤ mPad (4 + F.length)) (fun k => mPad (4 + F.length) - k) (4 + F.length) (by repeat (first | exact TmW.nil | refine TmW.upd ?_ (by simp (config := zd) [hYY]))) (by repeat (first | exact BxW.nil | refine BxW.upd ?_ (by simp (config := zd) [hYY]))) (⟨by omega, hp.1⟩) (fun k hk IHk => ?_)
   have hst := mPad_stop hk.1 hk.2
   have z7 : ((k : Int).tmod 8 == 0) = (k % 8 == 0) := by rw [Int.tmod_eq_emod_of_nonneg (by omega), Bool.eq_iff_iff, beq_iff_eq, beq_iff_eq]; omega
   have hkl : (Y ++ List.replicate (k - (4 + F.length)) 0#8).length = k := by rw [List.length_append, List.length_replicate, hYl]; omega
   by_cases g1 : k % 8 = 0
   · have e := hst.1 g1
     have d2 : (k % 8 == 0) = true := by simpa using g1
     have w : IntKind.i64.wrap ((k : Int).tmod 8) = (k : Int).tmod 8 := by rw [Int.tmod_eq_emod_of_nonneg (by omega)]; exact wrap_i64 (by omega) (by omega)
     rw [e] at hkl ⊢
     rw [hdef]
     simp only
     rw [hwl, hWY]
     rw [d2, e] at z7
     rw [e] at w
     clear hdef hwl hWY g1 hk hst d2 e c1 c2 hB2 hYY hp
     repeat' (first | apply WK.s | refine WK.exit rfl ?_ | refine WK.cF rfl ?_ | (apply hQ.h; clear hQ hA) | (refine WK.R Tryz.ntmps97 ?_; intro A hA Q hQ; simp [bne, *]) | (refine WK.retT2 Tryz.func97 ?_ ?_ ?_ <;> simp (config := zd) [Tryz.results97, bne, *]))
   · have hlt : k < mPad (4 + F.length) := by
       rcases Nat.lt_or_ge k (mPad (4 + F.length)) with h | h
       · exact h
       · exact absurd (hst.2 (by omega)) g1
     have d2 : (k % 8 == 0) = false := by simpa using g1
     have w : IntKind.i64.wrap ((k : Int).tmod 8) = (k : Int).tmod 8 := by rw [Int.tmod_eq_emod_of_nonneg (by omega)]; exact wrap_i64 (by omega) (by omega)
     rw [d2] at z7
     have hz := byL_zero Y (4 + F.length) k hk.1
     have hb2 : k + 1 ≤ 140737488355328 := by omega
     have hbk : (byL (Y ++ List.replicate (k - (4 + F.length)) 0#8)).length = k := by rw [byL_len, hkl]
     obtain ⟨Z, hZ⟩ : ∃ Z, byL (Y ++ List.replicate (k - (4 + F.length)) 0#8) = Z := ⟨_, rfl⟩
     rw [hZ] at hz hbk ⊢
     clear hdef hwl hWY g1 hst d2 c1 c2 hB2 hYY hp hkl hZ
     repeat' (first | apply WK.s | apply WK.b | apply WK.n | apply WK.k | refine WK.cT rfl ?_ | (apply hQ.h; clear hQ hA) | (refine WK.R Tryz.ntmps97 ?_; intro A hA Q hQ; simp [bne, *]) | (refine RunQ.append 905 appByte rfl rfl rfl rfl rfl rfl rfl rfl rfl ?_ ?_ ?_ ?_ ?_; (focus first | omega | simp [bne, *]; done); (focus first | omega | simp [bne, *]; done); (focus first | omega | simp [bne, *]; done); (focus first | omega | simp [bne, *]; done); refine RunQ.evalH ?_; simp [bne, *]))
     refine WK.N (fun n => if n = 1 then 905 else n) (IHk (k + 1) (⟨by omega, by omega⟩) (by first | omega | (dsimp only; omega))) (by repeat (first | exact TmW.nil | refine TmW.upd ?_ (by simp (config := zd) [hz]))) (by repeat (first | exact BxW.nil | refine BxW.upd ?_ (by simp (config := zd) [hz])))

def GroupMod.same (a b : GroupMod) : Bool := (a.command == b.command && (a.kind == b.kind && a.id == b.id)) && eqBy Bucket.same a.buckets b.buckets

theorem or_zero64 (x y : BitVec 64) : ((x ||| y) == 0#64) = (x == 0#64 && y == 0#64) := by
 rw [Bool.eq_iff_iff, Bool.and_eq_true, beq_iff_eq, beq_iff_eq, beq_iff_eq]
 exact BitVec.or_eq_zero_iff
theorem imeta_c (i : Inst) : FnP Tryz.prog 182 [.agg i.enc] (.bool (inMeta i.value i.mask)) := by
 have l := less_c i.value i.mask
 have z := zero_c (i.value.less i.mask)
 have e : inMeta i.value i.mask = ((i.value.hi ||| i.mask.hi) == 0#64 && (i.value.less i.mask).zero) := by
   unfold inMeta; rw [or_zero64, Bool.and_assoc]
 obtain ⟨r, hr⟩ : ∃ r, (i.value.less i.mask).zero = r := ⟨_, rfl⟩
 rw [hr] at z e
 obtain ⟨q, hq⟩ : ∃ q, ((i.value.hi ||| i.mask.hi) == 0#64) = q := ⟨_, rfl⟩
 rw [hq] at e
 unfold Wide.enc at l z
 refine FnP.i Tryz.func182 rfl rfl fun G w => ?_
 repeat' (first | apply WK.s | (apply hQ.h; clear hQ hA) | (refine Fork.mk (fun h => ?_) (fun h => ?_) <;> (first | (simp [*] at h; done) | (have h2 := h; simp at h2; exfalso; omega) | (have h2 := h; simp at h2; try simp only [Bool.not_eq_true', Bool.not_eq_false'] at h) | skip)) | (refine WK.R Tryz.ntmps182 ?_; intro A hA Q hQ; simp [Inst.enc, *]) | (refine RunQ.g rfl (by rw [hA.h]; rfl) ?_; simp [Inst.enc, *]) | (refine RunQW.k rfl rfl rfl rfl ?_ (l) ?_ ?_ <;> simp (config := zd) [Inst.enc, *] <;> refine ⟨?_⟩) | (refine RunQW.k rfl rfl rfl rfl ?_ (z) ?_ ?_ <;> simp (config := zd) [Inst.enc, *] <;> refine ⟨?_⟩) | (refine WK.t Tryz.func182 ?_ ?_ <;> simp (config := zd) [Tryz.results182, Inst.enc, *]))

set_option maxHeartbeats 4000000 in
theorem iright_c (i : Inst) (hi : i.acts.length ≤ 1000000) : FnP Tryz.prog 134 [.agg i.enc] (.bool (inRight i)) := by
 have p := acencP_c i.acts hi
 have s := isame_c i (inBare i) hi
 have m := imeta_c i
 have e : inRight i = (inOk i && Inst.same i (inBare i)) := rfl
 obtain ⟨z, hz⟩ : ∃ z, Inst.same i (inBare i) = z := ⟨_, rfl⟩
 rw [hz] at s e
 clear hz
 unfold inBare at s
 unfold inOk at e
 obtain ⟨R, hR⟩ : ∃ R, acEnc i.acts = R := ⟨_, rfl⟩
 rw [hR] at p e
 simp only [byS, actS] at p
 clear hR
 obtain ⟨kk, t, v, mm, l⟩ := i
 simp only at hi p s m e
 by_cases k1 : kk = 1
 · subst k1
   rw [if_pos rfl] at s e
   simp only [Inst.enc, wideZ, uZ_, List.length_nil, actL_nil] at s
   refine FnP.i Tryz.func134 rfl rfl fun G w => ?_
   repeat' (first | apply WK.s | apply WK.b | apply WK.n | refine WK.cT rfl ?_ | (refine hQ.h _ _ ?_; clear hQ hA) | (refine Fork.mk (fun h => ?_) (fun h => ?_) <;> (first | (simp [*] at h; done) | (have h2 := h; simp at h2; exfalso; omega) | (have h2 := h; simp at h2; try simp only [Bool.not_eq_true', Bool.not_eq_false'] at h) | skip)) | (refine WK.R Tryz.ntmps134 ?_; intro A hA Q hQ; simp [Inst.enc, wideZ, uZ_, *]) | (refine WK.X Tryz.ntmps134 ?_; intro A hA Q hQ; simp [Inst.enc, wideZ, uZ_, *]) | (refine hQ.h _ _ _ (by decide +kernel) ?_; clear hQ hA) | (refine RunQ.g rfl (by rw [hA.h]; rfl) ?_; simp [Inst.enc, wideZ, uZ_, *]) | (refine RunX.gd rfl (by rw [hA.h]; rfl) ?_; simp [Inst.enc, wideZ, uZ_, *]) | (refine RunQ.k rfl rfl rfl rfl rfl ?_ (p) ?_ ?_ <;> simp (config := zd) [Inst.enc, wideZ, uZ_, *] <;> refine ⟨?_⟩) | (refine RunQW.k rfl rfl rfl rfl ?_ (s) ?_ ?_ <;> simp (config := zd) [Inst.enc, wideZ, uZ_, *] <;> refine ⟨?_⟩) | (refine WK.t Tryz.func134 ?_ ?_ <;> simp (config := zd) [Tryz.results134, Inst.enc, wideZ, uZ_, *]))
 have j1 : (kk == 1) = false := by simpa using k1
 by_cases k2 : kk = 2
 · subst k2
   rw [if_neg (by decide), if_pos rfl] at s e
   simp only [Inst.enc, wideZ, uZ_, List.length_nil, actL_nil] at s m
   refine FnP.i Tryz.func134 rfl rfl fun G w => ?_
   repeat' (first | apply WK.s | apply WK.b | apply WK.n | refine WK.cT rfl ?_ | refine WK.cF rfl ?_ | (refine hQ.h _ _ ?_; clear hQ hA) | (refine Fork.mk (fun h => ?_) (fun h => ?_) <;> (first | (simp [*] at h; done) | (have h2 := h; simp at h2; exfalso; omega) | (have h2 := h; simp at h2; try simp only [Bool.not_eq_true', Bool.not_eq_false'] at h) | skip)) | (refine WK.R Tryz.ntmps134 ?_; intro A hA Q hQ; simp [Inst.enc, wideZ, uZ_, *]) | (refine WK.X Tryz.ntmps134 ?_; intro A hA Q hQ; simp [Inst.enc, wideZ, uZ_, *]) | (refine hQ.h _ _ _ (by decide +kernel) ?_; clear hQ hA) | (refine RunQ.g rfl (by rw [hA.h]; rfl) ?_; simp [Inst.enc, wideZ, uZ_, *]) | (refine RunQ.k rfl rfl rfl rfl rfl ?_ (p) ?_ ?_ <;> simp (config := zd) [Inst.enc, wideZ, uZ_, *] <;> refine ⟨?_⟩) | (refine RunQW.k rfl rfl rfl rfl ?_ (s) ?_ ?_ <;> simp (config := zd) [Inst.enc, wideZ, uZ_, *] <;> refine ⟨?_⟩) | (refine RunX.k rfl rfl rfl rfl ?_ (m) ?_ ?_ <;> simp (config := zd) [Inst.enc, wideZ, uZ_, *] <;> refine ⟨?_⟩) | (refine WK.t Tryz.func134 ?_ ?_ <;> simp (config := zd) [Tryz.results134, Inst.enc, wideZ, uZ_, *]))
 have j2 : (kk == 2) = false := by simpa using k2
 by_cases k3 : kk = 3
 · subst k3
   rw [if_neg (by decide), if_neg (by decide), if_pos (.inl rfl)] at s e
   simp only [Inst.enc, wideZ, uZ_] at s
   refine FnP.i Tryz.func134 rfl rfl fun G w => ?_
   repeat' (first | apply WK.s | apply WK.b | apply WK.n | apply WK.k | refine WK.cT rfl ?_ | refine WK.cF rfl ?_ | (apply hQ.h; clear hQ hA) | (refine Fork.mk (fun h => ?_) (fun h => ?_) <;> (first | (simp [*] at h; done) | (have h2 := h; simp at h2; exfalso; omega) | (have h2 := h; simp at h2; try simp only [Bool.not_eq_true', Bool.not_eq_false'] at h) | skip)) | (refine WK.R Tryz.ntmps134 ?_; intro A hA Q hQ; simp [Inst.enc, wideZ, uZ_, *]) | (refine RunQ.g rfl (by rw [hA.h]; rfl) ?_; simp [Inst.enc, wideZ, uZ_, *]) | (refine RunQ.k rfl rfl rfl rfl rfl ?_ (p) ?_ ?_ <;> simp (config := zd) [Inst.enc, wideZ, uZ_, *] <;> refine ⟨?_⟩) | (refine RunQW.k rfl rfl rfl rfl ?_ (s) ?_ ?_ <;> simp (config := zd) [Inst.enc, wideZ, uZ_, *] <;> refine ⟨?_⟩) | (refine WK.t Tryz.func134 ?_ ?_ <;> simp (config := zd) [Tryz.results134, Inst.enc, wideZ, uZ_, *]))
 have j3 : (kk == 3) = false := by simpa using k3
 by_cases k4 : kk = 4
 · subst k4
   rw [if_neg (by decide), if_neg (by decide), if_pos (.inr rfl)] at s e
   simp only [Inst.enc, wideZ, uZ_] at s
   refine FnP.i Tryz.func134 rfl rfl fun G w => ?_
   repeat' (first | apply WK.s | apply WK.b | apply WK.n | refine WK.cT rfl ?_ | refine WK.cF rfl ?_ | (apply hQ.h; clear hQ hA) | (refine Fork.mk (fun h => ?_) (fun h => ?_) <;> (first | (simp [*] at h; done) | (have h2 := h; simp at h2; exfalso; omega) | (have h2 := h; simp at h2; try simp only [Bool.not_eq_true', Bool.not_eq_false'] at h) | skip)) | (refine WK.R Tryz.ntmps134 ?_; intro A hA Q hQ; simp [Inst.enc, wideZ, uZ_, *]) | (refine RunQ.g rfl (by rw [hA.h]; rfl) ?_; simp [Inst.enc, wideZ, uZ_, *]) | (refine RunQ.k rfl rfl rfl rfl rfl ?_ (p) ?_ ?_ <;> simp (config := zd) [Inst.enc, wideZ, uZ_, *] <;> refine ⟨?_⟩) | (refine RunQW.k rfl rfl rfl rfl ?_ (s) ?_ ?_ <;> simp (config := zd) [Inst.enc, wideZ, uZ_, *] <;> refine ⟨?_⟩) | (refine WK.t Tryz.func134 ?_ ?_ <;> simp (config := zd) [Tryz.results134, Inst.enc, wideZ, uZ_, *]))
 have j4 : (kk == 4) = false := by simpa using k4
 rw [if_neg k1, if_neg k2, if_neg (by omega)] at s e
 by_cases k5 : kk = 5
 · subst k5
   simp only [Inst.enc, wideZ, uZ_, List.length_nil, actL_nil] at s
   refine FnP.i Tryz.func134 rfl rfl fun G w => ?_
   repeat' (first | apply WK.s | apply WK.b | apply WK.n | apply WK.k | refine WK.cT rfl ?_ | refine WK.cF rfl ?_ | (apply hQ.h; clear hQ hA) | (refine WK.R Tryz.ntmps134 ?_; intro A hA Q hQ; simp [Inst.enc, wideZ, uZ_, *]) | (refine RunQ.g rfl (by rw [hA.h]; rfl) ?_; simp [Inst.enc, wideZ, uZ_, *]) | (refine RunQ.k rfl rfl rfl rfl rfl ?_ (p) ?_ ?_ <;> simp (config := zd) [Inst.enc, wideZ, uZ_, *] <;> refine ⟨?_⟩) | (refine RunQW.k rfl rfl rfl rfl ?_ (s) ?_ ?_ <;> simp (config := zd) [Inst.enc, wideZ, uZ_, *] <;> refine ⟨?_⟩) | (refine WK.t Tryz.func134 ?_ ?_ <;> simp (config := zd) [Tryz.results134, Inst.enc, wideZ, uZ_, *]))
 have j5 : (kk == 5) = false := by simpa using k5
 refine FnP.i Tryz.func134 rfl rfl fun G w => ?_
 repeat' (first | apply WK.s | apply WK.b | refine WK.cF rfl ?_ | (apply hQ.h; clear hQ hA) | (refine WK.R Tryz.ntmps134 ?_; intro A hA Q hQ; simp [Inst.enc, wideZ, uZ_, *]) | (refine RunQ.k rfl rfl rfl rfl rfl ?_ (p) ?_ ?_ <;> simp (config := zd) [Inst.enc, wideZ, uZ_, *] <;> refine ⟨?_⟩) | (refine WK.t Tryz.func134 ?_ ?_ <;> simp (config := zd) [Tryz.results134, Inst.enc, wideZ, uZ_, *]))
def inFind (l : List Inst) (k : Int) : Inst × Bool := match l.find? (fun i => i.kind == k) with | some i => (i, true) | none => (inst0, false)
theorem clone_actP (l : List Action) (hl : l.length ≤ 1000000) : FnP Tryz.prog 162 [actS l] (actS l) := by
 have h := (clone_actO l hl).toP (by simp)
 rwa [actL_take] at h

theorem z4L : byL (List.replicate 4 0#8) = [.int .u8 0, .int .u8 0, .int .u8 0, .int .u8 0] := rfl
set_option maxHeartbeats 4000000 in
theorem ibody_c (i : Inst) (hi : i.acts.length ≤ 1000000) : FnO Tryz.prog 135 [.agg i.enc] (inBody i).length 1 (byL (inBody i)) := by
 obtain ⟨kk, t, v, m, l⟩ := i
 by_cases k1 : kk = 1
 · subst k1
   have e : inBody ⟨1, t, v, m, l⟩ = BitVec.ofInt 8 t :: List.replicate 3 0#8 := by unfold inBody; rw [if_pos rfl]
   have w := wrap_u8 t
   have e2 : byL (BitVec.ofInt 8 t :: List.replicate 3 0#8) = [.int .u8 (bI (BitVec.ofInt 8 t)), .int .u8 0, .int .u8 0, .int .u8 0] := rfl
   have hl : (BitVec.ofInt 8 t :: List.replicate 3 0#8).length = 4 := rfl
   rw [e]
   obtain ⟨K, hK⟩ : ∃ K, BitVec.ofInt 8 t :: List.replicate 3 0#8 = K := ⟨_, rfl⟩
   rw [hK] at e2 hl ⊢
   rw [hl]
   clear hK e
   refine FnO.intro Tryz.func135 rfl rfl fun G w => ?_
   repeat' (first | apply WK.s | apply WK.b | apply WK.n | refine WK.cT rfl ?_ | (apply hQ.h; clear hQ hA) | (refine WK.R Tryz.ntmps135 ?_; intro A hA Q hQ; simp [Inst.enc, *]) | (refine RunQ.make (n := 4) (c := 24) (k := .i64) (k' := .i64) 900 appByte rfl rfl rfl ?_ ?_ (by omega) (by omega) ?_ ?_; (focus simp (config := zd) [Inst.enc, *]; done); (focus simp (config := zd) [Inst.enc, *]; done); (focus simp [Inst.enc, *]; done); refine RunQ.evalH ?_; simp [Inst.enc, *]) | (refine WK.retO Tryz.func135 rfl rfl ?_ ?_ <;> simp (config := zd) [Inst.enc, e2, *]))
 have j1 : (kk == 1) = false := by simpa using k1
 by_cases k2 : kk = 2
 · subst k2
   have e : inBody ⟨2, t, v, m, l⟩ = List.replicate 4 0#8 ++ (beN (wN v) 8 ++ beN (wN m) 8) := by unfold inBody; simp only; rw [if_neg (by decide), if_pos (by decide)]
   have c1 := wput_c (List.replicate 4 0#8) v 8 (by omega) (by simp)
   rw [wPut_beN _ _ _ (by omega)] at c1
   have c2 := wput_c (List.replicate 4 0#8 ++ beN (wN v) 8) m 8 (by omega) (by simp [beN_len])
   rw [wPut_beN _ _ _ (by omega), List.append_assoc] at c2
   have hl : (List.replicate 4 0#8 ++ beN (wN v) 8).length = 12 := by simp [beN_len]
   have hz : (List.replicate 4 0#8).length = 4 := rfl
   rw [e]
   obtain ⟨F, hF⟩ : ∃ F, List.replicate 4 0#8 ++ beN (wN v) 8 = F := ⟨_, rfl⟩
   obtain ⟨K, hK⟩ : ∃ K, List.replicate 4 0#8 ++ (beN (wN v) 8 ++ beN (wN m) 8) = K := ⟨_, rfl⟩
   rw [hF] at c1 c2 hl
   rw [hK] at c2 ⊢
   have hfu : (byL F).take 12 = byL F := by_full _ _ hl.symm
   unfold byS at c1 c2
   rw [hl] at c1 c2
   rw [hz, z4L] at c1
   clear hF hK e
   unfold Wide.enc at c1 c2
   refine FnO.intro Tryz.func135 rfl rfl fun G w => ?_
   repeat' (first | apply WK.s | apply WK.b | refine WK.cT rfl ?_ | refine WK.cF rfl ?_ | (refine hQ.h _ _ ?_; clear hQ hA) | (refine WK.R Tryz.ntmps135 ?_; intro A hA Q hQ; simp [Inst.enc, *]) | (refine WK.X Tryz.ntmps135 ?_; intro A hA Q hQ; simp [Inst.enc, *]) | (refine hQ.h _ _ _ (by decide +kernel) ?_; clear hQ hA) | (refine RunQ.make (n := 4) (c := 24) (k := .i64) (k' := .i64) 900 appByte rfl rfl rfl ?_ ?_ (by omega) (by omega) ?_ ?_; (focus simp (config := zd) [Inst.enc, *]; done); (focus simp (config := zd) [Inst.enc, *]; done); (focus simp [Inst.enc, *]; done); refine RunQ.evalH ?_; simp [Inst.enc, *]) | (refine RunX.callOz 901 18 1 rfl rfl rfl rfl rfl rfl ?_ (c1) ?_ ?_ (by simp) (by decide) ?_; (focus simp (config := zd) [Inst.enc, *]; done); (focus simp [Inst.enc, *]; done); (focus simp [Inst.enc, *]; done); refine RunX.e ?_; simp [Inst.enc, *]) | (refine RunX.callOz 902 21 1 rfl rfl rfl rfl rfl rfl ?_ (c2) ?_ ?_ (by simp) (by decide) ?_; (focus simp (config := zd) [Inst.enc, *]; done); (focus simp [Inst.enc, *]; done); (focus simp [Inst.enc, *]; done); refine RunX.e ?_; simp [Inst.enc, *]) | (refine WK.retO Tryz.func135 rfl rfl ?_ ?_ <;> simp (config := zd) [Inst.enc, *]))
 have j2 : (kk == 2) = false := by simpa using k2
 by_cases k34 : kk = 3 ∨ kk = 4
 · have e : inBody ⟨kk, t, v, m, l⟩ = List.replicate 4 0#8 ++ (acEnc l).1 := by unfold inBody; rw [if_neg k1, if_neg k2, if_pos k34]
   have p := acencP_c l hi
   have hEl := acEnc_len l
   rw [e]
   obtain ⟨R, hR⟩ : ∃ R, acEnc l = R := ⟨_, rfl⟩
   rw [hR] at p hEl ⊢
   obtain ⟨E, c⟩ := R
   simp only at p hEl ⊢
   have hKl : (List.replicate 4 0#8 ++ E).length = 4 + E.length := by rw [List.length_append, List.length_replicate]
   have hKb : byL (List.replicate 4 0#8 ++ E) = .int .u8 0 :: .int .u8 0 :: .int .u8 0 :: .int .u8 0 :: byL E := by rw [byL_app, z4L]; rfl
   obtain ⟨K, hK⟩ : ∃ K, List.replicate 4 0#8 ++ E = K := ⟨_, rfl⟩
   rw [hK] at hKl hKb ⊢
   rw [hKl]
   have hfu := by_full E E.length rfl
   have hbd : 4 + E.length ≤ 140737488355328 := by omega
   simp only [byS, actS] at p
   clear hR e hEl hK
   rcases k34 with rfl | rfl
   · refine FnO.intro Tryz.func135 rfl rfl fun G w => ?_
     repeat' (first | apply WK.s | apply WK.b | apply WK.k | refine WK.cT rfl ?_ | refine WK.cF rfl ?_ | (apply hQ.h; clear hQ hA) | (refine WK.R Tryz.ntmps135 ?_; intro A hA Q hQ; simp [Inst.enc, *]) | (refine RunQ.make (n := 4) (c := 24) (k := .i64) (k' := .i64) 900 appByte rfl rfl rfl ?_ ?_ (by omega) (by omega) ?_ ?_; (focus simp (config := zd) [Inst.enc, *]; done); (focus simp (config := zd) [Inst.enc, *]; done); (focus simp [Inst.enc, *]; done); refine RunQ.evalH ?_; simp [Inst.enc, *]) | (refine RunQ.append 901 appByte rfl rfl rfl rfl rfl rfl rfl rfl rfl ?_ ?_ ?_ ?_ ?_; (focus first | omega | simp [Inst.enc, *]; done); (focus first | omega | simp [Inst.enc, *]; done); (focus first | omega | simp [Inst.enc, *]; done); (focus first | omega | simp [Inst.enc, *]; done); refine RunQ.evalH ?_; simp [Inst.enc, *]) | (refine RunQ.k rfl rfl rfl rfl rfl ?_ (p) ?_ ?_ <;> simp (config := zd) [Inst.enc, *] <;> refine ⟨?_⟩) | (refine WK.retO Tryz.func135 rfl rfl ?_ ?_ <;> simp (config := zd) [Inst.enc, *]))
   · refine FnO.intro Tryz.func135 rfl rfl fun G w => ?_
     repeat' (first | apply WK.s | apply WK.b | refine WK.cT rfl ?_ | refine WK.cF rfl ?_ | (apply hQ.h; clear hQ hA) | (refine WK.R Tryz.ntmps135 ?_; intro A hA Q hQ; simp [Inst.enc, *]) | (refine RunQ.make (n := 4) (c := 24) (k := .i64) (k' := .i64) 900 appByte rfl rfl rfl ?_ ?_ (by omega) (by omega) ?_ ?_; (focus simp (config := zd) [Inst.enc, *]; done); (focus simp (config := zd) [Inst.enc, *]; done); (focus simp [Inst.enc, *]; done); refine RunQ.evalH ?_; simp [Inst.enc, *]) | (refine RunQ.append 901 appByte rfl rfl rfl rfl rfl rfl rfl rfl rfl ?_ ?_ ?_ ?_ ?_; (focus first | omega | simp [Inst.enc, *]; done); (focus first | omega | simp [Inst.enc, *]; done); (focus first | omega | simp [Inst.enc, *]; done); (focus first | omega | simp [Inst.enc, *]; done); refine RunQ.evalH ?_; simp [Inst.enc, *]) | (refine RunQ.k rfl rfl rfl rfl rfl ?_ (p) ?_ ?_ <;> simp (config := zd) [Inst.enc, *] <;> refine ⟨?_⟩) | (refine WK.retO Tryz.func135 rfl rfl ?_ ?_ <;> simp (config := zd) [Inst.enc, *]))
 have j3 : (kk == 3) = false := by rw [beq_eq_false_iff_ne]; omega
 have j4 : (kk == 4) = false := by rw [beq_eq_false_iff_ne]; omega
 have e : inBody ⟨kk, t, v, m, l⟩ = List.replicate 4 0#8 := by unfold inBody; rw [if_neg k1, if_neg k2, if_neg k34]
 rw [e]
 have hKl : (List.replicate 4 0#8).length = 4 := rfl
 have hKb := z4L
 obtain ⟨K, hK⟩ : ∃ K, List.replicate 4 0#8 = K := ⟨_, rfl⟩
 rw [hK] at hKl hKb ⊢
 rw [hKl]
 clear k34 e hK
 refine FnO.intro Tryz.func135 rfl rfl fun G w => ?_
 repeat' (first | apply WK.s | apply WK.b | apply WK.n | apply WK.k | refine WK.cF rfl ?_ | (apply hQ.h; clear hQ hA) | (refine WK.R Tryz.ntmps135 ?_; intro A hA Q hQ; simp [Inst.enc, *]) | (refine RunQ.make (n := 4) (c := 24) (k := .i64) (k' := .i64) 900 appByte rfl rfl rfl ?_ ?_ (by omega) (by omega) ?_ ?_; (focus simp (config := zd) [Inst.enc, *]; done); (focus simp (config := zd) [Inst.enc, *]; done); (focus simp [Inst.enc, *]; done); refine RunQ.evalH ?_; simp [Inst.enc, *]) | (refine WK.retO Tryz.func135 rfl rfl ?_ ?_ <;> simp (config := zd) [Inst.enc, *]))
theorem mpOkInt : MpOk Tryz.prog 59 := MpOk.mk' Tryz.underlying59 Tryz.underlying3 (by kernel_rfl)
theorem inFlat_succ {l : List Inst} {i : Nat} (h : i < l.length) : rwFlat inOne (l.take (i + 1)) = rwFlat inOne (l.take i) ++ inOne (nth l i) := by
 unfold rwFlat; rw [take_nth h, List.flatMap_append]; simp
theorem inFlat_len (l : List Inst) : (rwFlat inOne l).length ≤ l.length * 6100 := by
 induction l with
 | nil => simp [rwFlat]
 | cons x l ih =>
   have h1 := inOne_len x
   have h2 := inBody_len x
   have e : rwFlat inOne (x :: l) = inOne x ++ rwFlat inOne l := rfl
   rw [e, List.length_append, List.length_cons]
   omega
theorem inKinds_succ {l : List Inst} {i : Nat} (h : i < l.length) : inKinds (l.take (i + 1)) = inKinds (l.take i) ++ [(nth l i).kind] := by
 unfold inKinds; rw [take_nth h, List.map_append]; rfl
theorem inKinds_take {l : List Inst} (h : (inKinds l).Nodup) (i : Nat) : (inKinds (l.take i)).Nodup := by
 unfold inKinds at *
 rw [List.map_take]
 exact h.sublist (List.take_sublist _ _)
theorem inEnc_two {l : List Inst} {i : Nat} (h : i < l.length) (hk : (nth l i).kind ∈ inKinds (l.take i)) : inEnc l = ([], 1) := by
 refine inEnc_bad1 fun hh => ?_
 have h1 := inKinds_take (inFit_facts hh.1).2 (i + 1)
 rw [inKinds_succ h, List.nodup_append] at h1
 exact h1.2.2 _ hk _ (by simp) rfl
theorem inEnc_wrong {l : List Inst} {i : Nat} (h : i < l.length) (hk : inRight (nth l i) = false) : inEnc l = ([], 1) := by
 refine inEnc_bad1 fun hh => ?_
 have h1 := (inFit_facts hh.1).1 _ (nth_mem h)
 rw [hk] at h1; cases h1
theorem inFit_of {l : List Inst} (h : ∀ j, j < l.length → inRight (nth l j) = true) (h2 : (inKinds l).Nodup) : inFit l = true := by
 unfold inFit
 rw [Bool.and_eq_true, List.all_eq_true, decide_eq_true_eq]
 refine ⟨fun x hx => ?_, h2⟩
 obtain ⟨j, hj, rfl⟩ := mem_nth hx
 exact h j hj
theorem nodup_snoc {ks : List Int} {k : Int} (h : ks.Nodup) (hk : k ∉ ks) : (ks ++ [k]).Nodup := by
 rw [List.nodup_append]
 exact ⟨h, by simp, fun a ha b hb => by simp at hb; subst hb; exact fun e => hk (e ▸ ha)⟩
set_option maxHeartbeats 4000000 in
theorem ienc_c (l : List Inst) (hl : l.length ≤ 100) (ha : ∀ x, x ∈ l → x.acts.length ≤ 1000000) : FnT Tryz.prog 78 [instS l] (inEnc l).1.length 1 (byL (inEnc l).1) [.int .i64 (inEnc l).2] := by
 unfold instS
 refine FnT.intro Tryz.func78 rfl rfl fun G w => ?_
 repeat' (first | apply WK.s | apply WK.b | (apply hQ.h; clear hQ hA) | (refine WK.R Tryz.ntmps78 ?_; intro A hA Q hQ; simp [*]) | (refine RunQ.makeMap 910 rfl rfl rfl ?_ ?_; (focus simp [*]; done); refine RunQ.evalH ?_; simp [*]))
 refine WK.ghost (Ghost.own 4 900 1 rfl rfl) ?_
 refine WK.L (fun n => if n = 1 then 900 else if n = 2 then 910 else n) (fun i : Nat => (⟨(upd (upd (upd (upd (upd (upd (upd J 2 (.sl true 0 [])) 3 (.int .i64 0)) 4 (.msl 1 0 (rwFlat inOne (l.take i)).length)) 5 (.mv 2)) 10 (.sl false l.length (instL l))) 11 (.int .i64 l.length)) 12 (.int .i64 i)), (upd (upd B0 1 (.buf 1 (byL (rwFlat inOne (l.take i))))) 2 (.obj (mpObj (mpSeen (inKinds (l.take i)))))), 0⟩ : St)) (fun i => i ≤ l.length ∧ (∀ j, j < i → inRight (nth l j) = true) ∧ (inKinds (l.take i)).Nodup) (fun i => l.length - i) (0) (by repeat (first | exact TmW.nil | refine TmW.upd ?_ (by simp (config := zd) [rwFlat, b0_, inKinds, mpSeen]))) (by repeat (first | exact BxW.nil | refine BxW.upd ?_ (by simp (config := zd) [rwFlat, b0_, inKinds, mpSeen]))) (⟨by omega, by simp, by simp [inKinds]⟩) (fun i hi IH => ?_)
 have hfl := inFlat_len (l.take i)
 have htl : (l.take i).length ≤ 100 := by rw [List.length_take]; omega
 by_cases h1 : i < l.length
 · have h4 := inst_sub l i h1
   have h3 : 7 ≤ l.length * 7 - i * 7 := by omega
   have h6 : IntKind.i64.wrap ((i : Int) + 1) = i + 1 := wrap_i64 (by omega) (by omega)
   have hs := inFlat_succ h1
   have hx := ha _ (nth_mem h1)
   have hrc := iright_c (nth l i) hx
   have hks := inKinds_succ h1
   have hsn := mpSeen_snoc (inKinds (l.take i)) (nth l i).kind
   have hvl := mpSeen_val (inKinds (l.take i)) (nth l i).kind
   rw [← hks] at hsn
   have htwo : (nth l i).kind ∈ inKinds (l.take i) → inEnc l = ([], 1) := inEnc_two h1
   have hwr : inRight (nth l i) = false → inEnc l = ([], 1) := inEnc_wrong h1
   have hle := List.count_le_length (l := inKinds (l.take i)) (a := (nth l i).kind)
   have hkl : (inKinds (l.take i)).length ≤ 100 := by unfold inKinds; rw [List.length_map]; exact htl
   have hpos : 0 < (inKinds (l.take i)).count (nth l i).kind ↔ (nth l i).kind ∈ inKinds (l.take i) := List.count_pos_iff
   obtain ⟨c, hc⟩ : ∃ c, (inKinds (l.take i)).count (nth l i).kind = c := ⟨_, rfl⟩
   rw [hc] at hvl hle hpos
   have hnd := hi.2.2
   have hall := hi.2.1
   obtain ⟨S, hS⟩ : ∃ S, mpSeen (inKinds (l.take i)) = S := ⟨_, rfl⟩
   rw [hS] at hsn hvl ⊢
   rw [hvl] at hsn
   have hput := mpVal_put S (nth l i).kind ((c : Int) + 1) (nth l i).kind
   rw [if_pos rfl] at hput
   have wc : IntKind.i64.wrap ((c : Int) + 1) = c + 1 := wrap_i64 (by omega) (by omega)
   clear hc hle hkl hS
   have hjr : inRight (nth l i) = true → ∀ j, j < i + 1 → inRight (nth l j) = true := fun hr j hj => by
     by_cases h7 : j = i
     · subst h7; exact hr
     · exact hall j (by omega)
   have hjn : c = 0 → (inKinds (l.take (i + 1))).Nodup := fun h0 => by
     rw [hks]; exact nodup_snoc hnd fun h => by have := hpos.2 h; omega
   have hbody := ibody_c (nth l i) hx
   have hbl := inBody_len (nth l i)
   have hone : inOne (nth l i) = beN (nth l i).kind 2 ++ (beN (4 + (inBody (nth l i)).length : Nat) 2 ++ inBody (nth l i)) := rfl
   have hkd : inRight (nth l i) = true → numOk (nth l i).kind 2 = true := fun hr => by
     have := inKind_of (inRight_facts hr).1
     rw [numOk_iff]; exact ⟨by omega, by show (nth l i).kind < 65536; omega⟩
   have hn2 : numOk ((4 + (inBody (nth l i)).length : Nat) : Int) 2 = true := numOk2 (by omega)
   obtain ⟨x, hxx⟩ : ∃ x, nth l i = x := ⟨_, rfl⟩
   rw [hxx] at h4 hs hx hrc hsn hput htwo hwr hvl hpos hjr hbody hbl hone hkd hn2
   obtain ⟨E, hE⟩ : ∃ E, inBody x = E := ⟨_, rfl⟩
   rw [hE] at hbody hbl hone hn2
   obtain ⟨F, hF⟩ : ∃ F, rwFlat inOne (l.take i) = F := ⟨_, rfl⟩
   rw [hF] at hs hfl ⊢
   have hFl : F.length ≤ 700000 := by omega
   have hKs : ∃ K, inKinds (l.take (i + 1)) = K := ⟨_, rfl⟩
   obtain ⟨K, hK⟩ := hKs
   rw [hK] at hsn hjn
   obtain ⟨r, hr⟩ : ∃ r, inRight x = r := ⟨_, rfl⟩
   rw [hr] at hrc hwr hjr hkd
   simp only [Inst.enc] at h4 hrc hbody
   clear hi hall hnd hks hE hF hxx hr hfl htl
   cases r
   · have e := hwr rfl
     rw [e]
     clear htwo hwr hjr hjn hbody hone hkd hn2 hsn hpos hs hK
     repeat' (first | apply WK.s | apply WK.b | apply WK.k | refine WK.cT rfl ?_ | (apply hQ.h; clear hQ hA) | (refine WK.R Tryz.ntmps78 ?_; intro A hA Q hQ; simp [*]) | (refine RunQ.g rfl (by rw [hA.h]; rfl) ?_; simp [*]) | (refine RunQ.mapUpdate mpOkInt rfl rfl rfl rfl rfl rfl rfl ?_; refine RunQ.evalH ?_; simp [*]) | (refine RunQ.lookup mpOkInt rfl rfl rfl rfl rfl rfl ?_; refine RunQ.evalH ?_; simp [*]) | (refine RunQ.k rfl rfl rfl rfl rfl ?_ (hrc) ?_ ?_ <;> simp (config := zd) [*] <;> refine ⟨?_⟩))
     refine WK.ghost (Ghost.own 2 905 1 rfl rfl) ?_
     refine WK.retT2 Tryz.func78 ?_ ?_ ?_ <;> simp (config := zd) [Tryz.results78, b0_]
   by_cases hc0 : c = 0
   case neg =>
     have e := htwo (hpos.1 (by omega))
     rw [e]
     have hgt : (1 : Int) < (c : Int) + 1 := by omega
     have hgt2 : 0 < c := by omega
     clear htwo hwr hjr hjn hbody hone hkd hn2 hsn hpos hs hK
     repeat' (first | apply WK.s | apply WK.b | apply WK.k | refine WK.cT rfl ?_ | (apply hQ.h; clear hQ hA) | (refine WK.R Tryz.ntmps78 ?_; intro A hA Q hQ; simp [*]) | (refine RunQ.g rfl (by rw [hA.h]; rfl) ?_; simp [*]) | (refine RunQ.mapUpdate mpOkInt rfl rfl rfl rfl rfl rfl rfl ?_; refine RunQ.evalH ?_; simp [*]) | (refine RunQ.lookup mpOkInt rfl rfl rfl rfl rfl rfl ?_; refine RunQ.evalH ?_; simp [*]) | (refine RunQW.by (fun hw => ?_); refine RunQ.lookup mpOkInt rfl hw rfl rfl rfl rfl ?_; clear hw; refine RunQ.evalH ?_; simp [*]) | (refine RunQ.k rfl rfl rfl rfl rfl ?_ (hrc) ?_ ?_ <;> simp (config := zd) [*] <;> refine ⟨?_⟩))
     refine WK.ghost (Ghost.own 2 905 1 rfl rfl) ?_
     refine WK.retT2 Tryz.func78 ?_ ?_ ?_ <;> simp (config := zd) [Tryz.results78, b0_]
   subst hc0
   have hK2 := hjn rfl
   have hput1 : mpVal (mpPut S x.kind 1) x.kind = 1 := by simpa using hput
   have hsn1 : mpSeen K = mpPut S x.kind 1 := by simpa using hsn
   have hvl1 : mpVal S x.kind = 0 := by simpa using hvl
   have wc1 : IntKind.i64.wrap 1 = 1 := rfl
   clear hput hsn hvl wc
   have hj2 := hjr rfl
   rw [← hK] at hK2
   have c1 := nput_c F x.kind 2 Sz2 (by omega)
   rw [putN_beN (hkd rfl)] at c1
   obtain ⟨F1, hF1⟩ : ∃ F1, F ++ beN x.kind 2 = F1 := ⟨_, rfl⟩
   rw [hF1] at c1
   have hF1l : F1.length = F.length + 2 := by rw [← hF1, List.length_append, beN_len]
   have c2 := nput_c F1 ((4 + E.length : Nat) : Int) 2 Sz2 (by omega)
   rw [putN_beN hn2] at c2
   obtain ⟨F2, hF2⟩ : ∃ F2, F1 ++ beN ((4 + E.length : Nat) : Int) 2 = F2 := ⟨_, rfl⟩
   rw [hF2] at c2
   have hF2l : F2.length = F.length + 4 := by rw [← hF2, List.length_append, beN_len]; omega
   have hs2 : rwFlat inOne (l.take (i + 1)) = F2 ++ E := by rw [hs, hone, ← hF2, ← hF1]; simp only [List.append_assoc]
   have hs3 : byL F2 ++ byL E = byL (rwFlat inOne (l.take (i + 1))) := by rw [hs2, byL_app]
   have hs4 : (rwFlat inOne (l.take (i + 1))).length = F2.length + E.length := by rw [hs2, List.length_append]
   have w4 : IntKind.i64.wrap (4 + (E.length : Int)) = 4 + (E.length : Int) := wrap_i64 (by omega) (by omega)
   have hbd : F2.length + E.length ≤ 140737488355328 := by omega
   have hfu1 := by_full F F.length rfl
   have hfu2 := by_full F1 F1.length rfl
   have hfu3 := by_full E E.length rfl
   unfold byS at c1 c2
   clear htwo hwr hjr hjn hone hkd hn2 hpos hs hF1 hF2 hF1l hF2l hs2
   repeat' (first | apply WK.s | apply WK.b | apply WK.n | apply WK.k | refine WK.cT rfl ?_ | refine WK.cF rfl ?_ | (apply hQ.h; clear hQ hA) | (refine WK.R Tryz.ntmps78 ?_; intro A hA Q hQ; simp [*]) | (refine RunQ.g rfl (by rw [hA.h]; rfl) ?_; simp [*]) | (refine RunQ.mapUpdate mpOkInt rfl rfl rfl rfl rfl rfl rfl ?_; refine RunQ.evalH ?_; simp [*]) | (refine RunQ.lookup mpOkInt rfl rfl rfl rfl rfl rfl ?_; refine RunQ.evalH ?_; simp [*]) | (refine RunQW.by (fun hw => ?_); refine RunQ.lookup mpOkInt rfl hw rfl rfl rfl rfl ?_; clear hw; refine RunQ.evalH ?_; simp [*]) | (refine RunQ.callO 901 rfl rfl rfl rfl rfl ?_ (hbody) ?_ ?_ ?_ ?_; (focus simp (config := zd) [*]; done); (focus simp [*]; done); (focus simp [*]; done); (focus simp [*]; done); refine RunQ.evalH ?_; simp [*]) | (refine RunQ.callOz 902 33 1 rfl rfl rfl rfl rfl rfl rfl ?_ (c1) ?_ ?_ (by simp) (by decide) ?_; (focus simp (config := zd) [*]; done); (focus simp [*]; done); (focus simp [*]; done); refine RunQ.evalH ?_; simp [*]) | (refine RunQ.callOz 903 36 1 rfl rfl rfl rfl rfl rfl rfl ?_ (c2) ?_ ?_ (by simp) (by decide) ?_; (focus simp (config := zd) [*]; done); (focus simp [*]; done); (focus simp [*]; done); refine RunQ.evalH ?_; simp [*]) | (refine RunQ.appendFz 904 appByte rfl rfl rfl rfl rfl rfl rfl rfl rfl rfl ?_ ?_ ?_ ?_ ?_ ?_; (focus first | omega | simp [*]; done); (focus first | omega | simp [*]; done); (focus first | omega | simp [*]; done); (focus simp [*]; done); (focus simp [*]; done); refine RunQ.evalH ?_; simp [*]) | (refine RunQ.k rfl rfl rfl rfl rfl ?_ (hrc) ?_ ?_ <;> simp (config := zd) [*] <;> refine ⟨?_⟩))
   refine WK.N (fun n => if n = 1 then 904 else n) (IH (i + 1) (⟨by omega, hj2, hK2⟩) (by first | omega | (dsimp only; omega))) (by repeat (first | exact TmW.nil | refine TmW.upd ?_ (by simp (config := zd) [hs3, hs4, hK, hsn1]))) (by repeat (first | exact BxW.nil | refine BxW.upd ?_ (by simp (config := zd) [hs3, hs4, hK, hsn1])))
 · have hT : l.take i = l := List.take_of_length_le (by omega)
   have hfit : inFit l = true := inFit_of (fun j hj => hi.2.1 j (by omega)) (by have := hi.2.2; rwa [hT] at this)
   have hdef : inEnc l = if (rwFlat inOne l).length ≤ 60000 then (rwFlat inOne l, 0) else ([], 1) := by
     unfold inEnc
     by_cases hh : (rwFlat inOne l).length ≤ 60000
     · rw [if_pos hh, if_pos ⟨hfit, hh⟩]
     · rw [if_neg hh, if_neg fun h => hh h.2]
   rw [hT] at hfl ⊢
   obtain ⟨F, hF⟩ : ∃ F, rwFlat inOne l = F := ⟨_, rfl⟩
   rw [hF] at hdef hfl ⊢
   by_cases h6 : F.length ≤ 60000
   · have j6 : ¬ (60000 : Int) < F.length := by omega
     rw [if_pos h6] at hdef
     rw [hdef]
     clear hF hdef hi hfit
     repeat' (first | apply WK.s | apply WK.k | refine WK.exit rfl ?_ | refine WK.cF rfl ?_ | (apply hQ.h; clear hQ hA) | (refine WK.R Tryz.ntmps78 ?_; intro A hA Q hQ; simp [*]) | (refine WK.retT2 Tryz.func78 ?_ ?_ ?_ <;> simp (config := zd) [Tryz.results78, *]))
   · have j6 : (60000 : Int) < F.length := by omega
     rw [if_neg h6] at hdef
     rw [hdef]
     clear hF hdef hi hfit
     repeat' (first | apply WK.s | refine WK.exit rfl ?_ | refine WK.cT rfl ?_ | refine WK.cF rfl ?_ | (apply hQ.h; clear hQ hA) | (refine WK.R Tryz.ntmps78 ?_; intro A hA Q hQ; simp [*]))
     refine WK.ghost (Ghost.own 2 907 1 rfl rfl) ?_
     refine WK.retT2 Tryz.func78 ?_ ?_ ?_ <;> simp (config := zd) [Tryz.results78, b0_]

theorem iencP_c (l : List Inst) (hl : l.length ≤ 100) (ha : ∀ x, x ∈ l → x.acts.length ≤ 1000000) : FnP Tryz.prog 78 [instS l] (.tup [byS (inEnc l).1, .int .i64 (inEnc l).2]) := by
 have h := (ienc_c l hl ha).toP (by simp [byL_take]) (by rfl)
 rwa [Nat.mul_one, by_full _ _ rfl] at h

theorem rimeta_c (i : Inst) : FnP Tryz.prog 199 [.agg i.enc] (.bool (inMeta i.value i.mask)) := by
 have l := rless_c i.value i.mask
 have z := rzero_c (i.value.less i.mask)
 have e : inMeta i.value i.mask = (i.value.hi == 0#64 && (i.mask.hi == 0#64 && (i.value.less i.mask).zero)) := rfl
 obtain ⟨r, hr⟩ : ∃ r, (i.value.less i.mask).zero = r := ⟨_, rfl⟩
 rw [hr] at z e
 unfold Wide.enc at l z
 refine FnP.i Tryz.func199 rfl rfl fun G w => ?_
 repeat' (first | apply WK.s | (apply hQ.h; clear hQ hA) | (refine Fork.mk (fun h => ?_) (fun h => ?_) <;> (first | (simp [*] at h; done) | (have h2 := h; simp at h2; exfalso; omega) | (have h2 := h; simp at h2; try simp only [Bool.not_eq_true', Bool.not_eq_false'] at h) | skip)) | (refine WK.R Tryz.ntmps199 ?_; intro A hA Q hQ; simp [Inst.enc, *]) | (refine RunQ.g rfl (by rw [hA.h]; rfl) ?_; simp [Inst.enc, *]) | (refine RunQW.k rfl rfl rfl rfl ?_ (l) ?_ ?_ <;> simp (config := zd) [Inst.enc, *] <;> refine ⟨?_⟩) | (refine RunQW.k rfl rfl rfl rfl ?_ (z) ?_ ?_ <;> simp (config := zd) [Inst.enc, *] <;> refine ⟨?_⟩) | (refine WK.t Tryz.func199 ?_ ?_ <;> simp (config := zd) [Tryz.results199, Inst.enc, *]))
set_option maxHeartbeats 4000000 in
theorem riright_c (i : Inst) (hi : i.acts.length ≤ 1000000) : FnP Tryz.prog 157 [.agg i.enc] (.bool (inRight i)) := by
 have p := racencP_c i.acts hi
 have s := risame_c i (inBare i) hi
 have m := rimeta_c i
 have e : inRight i = (inOk i && Inst.same i (inBare i)) := rfl
 obtain ⟨z, hz⟩ : ∃ z, Inst.same i (inBare i) = z := ⟨_, rfl⟩
 rw [hz] at s e
 clear hz
 unfold inBare at s
 unfold inOk at e
 obtain ⟨R, hR⟩ : ∃ R, acEnc i.acts = R := ⟨_, rfl⟩
 rw [hR] at p e
 simp only [byS, actS] at p
 clear hR
 obtain ⟨kk, t, v, mm, l⟩ := i
 simp only at hi p s m e
 by_cases k1 : kk = 1
 · subst k1
   rw [if_pos rfl] at s e
   have e3 : decide (t < 255) = decide (t ≤ 254) := by rw [Bool.eq_iff_iff, decide_eq_true_eq, decide_eq_true_eq]; omega
   rw [e3] at e
   simp only [Inst.enc, wideZ, uZ_, List.length_nil, actL_nil] at s
   clear e3
   refine FnP.i Tryz.func157 rfl rfl fun G w => ?_
   repeat' (first | apply WK.s | apply WK.b | refine WK.cT rfl ?_ | (apply hQ.h; clear hQ hA) | (refine Fork.mk (fun h => ?_) (fun h => ?_) <;> (first | (simp [*] at h; done) | (have h2 := h; simp at h2; exfalso; omega) | (have h2 := h; simp at h2; try simp only [Bool.not_eq_true', Bool.not_eq_false'] at h) | skip)) | (refine WK.R Tryz.ntmps157 ?_; intro A hA Q hQ; simp [Inst.enc, wideZ, uZ_, *]) | (refine RunQ.g rfl (by rw [hA.h]; rfl) ?_; simp [Inst.enc, wideZ, uZ_, *]) | (refine RunQW.k rfl rfl rfl rfl ?_ (s) ?_ ?_ <;> simp (config := zd) [Inst.enc, wideZ, uZ_, *] <;> refine ⟨?_⟩) | (refine WK.t Tryz.func157 ?_ ?_ <;> simp (config := zd) [Tryz.results157, Inst.enc, wideZ, uZ_, *]))
 have j1 : (kk == 1) = false := by simpa using k1
 by_cases k2 : kk = 2
 · subst k2
   rw [if_neg (by decide), if_pos rfl] at s e
   simp only [Inst.enc, wideZ, uZ_, List.length_nil, actL_nil] at s m
   refine FnP.i Tryz.func157 rfl rfl fun G w => ?_
   repeat' (first | apply WK.s | apply WK.b | refine WK.cT rfl ?_ | refine WK.cF rfl ?_ | (apply hQ.h; clear hQ hA) | (refine Fork.mk (fun h => ?_) (fun h => ?_) <;> (first | (simp [*] at h; done) | (have h2 := h; simp at h2; exfalso; omega) | (have h2 := h; simp at h2; try simp only [Bool.not_eq_true', Bool.not_eq_false'] at h) | skip)) | (refine WK.R Tryz.ntmps157 ?_; intro A hA Q hQ; simp [Inst.enc, wideZ, uZ_, *]) | (refine RunQ.g rfl (by rw [hA.h]; rfl) ?_; simp [Inst.enc, wideZ, uZ_, *]) | (refine RunQ.k rfl rfl rfl rfl rfl ?_ (m) ?_ ?_ <;> simp (config := zd) [Inst.enc, wideZ, uZ_, *] <;> refine ⟨?_⟩) | (refine RunQW.k rfl rfl rfl rfl ?_ (s) ?_ ?_ <;> simp (config := zd) [Inst.enc, wideZ, uZ_, *] <;> refine ⟨?_⟩) | (refine WK.t Tryz.func157 ?_ ?_ <;> simp (config := zd) [Tryz.results157, Inst.enc, wideZ, uZ_, *]))
 have j2 : (kk == 2) = false := by simpa using k2
 by_cases k3 : kk = 3
 · subst k3
   rw [if_neg (by decide), if_neg (by decide), if_pos (.inl rfl)] at s e
   simp only [Inst.enc, wideZ, uZ_] at s
   refine FnP.i Tryz.func157 rfl rfl fun G w => ?_
   repeat' (first | apply WK.s | apply WK.b | apply WK.k | refine WK.cT rfl ?_ | refine WK.cF rfl ?_ | (apply hQ.h; clear hQ hA) | (refine Fork.mk (fun h => ?_) (fun h => ?_) <;> (first | (simp [*] at h; done) | (have h2 := h; simp at h2; exfalso; omega) | (have h2 := h; simp at h2; try simp only [Bool.not_eq_true', Bool.not_eq_false'] at h) | skip)) | (refine WK.R Tryz.ntmps157 ?_; intro A hA Q hQ; simp [Inst.enc, wideZ, uZ_, *]) | (refine RunQ.g rfl (by rw [hA.h]; rfl) ?_; simp [Inst.enc, wideZ, uZ_, *]) | (refine RunQ.k rfl rfl rfl rfl rfl ?_ (p) ?_ ?_ <;> simp (config := zd) [Inst.enc, wideZ, uZ_, *] <;> refine ⟨?_⟩) | (refine RunQW.k rfl rfl rfl rfl ?_ (s) ?_ ?_ <;> simp (config := zd) [Inst.enc, wideZ, uZ_, *] <;> refine ⟨?_⟩) | (refine WK.t Tryz.func157 ?_ ?_ <;> simp (config := zd) [Tryz.results157, Inst.enc, wideZ, uZ_, *]))
 have j3 : (kk == 3) = false := by simpa using k3
 by_cases k4 : kk = 4
 · subst k4
   rw [if_neg (by decide), if_neg (by decide), if_pos (.inr rfl)] at s e
   simp only [Inst.enc, wideZ, uZ_] at s
   refine FnP.i Tryz.func157 rfl rfl fun G w => ?_
   repeat' (first | apply WK.s | apply WK.b | refine WK.cT rfl ?_ | refine WK.cF rfl ?_ | (apply hQ.h; clear hQ hA) | (refine Fork.mk (fun h => ?_) (fun h => ?_) <;> (first | (simp [*] at h; done) | (have h2 := h; simp at h2; exfalso; omega) | (have h2 := h; simp at h2; try simp only [Bool.not_eq_true', Bool.not_eq_false'] at h) | skip)) | (refine WK.R Tryz.ntmps157 ?_; intro A hA Q hQ; simp [Inst.enc, wideZ, uZ_, *]) | (refine RunQ.g rfl (by rw [hA.h]; rfl) ?_; simp [Inst.enc, wideZ, uZ_, *]) | (refine RunQ.k rfl rfl rfl rfl rfl ?_ (p) ?_ ?_ <;> simp (config := zd) [Inst.enc, wideZ, uZ_, *] <;> refine ⟨?_⟩) | (refine RunQW.k rfl rfl rfl rfl ?_ (s) ?_ ?_ <;> simp (config := zd) [Inst.enc, wideZ, uZ_, *] <;> refine ⟨?_⟩) | (refine WK.t Tryz.func157 ?_ ?_ <;> simp (config := zd) [Tryz.results157, Inst.enc, wideZ, uZ_, *]))
 have j4 : (kk == 4) = false := by simpa using k4
 rw [if_neg k1, if_neg k2, if_neg (by omega)] at s e
 by_cases k5 : kk = 5
 · subst k5
   simp only [Inst.enc, wideZ, uZ_, List.length_nil, actL_nil] at s
   refine FnP.i Tryz.func157 rfl rfl fun G w => ?_
   repeat' (first | apply WK.s | apply WK.b | refine WK.cT rfl ?_ | refine WK.cF rfl ?_ | (apply hQ.h; clear hQ hA) | (refine WK.R Tryz.ntmps157 ?_; intro A hA Q hQ; simp [Inst.enc, wideZ, uZ_, *]) | (refine RunQ.k rfl rfl rfl rfl rfl ?_ (s) ?_ ?_ <;> simp (config := zd) [Inst.enc, wideZ, uZ_, *] <;> refine ⟨?_⟩) | (refine WK.t Tryz.func157 ?_ ?_ <;> simp (config := zd) [Tryz.results157, Inst.enc, wideZ, uZ_, *]))
 have j5 : (kk == 5) = false := by simpa using k5
 refine FnP.i Tryz.func157 rfl rfl fun G w => ?_
 repeat' (first | apply WK.s | apply WK.b | apply WK.n | apply WK.k | refine WK.cF rfl ?_ | (apply hQ.h; clear hQ hA) | (refine WK.R Tryz.ntmps157 ?_; intro A hA Q hQ; simp [Inst.enc, wideZ, uZ_, *]) | (refine WK.t Tryz.func157 ?_ ?_ <;> simp (config := zd) [Tryz.results157, Inst.enc, wideZ, uZ_, *]))
theorem inFind_hit {l : List Inst} {k : Int} {i : Nat} (h : i < l.length) (hk : (nth l i).kind = k) (hn : ∀ j, j < i → ¬ (nth l j).kind = k) : inFind l k = (nth l i, true) := by
 unfold inFind
 have : l.find? (fun i => i.kind == k) = some (nth l i) := by
   rw [List.find?_eq_some_iff_getElem]
   refine ⟨by simpa using hk, i, h, by rw [nth_eq h], fun j hj => ?_⟩
   have := hn j hj
   rw [nth_eq (by omega)] at this
   simpa using this
 rw [this]
theorem inFind_miss {l : List Inst} {k : Int} (hn : ∀ j, j < l.length → ¬ (nth l j).kind = k) : inFind l k = (inst0, false) := by
 unfold inFind
 have : l.find? (fun i => i.kind == k) = none := by
   rw [List.find?_eq_none]
   intro x hx
   obtain ⟨j, hj, rfl⟩ := mem_nth hx
   simpa using hn j hj
 rw [this]
theorem inst_get (l : List Inst) (i k : Nat) (h : i < l.length) (hk : k < 7) (h' : i * 7 + k < (instL l).length) : (instL l)[i * 7 + k] = ((nth l i).enc)[k]'(by rw [Inst.len]; exact hk) := fm_get Inst.len l i k h hk h'
theorem inst_part (l : List Inst) (i p q : Nat) (h : i < l.length) (hpq : p + q ≤ 7) : ((instL l).drop (i * 7 + p)).take q = ((nth l i).enc.drop p).take q := by
 rw [← inst_sub l i h, List.drop_take, List.drop_drop, List.take_take, Nat.min_eq_left (by omega)]
theorem inst_value (l : List Inst) (i : Nat) (h : i < l.length) : ((instL l).drop (i * 7 + 2)).take 2 = (nth l i).value.enc := by rw [inst_part l i 2 2 h (by omega)]; rfl
theorem inst_mask (l : List Inst) (i : Nat) (h : i < l.length) : ((instL l).drop (i * 7 + 4)).take 2 = (nth l i).mask.enc := by rw [inst_part l i 4 2 h (by omega)]; rfl
theorem riof_c (l : List Inst) (k : Int) (hl : l.length ≤ 1000000) : FnP Tryz.prog 156 [instS l, .int .i64 k] (.tup [.agg (inFind l k).1.enc, .bool (inFind l k).2]) := by
 unfold instS
 refine FnP.i Tryz.func156 rfl rfl fun G w => ?_
 repeat' (first | apply WK.s | apply WK.b | (apply hQ.h; clear hQ hA) | (refine WK.R Tryz.ntmps156 ?_; intro A hA Q hQ; simp [*]))
 refine WK.L (fun n => n) (fun i : Nat => (⟨(upd (upd (upd (upd (upd J 0 (.sl false l.length (instL l))) 1 (.int .i64 k)) 4 (.ptr 0 0)) 5 (.bool false)) 6 (.int .i64 i)), (upd B0 0 (.var inst0.enc)), 0⟩ : St)) (fun i => i ≤ l.length ∧ ∀ j, j < i → ¬ (nth l j).kind = k) (fun i => l.length - i) (0) (by repeat (first | exact TmW.nil | refine TmW.upd ?_ (by simp (config := zd) [inst0, Inst.enc, wideZ, uZ_]))) (by repeat (first | exact BxW.nil | refine BxW.upd ?_ (by simp (config := zd) [inst0, Inst.enc, wideZ, uZ_]))) (⟨by omega, by simp⟩) (fun i hi IH => ?_)
 by_cases h1 : i < l.length
 · have h4 := inst_sub l i h1
   have h3 : 7 ≤ l.length * 7 - i * 7 := by omega
   have h0 := inst_get0 l i h1
   have h6 : IntKind.i64.wrap ((i : Int) + 1) = i + 1 := wrap_i64 (by omega) (by omega)
   have l0 : i * 7 < l.length * 7 := by omega
   by_cases hk : (nth l i).kind = k
   · have e := inFind_hit h1 hk hi.2
     have jk : ((nth l i).kind == k) = true := by simpa using hk
     rw [e]
     obtain ⟨x, hx⟩ : ∃ x, nth l i = x := ⟨_, rfl⟩
     rw [hx] at h4 h0 jk ⊢
     clear hx hk e hi IH
     simp only [Inst.enc] at h4
     repeat' (first | apply WK.s | apply WK.b | apply WK.k | refine WK.cT rfl ?_ | (apply hQ.h; clear hQ hA) | (refine WK.R Tryz.ntmps156 ?_; intro A hA Q hQ; simp [Inst.enc, inst0, wideZ, uZ_, *]) | (refine WK.t Tryz.func156 ?_ ?_ <;> simp (config := zd) [Tryz.results156, Inst.enc, inst0, wideZ, uZ_, *]))
   · have jk : ((nth l i).kind == k) = false := by simpa using hk
     have hj : ∀ j, j < i + 1 → ¬ (nth l j).kind = k := fun j hj => by
       by_cases h7 : j = i
       · subst h7; exact hk
       · exact hi.2 j (by omega)
     obtain ⟨x, hx⟩ : ∃ x, nth l i = x := ⟨_, rfl⟩
     rw [hx] at h4 h0 jk
     clear hx hk hi
     simp only [Inst.enc] at h4
     repeat' (first | apply WK.s | apply WK.b | apply WK.n | apply WK.k | refine WK.cT rfl ?_ | refine WK.cF rfl ?_ | (apply hQ.h; clear hQ hA) | (refine WK.R Tryz.ntmps156 ?_; intro A hA Q hQ; simp [Inst.enc, inst0, wideZ, uZ_, *]))
     refine WK.N (fun n => n) (IH (i + 1) (⟨by omega, hj⟩) (by first | omega | (dsimp only; omega))) (by repeat (first | exact TmW.nil | refine TmW.upd ?_ (by simp (config := zd) [inst0, Inst.enc, wideZ, uZ_]))) (by repeat (first | exact BxW.nil | refine BxW.upd ?_ (by simp (config := zd) [inst0, Inst.enc, wideZ, uZ_])))
 · have e := inFind_miss (k := k) (l := l) (fun j hj => hi.2 j (by omega))
   rw [e]
   clear hi IH e
   repeat' (first | apply WK.s | refine WK.exit rfl ?_ | refine WK.cF rfl ?_ | (apply hQ.h; clear hQ hA) | (refine WK.R Tryz.ntmps156 ?_; intro A hA Q hQ; simp [inst0, Inst.enc, wideZ, uZ_, *]) | (refine WK.t Tryz.func156 ?_ ?_ <;> simp (config := zd) [Tryz.results156, inst0, Inst.enc, wideZ, uZ_, *]))

theorem inFind_snd (l : List Inst) (k : Int) : (inFind l k).2 = decide (k ∈ inKinds l) := by
 unfold inFind
 cases h : l.find? (fun i => i.kind == k) with
 | none =>
   rw [List.find?_eq_none] at h
   have : k ∉ inKinds l := by
     intro hk
     unfold inKinds at hk
     obtain ⟨x, hx, rfl⟩ := List.mem_map.1 hk
     exact h x hx (by simp)
   simp [this]
 | some i =>
   have hm := List.mem_of_find?_eq_some h
   have hp := List.find?_some h
   have : k ∈ inKinds l := List.mem_map.2 ⟨i, hm, by simpa using hp⟩
   simp [this]
theorem beN_one (t : Int) : beN t 1 = [BitVec.ofInt 8 t] := by simp [beN]
set_option maxHeartbeats 8000000 in
theorem rienc_c (l : List Inst) (hl : l.length ≤ 100) (ha : ∀ x, x ∈ l → x.acts.length ≤ 1000000) : FnT Tryz.prog 98 [instS l] (inEnc l).1.length 1 (byL (inEnc l).1) [.int .i64 (inEnc l).2] := by
 unfold instS
 refine FnT.intro Tryz.func98 rfl rfl fun G w => ?_
 repeat' (first | apply WK.s | apply WK.b | (apply hQ.h; clear hQ hA) | (refine WK.R Tryz.ntmps98 ?_; intro A hA Q hQ; simp [*]))
 refine WK.ghost (Ghost.own 4 900 1 rfl rfl) ?_
 refine WK.L (fun n => if n = 1 then 900 else n) (fun i : Nat => (⟨(upd (upd (upd (upd (upd J 0 (.sl false l.length (instL l))) 2 (.sl true 0 [])) 3 (.int .i64 0)) 4 (.msl 1 0 (rwFlat inOne (l.take i)).length)) 5 (.int .i64 i)), (upd B0 1 (.buf 1 (byL (rwFlat inOne (l.take i))))), 0⟩ : St)) (fun i => i ≤ l.length ∧ (∀ j, j < i → inRight (nth l j) = true) ∧ (inKinds (l.take i)).Nodup) (fun i => l.length - i) (0) (by repeat (first | exact TmW.nil | refine TmW.upd ?_ (by simp (config := zd) [rwFlat, b0_]))) (by repeat (first | exact BxW.nil | refine BxW.upd ?_ (by simp (config := zd) [rwFlat, b0_]))) (⟨by omega, by simp, by simp [inKinds]⟩) (fun i hi IH => ?_)
 have hfl := inFlat_len (l.take i)
 have htl : (l.take i).length ≤ 100 := by rw [List.length_take]; omega
 by_cases h1 : i < l.length
 · have h4 := inst_sub l i h1
   have h3 : 7 ≤ l.length * 7 - i * 7 := by omega
   have g0 := inst_get l i 0 h1 (by omega)
   have g1 := inst_get l i 1 h1 (by omega)
   have g6 := inst_get l i 6 h1 (by omega)
   have gv : ((instL l).drop (i * 7 + 2)).take 2 = (nth l i).value.enc := inst_value l i h1
   have gm : ((instL l).drop (i * 7 + 4)).take 2 = (nth l i).mask.enc := inst_mask l i h1
   have l0 : i * 7 < l.length * 7 := by omega
   have l1 : i * 7 + 1 < l.length * 7 := by omega
   have l6 : i * 7 + 6 < l.length * 7 := by omega
   have l2 : 2 ≤ l.length * 7 - (i * 7 + 2) := by omega
   have l4 : 2 ≤ l.length * 7 - (i * 7 + 4) := by omega
   have h6 : IntKind.i64.wrap ((i : Int) + 1) = i + 1 := wrap_i64 (by omega) (by omega)
   have hs := inFlat_succ h1
   have hx := ha _ (nth_mem h1)
   have hrc := riright_c (nth l i) hx
   have hks := inKinds_succ h1
   have hof := riof_c (l.take i) (nth l i).kind (by omega)
   have hfs := inFind_snd (l.take i) (nth l i).kind
   have htk : (instL l).take (i * 7) = instL (l.take i) := by unfold instL; exact fm_take Inst.len l i
   have hll : (l.take i).length = i := by rw [List.length_take]; omega
   have hil : (i : Int) ≤ l.length := by omega
   unfold instS at hof
   rw [hll] at hof
   have htwo : (nth l i).kind ∈ inKinds (l.take i) → inEnc l = ([], 1) := inEnc_two h1
   have hwr : inRight (nth l i) = false → inEnc l = ([], 1) := inEnc_wrong h1
   have hnd := hi.2.2
   have hall := hi.2.1
   have hjr : inRight (nth l i) = true → ∀ j, j < i + 1 → inRight (nth l j) = true := fun hr j hj => by
     by_cases h7 : j = i
     · subst h7; exact hr
     · exact hall j (by omega)
   have hjn : (nth l i).kind ∉ inKinds (l.take i) → (inKinds (l.take (i + 1))).Nodup := fun h0 => by
     rw [hks]; exact nodup_snoc hnd h0
   have hbl := inBody_len (nth l i)
   have hone : inOne (nth l i) = beN (nth l i).kind 2 ++ (beN (4 + (inBody (nth l i)).length : Nat) 2 ++ inBody (nth l i)) := rfl
   have hn2 : numOk ((4 + (inBody (nth l i)).length : Nat) : Int) 2 = true := numOk2 (by omega)
   have p := racencP_c (nth l i).acts hx
   have hEl := acEnc_len (nth l i).acts
   obtain ⟨x, hxx⟩ : ∃ x, nth l i = x := ⟨_, rfl⟩
   simp only [hxx, Inst.enc, List.getElem_cons_zero, List.getElem_cons_succ, Nat.add_zero] at g0 g1 g6
   rw [hxx] at h4 hs hx hrc hof hfs htwo hwr hjr hjn hbl hone hn2 p hEl gv gm
   obtain ⟨y, bo, hyb⟩ : ∃ y bo, inFind (l.take i) x.kind = (y, bo) := ⟨_, _, rfl⟩
   rw [hyb] at hof hfs
   simp only at hof hfs
   obtain ⟨F, hF⟩ : ∃ F, rwFlat inOne (l.take i) = F := ⟨_, rfl⟩
   rw [hF] at hs hfl ⊢
   have hFl : F.length ≤ 700000 := by omega
   obtain ⟨r, hr⟩ : ∃ r, inRight x = r := ⟨_, rfl⟩
   rw [hr] at hrc hwr hjr
   simp only [Inst.enc] at h4 hrc hof
   have hgot := hi
   clear hi hall hnd hks hF hxx hfl htl hyb hll
   cases bo
   case true =>
     have e := htwo (of_decide_eq_true hfs.symm)
     rw [e]
     clear htwo hwr hjr hjn hone hn2 hs p hEl hbl hr hfs
     repeat' (first | apply WK.s | apply WK.b | apply WK.k | refine WK.cT rfl ?_ | (refine hQ.h _ _ ?_; clear hQ hA) | (refine WK.R Tryz.ntmps98 ?_; intro A hA Q hQ; simp [*]) | (refine WK.X Tryz.ntmps98 ?_; intro A hA Q hQ; simp [*]) | (refine hQ.h _ _ _ (by decide +kernel) ?_; clear hQ hA) | (refine RunQ.g rfl (by rw [hA.h]; rfl) ?_; simp [*]) | (refine RunX.k rfl rfl rfl rfl ?_ (hof) ?_ ?_ <;> simp (config := zd) [*] <;> refine ⟨?_⟩))
     refine WK.ghost (Ghost.own 2 905 1 rfl rfl) ?_
     refine WK.retT2 Tryz.func98 ?_ ?_ ?_ <;> simp (config := zd) [Tryz.results98, b0_]
   have hnot := of_decide_eq_false hfs.symm
   cases r
   · have e := hwr rfl
     rw [e]
     clear htwo hwr hjr hjn hone hn2 hs p hEl hbl hr hfs hnot
     repeat' (first | apply WK.s | apply WK.b | apply WK.k | refine WK.cT rfl ?_ | (refine hQ.h _ _ ?_; clear hQ hA) | (refine WK.R Tryz.ntmps98 ?_; intro A hA Q hQ; simp [*]) | (refine WK.X Tryz.ntmps98 ?_; intro A hA Q hQ; simp [*]) | (refine hQ.h _ _ _ (by decide +kernel) ?_; clear hQ hA) | (refine RunQ.g rfl (by rw [hA.h]; rfl) ?_; simp [*]) | (refine RunQW.k rfl rfl rfl rfl ?_ (hrc) ?_ ?_ <;> simp (config := zd) [*] <;> refine ⟨?_⟩) | (refine RunX.k rfl rfl rfl rfl ?_ (hof) ?_ ?_ <;> simp (config := zd) [*] <;> refine ⟨?_⟩))
     refine WK.ghost (Ghost.own 2 905 1 rfl rfl) ?_
     refine WK.retT2 Tryz.func98 ?_ ?_ ?_ <;> simp (config := zd) [Tryz.results98, b0_]
   have hK2 := hjn hnot
   have hj2 := hjr rfl
   have hokx := (inRight_facts hr).1
   have hkd : numOk x.kind 2 = true := by
     have := inKind_of hokx
     rw [numOk_iff]; exact ⟨by omega, by show x.kind < 65536; omega⟩
   have c1 := rput_c F x.kind 2 Sz2 (by omega)
   rw [putN_beN hkd] at c1
   obtain ⟨K, hK⟩ : ∃ K, inBody x = K := ⟨_, rfl⟩
   rw [hK] at hbl hone hn2
   obtain ⟨F1, hF1⟩ : ∃ F1, F ++ beN x.kind 2 = F1 := ⟨_, rfl⟩
   rw [hF1] at c1
   have hF1l : F1.length = F.length + 2 := by rw [← hF1, List.length_append, beN_len]
   have c2 := rput_c F1 ((4 + K.length : Nat) : Int) 2 Sz2 (by omega)
   rw [putN_beN hn2] at c2
   obtain ⟨F2, hF2⟩ : ∃ F2, F1 ++ beN ((4 + K.length : Nat) : Int) 2 = F2 := ⟨_, rfl⟩
   rw [hF2] at c2
   have hF2l : F2.length = F.length + 4 := by rw [← hF2, List.length_append, beN_len]; omega
   have hs2 : rwFlat inOne (l.take (i + 1)) = F2 ++ K := by rw [hs, hone, ← hF2, ← hF1]; simp only [List.append_assoc]
   have hs3 : byL F2 ++ byL K = byL (rwFlat inOne (l.take (i + 1))) := by rw [hs2, byL_app]
   have hs4 : (rwFlat inOne (l.take (i + 1))).length = F2.length + K.length := by rw [hs2, List.length_append]
   have w4 : IntKind.i64.wrap (4 + (K.length : Int)) = 4 + (K.length : Int) := wrap_i64 (by omega) (by omega)
   have hbd : F2.length + K.length ≤ 140737488355328 := by omega
   have hfu1 := by_full F F.length rfl
   have hfu2 := by_full F1 F1.length rfl
   have hfu3 := by_full K K.length rfl
   unfold byS at c1 c2
   clear htwo hwr hjr hjn hone hn2 hs hF1 hF2 hF1l hF2l hs2 hkd hfs hnot hr
   obtain ⟨kk, t, v, m, ac⟩ := x
   simp only at *
   rcases inKind_of hokx with k | k | k | k | k <;> (simp only at k; subst k)
   · have ht : numOk t 1 = true := by
       unfold inOk at hokx; simp only at hokx
       rw [numOk_iff]
       have : 0 ≤ t ∧ t < 255 := by simpa using hokx
       exact ⟨this.1, by show t < 256; omega⟩
     have e : inBody ⟨1, t, v, m, ac⟩ = BitVec.ofInt 8 t :: List.replicate 3 0#8 := by unfold inBody; simp only; rw [if_pos (by decide)]
     have c0 := rput_c [] t 1 Sz1 (by simp)
     rw [putN_beN ht, List.nil_append, beN_one] at c0
     have hKl : K.length = 4 := by rw [← hK, e]; rfl
     have hKb : byL K = [.int .u8 (bI (BitVec.ofInt 8 t)), .int .u8 0, .int .u8 0, .int .u8 0] := by rw [← hK, e]; rfl
     have hq2 : byL [BitVec.ofInt 8 t] = [.int .u8 (bI (BitVec.ofInt 8 t))] := rfl
     rw [hq2] at c0
     simp only [byS, b0_, List.length_nil, List.length_cons, Nat.zero_add] at c0
     rw [hKl] at c2 hs4 hbd
     rw [hKb] at hs3
     have w8 : IntKind.i64.wrap 8 = 8 := rfl
     clear w4
     clear p hEl ht e hbl hfu3 hK hKl hKb gv gm g6
     repeat' (first | apply WK.s | apply WK.b | apply WK.n | apply WK.k | refine WK.cT rfl ?_ | refine WK.cF rfl ?_ | (refine hQ.h _ _ ?_; clear hQ hA) | (refine WK.R Tryz.ntmps98 ?_; intro A hA Q hQ; simp [*]) | (refine WK.X Tryz.ntmps98 ?_; intro A hA Q hQ; simp [*]) | (refine hQ.h _ _ _ (by decide +kernel) ?_; clear hQ hA) | (refine RunQ.g rfl (by rw [hA.h]; rfl) ?_; simp [*]) | (refine RunQ.callO 901 rfl rfl rfl rfl rfl ?_ (c0) ?_ ?_ ?_ ?_; (focus simp (config := zd) [*]; done); (focus simp [*]; done); (focus simp [*]; done); (focus simp [*]; done); refine RunQ.evalH ?_; simp [*]) | (refine RunQ.append 902 appByte rfl rfl rfl rfl rfl rfl rfl rfl rfl ?_ ?_ ?_ ?_ ?_; (focus first | omega | simp [*]; done); (focus first | omega | simp [*]; done); (focus first | omega | simp [*]; done); (focus first | omega | simp [*]; done); refine RunQ.evalH ?_; simp [*]) | (refine RunQ.callOz 903 85 1 rfl rfl rfl rfl rfl rfl rfl ?_ (c1) ?_ ?_ (by simp) (by decide) ?_; (focus simp (config := zd) [*]; done); (focus simp [*]; done); (focus simp [*]; done); refine RunQ.evalH ?_; simp [*]) | (refine RunQ.callOz 904 91 1 rfl rfl rfl rfl rfl rfl rfl ?_ (c2) ?_ ?_ (by simp) (by decide) ?_; (focus simp (config := zd) [*]; done); (focus simp [*]; done); (focus simp [*]; done); refine RunQ.evalH ?_; simp [*]) | (refine RunQ.appendFz 906 appByte rfl rfl rfl rfl rfl rfl rfl rfl rfl rfl ?_ ?_ ?_ ?_ ?_ ?_; (focus first | omega | simp [*]; done); (focus first | omega | simp [*]; done); (focus first | omega | simp [*]; done); (focus simp [*]; done); (focus simp [*]; done); refine RunQ.evalH ?_; simp [*]) | (refine RunQW.k rfl rfl rfl rfl ?_ (hrc) ?_ ?_ <;> simp (config := zd) [*] <;> refine ⟨?_⟩) | (refine RunX.k rfl rfl rfl rfl ?_ (hof) ?_ ?_ <;> simp (config := zd) [*] <;> refine ⟨?_⟩))
     refine WK.N (fun n => if n = 1 then 906 else n) (IH (i + 1) (⟨by omega, hj2, hK2⟩) (by first | omega | (dsimp only; omega))) (by repeat (first | exact TmW.nil | refine TmW.upd ?_ (by simp (config := zd) [hs3, hs4]))) (by repeat (first | exact BxW.nil | refine BxW.upd ?_ (by simp (config := zd) [hs3, hs4])))
   · have e : inBody ⟨2, t, v, m, ac⟩ = List.replicate 4 0#8 ++ (beN (wN v) 8 ++ beN (wN m) 8) := by unfold inBody; simp only; rw [if_neg (by decide), if_pos (by decide)]
     have d1 := rwput_c (List.replicate 4 0#8) v 8 (by omega) (by simp)
     rw [wPut_beN _ _ _ (by omega)] at d1
     have d2 := rwput_c (List.replicate 4 0#8 ++ beN (wN v) 8) m 8 (by omega) (by simp [beN_len])
     rw [wPut_beN _ _ _ (by omega), List.append_assoc, ← e, hK] at d2
     have hz : (List.replicate 4 0#8).length = 4 := rfl
     have hll : (List.replicate 4 0#8 ++ beN (wN v) 8).length = 12 := by simp [beN_len]
     obtain ⟨Z1, hZ1⟩ : ∃ F, List.replicate 4 0#8 ++ beN (wN v) 8 = F := ⟨_, rfl⟩
     rw [hZ1] at d1 d2 hll
     have hfu : (byL Z1).take 12 = byL Z1 := by_full _ _ hll.symm
     unfold byS at d1 d2
     rw [hll] at d1 d2
     rw [hz, z4L] at d1
     unfold Wide.enc at d1 d2 gv gm
     clear p hEl e hbl hZ1 hK g1 g6
     repeat' (first | apply WK.s | apply WK.b | apply WK.n | apply WK.k | refine WK.cT rfl ?_ | refine WK.cF rfl ?_ | (refine hQ.h _ _ ?_; clear hQ hA) | (refine WK.R Tryz.ntmps98 ?_; intro A hA Q hQ; simp [*]) | (refine WK.X Tryz.ntmps98 ?_; intro A hA Q hQ; simp [*]) | (refine hQ.h _ _ _ (by decide +kernel) ?_; clear hQ hA) | (refine RunQ.g rfl (by rw [hA.h]; rfl) ?_; simp [*]) | (refine RunX.callO 901 rfl rfl rfl rfl ?_ (d1) ?_ ?_ ?_ ?_; (focus simp (config := zd) [*]; done); (focus simp [*]; done); (focus simp [*]; done); (focus simp [*]; done); refine RunX.e ?_; simp [*]) | (refine RunX.callOz 902 63 1 rfl rfl rfl rfl rfl rfl ?_ (d2) ?_ ?_ (by simp) (by decide) ?_; (focus simp (config := zd) [*]; done); (focus simp [*]; done); (focus simp [*]; done); refine RunX.e ?_; simp [*]) | (refine RunQ.callOz 903 85 1 rfl rfl rfl rfl rfl rfl rfl ?_ (c1) ?_ ?_ (by simp) (by decide) ?_; (focus simp (config := zd) [*]; done); (focus simp [*]; done); (focus simp [*]; done); refine RunQ.evalH ?_; simp [*]) | (refine RunQ.callOz 904 91 1 rfl rfl rfl rfl rfl rfl rfl ?_ (c2) ?_ ?_ (by simp) (by decide) ?_; (focus simp (config := zd) [*]; done); (focus simp [*]; done); (focus simp [*]; done); refine RunQ.evalH ?_; simp [*]) | (refine RunQ.appendFz 906 appByte rfl rfl rfl rfl rfl rfl rfl rfl rfl rfl ?_ ?_ ?_ ?_ ?_ ?_; (focus first | omega | simp [*]; done); (focus first | omega | simp [*]; done); (focus first | omega | simp [*]; done); (focus simp [*]; done); (focus simp [*]; done); refine RunQ.evalH ?_; simp [*]) | (refine RunQW.k rfl rfl rfl rfl ?_ (hrc) ?_ ?_ <;> simp (config := zd) [*] <;> refine ⟨?_⟩) | (refine RunX.k rfl rfl rfl rfl ?_ (hof) ?_ ?_ <;> simp (config := zd) [*] <;> refine ⟨?_⟩))
     refine WK.N (fun n => if n = 1 then 906 else n) (IH (i + 1) (⟨by omega, hj2, hK2⟩) (by first | omega | (dsimp only; omega))) (by repeat (first | exact TmW.nil | refine TmW.upd ?_ (by simp (config := zd) [hs3, hs4]))) (by repeat (first | exact BxW.nil | refine BxW.upd ?_ (by simp (config := zd) [hs3, hs4])))
   · have e : inBody ⟨3, t, v, m, ac⟩ = List.replicate 4 0#8 ++ (acEnc ac).1 := by unfold inBody; simp only; rw [if_neg (by decide), if_neg (by decide), if_pos (by decide)]
     obtain ⟨R, hR⟩ : ∃ R, acEnc ac = R := ⟨_, rfl⟩
     rw [hR] at e p hEl
     obtain ⟨E, ec⟩ := R
     simp only at e p hEl
     simp only [byS, actS] at p
     by_cases hE0 : E = []
     · subst hE0
       have hKl : K.length = 4 := by rw [← hK, e]; rfl
       have hKb : byL K = [.int .u8 0, .int .u8 0, .int .u8 0, .int .u8 0] := by rw [← hK, e]; rfl
       rw [hKl] at c2 hs4 hbd
       rw [hKb] at hs3
       have w8 : IntKind.i64.wrap 8 = 8 := rfl
       simp only [List.length_nil, b0_] at p
       clear e hbl hfu3 hK hKl hKb hR gv gm w4 g1
       repeat' (first | apply WK.s | apply WK.b | apply WK.n | apply WK.k | refine WK.cT rfl ?_ | refine WK.cF rfl ?_ | (refine hQ.h _ _ ?_; clear hQ hA) | (refine WK.R Tryz.ntmps98 ?_; intro A hA Q hQ; simp [*]) | (refine WK.X Tryz.ntmps98 ?_; intro A hA Q hQ; simp [*]) | (refine hQ.h _ _ _ (by decide +kernel) ?_; clear hQ hA) | (refine RunQ.g rfl (by rw [hA.h]; rfl) ?_; simp [*]) | (refine RunQ.appendN appByte rfl rfl rfl rfl rfl rfl rfl rfl ?_; refine RunQ.evalH ?_; simp [*]) | (refine RunQ.callOz 903 85 1 rfl rfl rfl rfl rfl rfl rfl ?_ (c1) ?_ ?_ (by simp) (by decide) ?_; (focus simp (config := zd) [*]; done); (focus simp [*]; done); (focus simp [*]; done); refine RunQ.evalH ?_; simp [*]) | (refine RunQ.callOz 904 91 1 rfl rfl rfl rfl rfl rfl rfl ?_ (c2) ?_ ?_ (by simp) (by decide) ?_; (focus simp (config := zd) [*]; done); (focus simp [*]; done); (focus simp [*]; done); refine RunQ.evalH ?_; simp [*]) | (refine RunQ.append 906 appByte rfl rfl rfl rfl rfl rfl rfl rfl rfl ?_ ?_ ?_ ?_ ?_; (focus first | omega | simp [*]; done); (focus first | omega | simp [*]; done); (focus first | omega | simp [*]; done); (focus first | omega | simp [*]; done); refine RunQ.evalH ?_; simp [*]) | (refine RunQ.k rfl rfl rfl rfl rfl ?_ (p) ?_ ?_ <;> simp (config := zd) [*] <;> refine ⟨?_⟩) | (refine RunQW.k rfl rfl rfl rfl ?_ (hrc) ?_ ?_ <;> simp (config := zd) [*] <;> refine ⟨?_⟩) | (refine RunX.k rfl rfl rfl rfl ?_ (hof) ?_ ?_ <;> simp (config := zd) [*] <;> refine ⟨?_⟩))
       refine WK.N (fun n => if n = 1 then 906 else n) (IH (i + 1) (⟨by omega, hj2, hK2⟩) (by first | omega | (dsimp only; omega))) (by repeat (first | exact TmW.nil | refine TmW.upd ?_ (by simp (config := zd) [hs3, hs4]))) (by repeat (first | exact BxW.nil | refine BxW.upd ?_ (by simp (config := zd) [hs3, hs4])))
     · have hE0 : 0 < E.length := List.length_pos_iff.2 hE0
       have hKl : K.length = 4 + E.length := by rw [← hK, e, List.length_append]; rfl
       have hKb : byL K = .int .u8 0 :: .int .u8 0 :: .int .u8 0 :: .int .u8 0 :: byL E := by rw [← hK, e, byL_app, z4L]; rfl
       have hfe := by_full E E.length rfl
       rw [hKl] at c2 hs4 hbd
       have w8 : IntKind.i64.wrap (4 + (4 + (E.length : Int))) = 4 + (4 + (E.length : Int)) := wrap_i64 (by omega) (by omega)
       clear w4
       rw [hKb] at hs3
       have hbe : 4 + E.length ≤ 140737488355328 := by omega
       have hcomm : E.length + 4 = 4 + E.length := Nat.add_comm _ _
       clear e hbl hfu3 hK hKl hKb hR gv gm g1
       repeat' (first | apply WK.s | apply WK.b | apply WK.n | apply WK.k | refine WK.cT rfl ?_ | refine WK.cF rfl ?_ | (refine hQ.h _ _ ?_; clear hQ hA) | (refine WK.R Tryz.ntmps98 ?_; intro A hA Q hQ; simp [*]) | (refine WK.X Tryz.ntmps98 ?_; intro A hA Q hQ; simp [*]) | (refine hQ.h _ _ _ (by decide +kernel) ?_; clear hQ hA) | (refine RunQ.g rfl (by rw [hA.h]; rfl) ?_; simp [*]) | (refine RunQ.appendF 901 appByte rfl rfl rfl rfl rfl rfl rfl rfl ?_ ?_ ?_ ?_ ?_ ?_ ?_; (focus first | omega | simp [*]; done); (focus first | omega | simp [*]; done); (focus first | omega | simp [*]; done); (focus first | omega | simp [*]; done); (focus first | omega | simp [*]; done); (focus simp [*]; done); refine RunQ.evalH ?_; simp [*]) | (refine RunQ.callOz 903 85 1 rfl rfl rfl rfl rfl rfl rfl ?_ (c1) ?_ ?_ (by simp) (by decide) ?_; (focus simp (config := zd) [*]; done); (focus simp [*]; done); (focus simp [*]; done); refine RunQ.evalH ?_; simp [*]) | (refine RunQ.callOz 904 91 1 rfl rfl rfl rfl rfl rfl rfl ?_ (c2) ?_ ?_ (by simp) (by decide) ?_; (focus simp (config := zd) [*]; done); (focus simp [*]; done); (focus simp [*]; done); refine RunQ.evalH ?_; simp [*]) | (refine RunQ.appendFz 906 appByte rfl rfl rfl rfl rfl rfl rfl rfl rfl rfl ?_ ?_ ?_ ?_ ?_ ?_; (focus first | omega | simp [*]; done); (focus first | omega | simp [*]; done); (focus first | omega | simp [*]; done); (focus simp [*]; done); (focus simp [*]; done); refine RunQ.evalH ?_; simp [*]) | (refine RunQ.k rfl rfl rfl rfl rfl ?_ (p) ?_ ?_ <;> simp (config := zd) [*] <;> refine ⟨?_⟩) | (refine RunQW.k rfl rfl rfl rfl ?_ (hrc) ?_ ?_ <;> simp (config := zd) [*] <;> refine ⟨?_⟩) | (refine RunX.k rfl rfl rfl rfl ?_ (hof) ?_ ?_ <;> simp (config := zd) [*] <;> refine ⟨?_⟩))
       refine WK.N (fun n => if n = 1 then 906 else n) (IH (i + 1) (⟨by omega, hj2, hK2⟩) (by first | omega | (dsimp only; omega))) (by repeat (first | exact TmW.nil | refine TmW.upd ?_ (by simp (config := zd) [hs3, hs4]))) (by repeat (first | exact BxW.nil | refine BxW.upd ?_ (by simp (config := zd) [hs3, hs4])))
   · have e : inBody ⟨4, t, v, m, ac⟩ = List.replicate 4 0#8 ++ (acEnc ac).1 := by unfold inBody; simp only; rw [if_neg (by decide), if_neg (by decide), if_pos (by decide)]
     obtain ⟨R, hR⟩ : ∃ R, acEnc ac = R := ⟨_, rfl⟩
     rw [hR] at e p hEl
     obtain ⟨E, ec⟩ := R
     simp only at e p hEl
     simp only [byS, actS] at p
     by_cases hE0 : E = []
     · subst hE0
       have hKl : K.length = 4 := by rw [← hK, e]; rfl
       have hKb : byL K = [.int .u8 0, .int .u8 0, .int .u8 0, .int .u8 0] := by rw [← hK, e]; rfl
       rw [hKl] at c2 hs4 hbd
       rw [hKb] at hs3
       have w8 : IntKind.i64.wrap 8 = 8 := rfl
       simp only [List.length_nil, b0_] at p
       clear e hbl hfu3 hK hKl hKb hR gv gm w4 g1
       repeat' (first | apply WK.s | apply WK.b | apply WK.n | apply WK.k | refine WK.cT rfl ?_ | refine WK.cF rfl ?_ | (refine hQ.h _ _ ?_; clear hQ hA) | (refine WK.R Tryz.ntmps98 ?_; intro A hA Q hQ; simp [*]) | (refine WK.X Tryz.ntmps98 ?_; intro A hA Q hQ; simp [*]) | (refine hQ.h _ _ _ (by decide +kernel) ?_; clear hQ hA) | (refine RunQ.g rfl (by rw [hA.h]; rfl) ?_; simp [*]) | (refine RunQ.appendN appByte rfl rfl rfl rfl rfl rfl rfl rfl ?_; refine RunQ.evalH ?_; simp [*]) | (refine RunQ.callOz 903 85 1 rfl rfl rfl rfl rfl rfl rfl ?_ (c1) ?_ ?_ (by simp) (by decide) ?_; (focus simp (config := zd) [*]; done); (focus simp [*]; done); (focus simp [*]; done); refine RunQ.evalH ?_; simp [*]) | (refine RunQ.callOz 904 91 1 rfl rfl rfl rfl rfl rfl rfl ?_ (c2) ?_ ?_ (by simp) (by decide) ?_; (focus simp (config := zd) [*]; done); (focus simp [*]; done); (focus simp [*]; done); refine RunQ.evalH ?_; simp [*]) | (refine RunQ.append 906 appByte rfl rfl rfl rfl rfl rfl rfl rfl rfl ?_ ?_ ?_ ?_ ?_; (focus first | omega | simp [*]; done); (focus first | omega | simp [*]; done); (focus first | omega | simp [*]; done); (focus first | omega | simp [*]; done); refine RunQ.evalH ?_; simp [*]) | (refine RunQ.k rfl rfl rfl rfl rfl ?_ (p) ?_ ?_ <;> simp (config := zd) [*] <;> refine ⟨?_⟩) | (refine RunQW.k rfl rfl rfl rfl ?_ (hrc) ?_ ?_ <;> simp (config := zd) [*] <;> refine ⟨?_⟩) | (refine RunX.k rfl rfl rfl rfl ?_ (hof) ?_ ?_ <;> simp (config := zd) [*] <;> refine ⟨?_⟩))
       refine WK.N (fun n => if n = 1 then 906 else n) (IH (i + 1) (⟨by omega, hj2, hK2⟩) (by first | omega | (dsimp only; omega))) (by repeat (first | exact TmW.nil | refine TmW.upd ?_ (by simp (config := zd) [hs3, hs4]))) (by repeat (first | exact BxW.nil | refine BxW.upd ?_ (by simp (config := zd) [hs3, hs4])))
     · have hE0 : 0 < E.length := List.length_pos_iff.2 hE0
       have hKl : K.length = 4 + E.length := by rw [← hK, e, List.length_append]; rfl
       have hKb : byL K = .int .u8 0 :: .int .u8 0 :: .int .u8 0 :: .int .u8 0 :: byL E := by rw [← hK, e, byL_app, z4L]; rfl
       have hfe := by_full E E.length rfl
       rw [hKl] at c2 hs4 hbd
       have w8 : IntKind.i64.wrap (4 + (4 + (E.length : Int))) = 4 + (4 + (E.length : Int)) := wrap_i64 (by omega) (by omega)
       clear w4
       rw [hKb] at hs3
       have hbe : 4 + E.length ≤ 140737488355328 := by omega
       have hcomm : E.length + 4 = 4 + E.length := Nat.add_comm _ _
       clear e hbl hfu3 hK hKl hKb hR gv gm g1
       repeat' (first | apply WK.s | apply WK.b | apply WK.n | apply WK.k | refine WK.cT rfl ?_ | refine WK.cF rfl ?_ | (refine hQ.h _ _ ?_; clear hQ hA) | (refine WK.R Tryz.ntmps98 ?_; intro A hA Q hQ; simp [*]) | (refine WK.X Tryz.ntmps98 ?_; intro A hA Q hQ; simp [*]) | (refine hQ.h _ _ _ (by decide +kernel) ?_; clear hQ hA) | (refine RunQ.g rfl (by rw [hA.h]; rfl) ?_; simp [*]) | (refine RunQ.appendF 901 appByte rfl rfl rfl rfl rfl rfl rfl rfl ?_ ?_ ?_ ?_ ?_ ?_ ?_; (focus first | omega | simp [*]; done); (focus first | omega | simp [*]; done); (focus first | omega | simp [*]; done); (focus first | omega | simp [*]; done); (focus first | omega | simp [*]; done); (focus simp [*]; done); refine RunQ.evalH ?_; simp [*]) | (refine RunQ.callOz 903 85 1 rfl rfl rfl rfl rfl rfl rfl ?_ (c1) ?_ ?_ (by simp) (by decide) ?_; (focus simp (config := zd) [*]; done); (focus simp [*]; done); (focus simp [*]; done); refine RunQ.evalH ?_; simp [*]) | (refine RunQ.callOz 904 91 1 rfl rfl rfl rfl rfl rfl rfl ?_ (c2) ?_ ?_ (by simp) (by decide) ?_; (focus simp (config := zd) [*]; done); (focus simp [*]; done); (focus simp [*]; done); refine RunQ.evalH ?_; simp [*]) | (refine RunQ.appendFz 906 appByte rfl rfl rfl rfl rfl rfl rfl rfl rfl rfl ?_ ?_ ?_ ?_ ?_ ?_; (focus first | omega | simp [*]; done); (focus first | omega | simp [*]; done); (focus first | omega | simp [*]; done); (focus simp [*]; done); (focus simp [*]; done); refine RunQ.evalH ?_; simp [*]) | (refine RunQ.k rfl rfl rfl rfl rfl ?_ (p) ?_ ?_ <;> simp (config := zd) [*] <;> refine ⟨?_⟩) | (refine RunQW.k rfl rfl rfl rfl ?_ (hrc) ?_ ?_ <;> simp (config := zd) [*] <;> refine ⟨?_⟩) | (refine RunX.k rfl rfl rfl rfl ?_ (hof) ?_ ?_ <;> simp (config := zd) [*] <;> refine ⟨?_⟩))
       refine WK.N (fun n => if n = 1 then 906 else n) (IH (i + 1) (⟨by omega, hj2, hK2⟩) (by first | omega | (dsimp only; omega))) (by repeat (first | exact TmW.nil | refine TmW.upd ?_ (by simp (config := zd) [hs3, hs4]))) (by repeat (first | exact BxW.nil | refine BxW.upd ?_ (by simp (config := zd) [hs3, hs4])))
   · have e : inBody ⟨5, t, v, m, ac⟩ = List.replicate 4 0#8 := by unfold inBody; simp only; rw [if_neg (by decide), if_neg (by decide), if_neg (by decide)]
     have hKl : K.length = 4 := by rw [← hK, e]; rfl
     have hKb : byL K = [.int .u8 0, .int .u8 0, .int .u8 0, .int .u8 0] := by rw [← hK, e]; rfl
     rw [hKl] at c2 hs4 hbd
     rw [hKb] at hs3
     have w8 : IntKind.i64.wrap 8 = 8 := rfl
     clear e hbl hfu3 hK hKl hKb gv gm w4 g1 g6 p hEl
     repeat' (first | apply WK.s | apply WK.b | apply WK.n | apply WK.k | refine WK.cT rfl ?_ | refine WK.cF rfl ?_ | (refine hQ.h _ _ ?_; clear hQ hA) | (refine WK.R Tryz.ntmps98 ?_; intro A hA Q hQ; simp [*]) | (refine WK.X Tryz.ntmps98 ?_; intro A hA Q hQ; simp [*]) | (refine hQ.h _ _ _ (by decide +kernel) ?_; clear hQ hA) | (refine RunQ.g rfl (by rw [hA.h]; rfl) ?_; simp [*]) | (refine RunQ.callOz 903 85 1 rfl rfl rfl rfl rfl rfl rfl ?_ (c1) ?_ ?_ (by simp) (by decide) ?_; (focus simp (config := zd) [*]; done); (focus simp [*]; done); (focus simp [*]; done); refine RunQ.evalH ?_; simp [*]) | (refine RunQ.callOz 904 91 1 rfl rfl rfl rfl rfl rfl rfl ?_ (c2) ?_ ?_ (by simp) (by decide) ?_; (focus simp (config := zd) [*]; done); (focus simp [*]; done); (focus simp [*]; done); refine RunQ.evalH ?_; simp [*]) | (refine RunQ.append 906 appByte rfl rfl rfl rfl rfl rfl rfl rfl rfl ?_ ?_ ?_ ?_ ?_; (focus first | omega | simp [*]; done); (focus first | omega | simp [*]; done); (focus first | omega | simp [*]; done); (focus first | omega | simp [*]; done); refine RunQ.evalH ?_; simp [*]) | (refine RunQW.k rfl rfl rfl rfl ?_ (hrc) ?_ ?_ <;> simp (config := zd) [*] <;> refine ⟨?_⟩) | (refine RunX.k rfl rfl rfl rfl ?_ (hof) ?_ ?_ <;> simp (config := zd) [*] <;> refine ⟨?_⟩))
     refine WK.N (fun n => if n = 1 then 906 else n) (IH (i + 1) (⟨by omega, hj2, hK2⟩) (by first | omega | (dsimp only; omega))) (by repeat (first | exact TmW.nil | refine TmW.upd ?_ (by simp (config := zd) [hs3, hs4]))) (by repeat (first | exact BxW.nil | refine BxW.upd ?_ (by simp (config := zd) [hs3, hs4])))
 · have hT : l.take i = l := List.take_of_length_le (by omega)
   have hfit : inFit l = true := inFit_of (fun j hj => hi.2.1 j (by omega)) (by have := hi.2.2; rwa [hT] at this)
   have hdef : inEnc l = if (rwFlat inOne l).length ≤ 60000 then (rwFlat inOne l, 0) else ([], 1) := by
     unfold inEnc
     by_cases hh : (rwFlat inOne l).length ≤ 60000
     · rw [if_pos hh, if_pos ⟨hfit, hh⟩]
     · rw [if_neg hh, if_neg fun h => hh h.2]
   rw [hT] at hfl ⊢
   obtain ⟨F, hF⟩ : ∃ F, rwFlat inOne l = F := ⟨_, rfl⟩
   rw [hF] at hdef hfl ⊢
   by_cases h6 : F.length ≤ 60000
   · have j6 : ¬ (60000 : Int) < F.length := by omega
     rw [if_pos h6] at hdef
     rw [hdef]
     clear hF hdef hi hfit
     repeat' (first | apply WK.s | apply WK.k | refine WK.exit rfl ?_ | refine WK.cF rfl ?_ | (apply hQ.h; clear hQ hA) | (refine WK.R Tryz.ntmps98 ?_; intro A hA Q hQ; simp [*]) | (refine WK.retT2 Tryz.func98 ?_ ?_ ?_ <;> simp (config := zd) [Tryz.results98, *]))
   · have j6 : (60000 : Int) < F.length := by omega
     rw [if_neg h6] at hdef
     rw [hdef]
     clear hF hdef hi hfit
     repeat' (first | apply WK.s | refine WK.exit rfl ?_ | refine WK.cT rfl ?_ | refine WK.cF rfl ?_ | (apply hQ.h; clear hQ hA) | (refine WK.R Tryz.ntmps98 ?_; intro A hA Q hQ; simp [*]))
     refine WK.ghost (Ghost.own 2 907 1 rfl rfl) ?_
     refine WK.retT2 Tryz.func98 ?_ ?_ ?_ <;> simp (config := zd) [Tryz.results98, b0_]

theorem riencP_c (l : List Inst) (hl : l.length ≤ 100) (ha : ∀ x, x ∈ l → x.acts.length ≤ 1000000) : FnP Tryz.prog 98 [instS l] (.tup [byS (inEnc l).1, .int .i64 (inEnc l).2]) := by
 have h := (rienc_c l hl ha).toP (by simp [byL_take]) (by rfl)
 rwa [Nat.mul_one, by_full _ _ rfl] at h
end Go.Proofs.YtmhapglejjehbaaGreat

namespace Go.Proofs.YtmhapglejjehbaaGreat
open Go Go.AI Go.Proofs
structure Flt where
 is : Bool
 kind : Int
 code : Int
 deriving DecidableEq, Inhabited
def Flt.enc (f : Flt) : List AV := [.bool f.is, .int .i64 f.kind, .int .i64 f.code]
structure Msg where
 kind : Int
 xid : Int
 flow : FlowMod
 group : GroupMod
 fault : Flt
 data : List (BitVec 8)
 deriving DecidableEq, Inhabited
def Msg.enc (m : Msg) : List AV := .int .i64 m.kind :: .int .i64 m.xid :: (m.flow.enc ++ (m.group.enc ++ (m.fault.enc ++ [.sl false m.data.length (byL m.data)])))
def FlowMod.same (a b : FlowMod) : Bool := (fmNums a == fmNums b) && (a.cookie == b.cookie && (a.cookieMask == b.cookieMask && (eqBy (fun x y : Oxm => x == y) a.mat b.mat && eqBy Inst.same a.insts b.insts)))
def Msg.same (a b : Msg) : Bool := a.kind == b.kind && (a.xid == b.xid && (a.fault == b.fault && (a.data == b.data && (FlowMod.same a.flow b.flow && GroupMod.same a.group b.group))))
end Go.Proofs.YtmhapglejjehbaaGreat
