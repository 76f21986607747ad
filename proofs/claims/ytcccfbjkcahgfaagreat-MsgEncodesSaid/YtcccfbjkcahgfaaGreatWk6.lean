/- Parts of a match: from the bytes back to the part, and the other way round. -/
import Derived.Test.YtcccfbjkcahgfaaGreatWk5
import Derived.Test.YtcccfbjkcahgfaaGreatAf
import Derived.Test.YtcccfbjkcahgfaaGreatWk2
import Derived.Test.YtcccfbjkcahgfaaGreatDa
import Derived.Test.YtcccfbjkcahgfaaGreatAe
set_option linter.all false
set_option linter.unnecessarySimpa false
namespace Go.Proofs.YtcccfbjkcahgfaaGreat
open Go Go.AI Go.Proofs
theorem fIndex_all : ((List.range 24).all fun f => decide (fIndex (fID (f : Int)) = ((f : Int), true))) = true := by kernel_rfl
theorem fIndex_ID {f : Int} (h : fRight f = true) : fIndex (fID f) = (f, true) := by
 unfold fRight at h
 rw [Bool.and_eq_true, decide_eq_true_eq, decide_eq_true_eq] at h
 obtain ⟨n, rfl⟩ : ∃ n : Nat, f = n := ⟨f.toNat, by omega⟩
 have := List.all_eq_true.1 fIndex_all n (by simp; omega)
 simpa using this
theorem fIndex_back {id : Int} (h : (fIndex id).2 = true) : fID (fIndex id).1 = id ∧ fRight (fIndex id).1 = true := by
 unfold fIndex at h ⊢
 cases hf : fIndexN id 24 with
 | none => rw [hf] at h; cases h
 | some f =>
   unfold fIndexN at hf
   have h1 := List.find?_some hf
   have h2 := List.mem_of_find?_eq_some hf
   rw [List.mem_range] at h2
   simp only [beq_iff_eq] at h1
   refine ⟨?_, ?_⟩
   · show fID (f : Int) = id
     unfold fID; rw [fRow_nat f h2]; exact h1
   · unfold fRight; simp; omega
theorem putN_one {b : List (BitVec 8)} {n : Int} (h0 : 0 ≤ n) (h : n < 256) : putN b n 1 = b ++ [BitVec.ofInt 8 n] := by
 unfold putN
 rw [if_pos (by rw [numOk_iff]; omega)]
 congr 1
 show [BitVec.ofInt 8 (n / 2 ^ (8 * (1 - 1 - 0)))] = _
 rw [show 8 * (1 - 1 - 0) = 0 from rfl, Int.pow_zero, Int.ediv_one]
theorem fID_range {f : Int} (h : fRight f = true) : 0 ≤ fID f ∧ fID f ≤ 34 := by
 unfold fRight at h
 rw [Bool.and_eq_true, decide_eq_true_eq, decide_eq_true_eq] at h
 unfold fID fRow
 rw [if_pos ⟨h.1, h.2⟩]
 have hl : f.toNat < fRows.length := by show f.toNat < 24; omega
 have : ∀ r, r ∈ fRows → 0 ≤ r.1 ∧ r.1 ≤ 34 := by decide
 exact this _ (nth_mem hl)
theorem oHead_eq {o : Oxm} (h : fRight o.field = true) : oHead o = [128#8, 0#8, BitVec.ofInt 8 (oNum o), BitVec.ofInt 8 (oBody o).length] := by
 have hr := fID_range h
 have hn : 0 ≤ oNum o ∧ oNum o < 256 := by unfold oNum; split <;> omega
 have hb := oBody_len o
 have hs := fSize_le o.field
 have hb2 : (oBody o).length ≤ 32 := by rw [hb]; split <;> omega
 unfold oHead
 rw [putN_one (n := ((oBody o).length : Int)) (by omega) (by omega), putN_one hn.1 hn.2]
 rfl
theorem toNat_ofInt8 {n : Int} (h0 : 0 ≤ n) (h : n < 256) : (BitVec.ofInt 8 n).toNat = n.toNat := by
 rw [BitVec.toNat_ofInt]; omega
theorem ofInt8_nat (x : BitVec 8) : BitVec.ofInt 8 (x.toNat : Int) = x := by
 apply BitVec.eq_of_toNat_eq; have := x.isLt; rw [toNat_ofInt8 (by omega) (by omega)]; omega
theorem zero_wide {w : Wide} (h : w.zero = true) : w = wideZ := by
 rw [Wide.zero_iff] at h
 obtain ⟨a, b⟩ := w
 simp only at h
 rw [h.1, h.2]; rfl
structure ORight (o : Oxm) : Prop where
 field : fRight o.field = true
 masks : o.masked = true → fMasks o.field = true
 mask0 : o.masked = false → o.mask = wideZ
 form : Oxm.form o = 0
 value : Oxm.beyond o o.value = false
 mask : o.masked = true → Oxm.beyond o o.mask = false
theorem oRight_facts {o : Oxm} (h : Oxm.right o = true) : ORight o := by
 unfold Oxm.right at h
 rw [Bool.and_eq_true, Bool.not_eq_true', Bool.or_eq_false_iff, Bool.or_eq_false_iff, Bool.not_eq_false', beq_iff_eq] at h
 obtain ⟨⟨h1, h2, h3⟩, h4⟩ := h
 have hv : Oxm.beyond o o.value = false := by
   cases hb : Oxm.beyond o o.value
   · rfl
   · unfold Oxm.form at h4; rw [hb, if_pos rfl] at h4; cases h4
 refine ⟨h1, fun hm => ?_, fun hm => ?_, h4, hv, fun hm => ?_⟩
 · rw [hm] at h2; simpa using h2
 · rw [hm] at h3; exact zero_wide (by simpa using h3)
 · unfold Oxm.form at h4
   rw [hv, hm] at h4
   cases hb : Oxm.beyond o o.mask
   · rfl
   · rw [hb] at h4; simp at h4
theorem oRight_of {o : Oxm} (h1 : fRight o.field = true) (h2 : o.masked = true → fMasks o.field = true) (h3 : o.masked = false → o.mask = wideZ) (h4 : Oxm.form o = 0) : Oxm.right o = true := by
 unfold Oxm.right
 rw [h1, h4]
 cases hm : o.masked
 · rw [h3 hm]; rfl
 · rw [h2 hm]; rfl
theorem oNum_div (o : Oxm) (h : fRight o.field = true) : (oNum o).toNat / 2 = (fID o.field).toNat ∧ ((oNum o).toNat % 2 == 1) = o.masked ∧ 0 ≤ oNum o ∧ oNum o < 256 := by
 have hr := fID_range h
 unfold oNum
 cases o.masked
 · refine ⟨?_, ?_, ?_, ?_⟩
   · simp only [Bool.false_eq_true, if_false]; omega
   · simp only [Bool.false_eq_true, if_false]; rw [beq_eq_false_iff_ne]; omega
   · simp only [Bool.false_eq_true, if_false]; omega
   · simp only [Bool.false_eq_true, if_false]; omega
 · refine ⟨?_, ?_, ?_, ?_⟩
   · simp only [if_true]; omega
   · simp only [if_true]; rw [beq_iff_eq]; omega
   · simp only [if_true]; omega
   · simp only [if_true]; omega
theorem oEnc_back {o : Oxm} (h : Oxm.right o = true) (r : List (BitVec 8)) : oDec ((oEnc o).1 ++ r) = (o, ((oEnc o).1.length : Int), 0) := by
 have hf := oRight_facts h
 have hs := fSize_le o.field
 have hbl := oBody_len o
 have hb2 : (oBody o).length ≤ 32 := by rw [hbl]; split <;> omega
 have hh := oHead_eq hf.field
 obtain ⟨n1, n2, n3, n4⟩ := oNum_div o hf.field
 have hid := fID_range hf.field
 have e : (oEnc o).1 ++ r = 128#8 :: 0#8 :: BitVec.ofInt 8 (oNum o) :: BitVec.ofInt 8 (oBody o).length :: (oBody o ++ r) := by
   unfold oEnc; rw [if_pos h, hh]; simp
 have hel : (oEnc o).1.length = 4 + (oBody o).length := by unfold oEnc; rw [if_pos h, hh]; simp; omega
 obtain ⟨B, hB⟩ : ∃ B, (oEnc o).1 ++ r = B := ⟨_, rfl⟩
 have hBl : B.length = 4 + (oBody o).length + r.length := by rw [← hB, List.length_append, hel]
 rw [hB] at e ⊢
 rw [hel]
 have b0 : bAt B 0 = 128 := by rw [e]; rfl
 have b1 : bAt B 1 = 0 := by rw [e]; rfl
 have b2 : bAt B 2 = (oNum o).toNat := by
   rw [e]; show (BitVec.ofInt 8 (oNum o)).toNat = _; exact toNat_ofInt8 n3 n4
 have b3 : bAt B 3 = (oBody o).length := by
   rw [e]; show (BitVec.ofInt 8 ((oBody o).length : Int)).toNat = _; rw [toNat_ofInt8 (by omega) (by omega)]; omega
 have d4 : B.drop 4 = oBody o ++ r := by rw [e]; rfl
 clear e hB
 have hF : hField B = (o.field, true) := by
   unfold hField; rw [b2, n1, show (((fID o.field).toNat : Nat) : Int) = fID o.field by omega]; exact fIndex_ID hf.field
 have hM : hMasked B = o.masked := by unfold hMasked; rw [b2]; exact n2
 have hW : hWant B = (oBody o).length := by
   unfold hWant; rw [hM, hF, hbl]; split
   · simp only; omega
   · rfl
 have hC : hCode B = 0 := by
   unfold hCode
   rw [if_neg (by omega), if_neg (by omega), b0, b1, hF, hM, b3, hW]
   have hm : (o.masked && !fMasks o.field) = false := by
     cases hm : o.masked
     · rfl
     · rw [hf.masks hm]; rfl
   simp [hm]
 have hR : oRead B = o := by
   have hv := within_size hf.value
   unfold oRead
   rw [hF, hM, d4]
   simp only
   have hdd : B.drop (4 + fSize o.field) = (oBody o ++ r).drop (fSize o.field) := by rw [← d4, List.drop_drop]
   rw [hdd]
   cases hm : o.masked
   · have hz := hf.mask0 hm
     have hob : oBody o = beN (wN o.value) (fSize o.field) := by unfold oBody; rw [hm]; exact (wPut_beN _ _ _ hs).trans (List.nil_append _)
     rw [hob, wGet_beN _ _ _ hs hv]
     obtain ⟨a1, a2, a3, a4⟩ := o
     simp only at hm hz ⊢
     rw [hm, hz]; rfl
   · have hmk := within_size (hf.mask hm)
     have hob : oBody o = beN (wN o.value) (fSize o.field) ++ beN (wN o.mask) (fSize o.field) := by
       unfold oBody; rw [hm, if_pos rfl, wPut_beN _ _ _ hs, wPut_beN _ _ _ hs, List.nil_append]
     rw [hob, List.append_assoc, wGet_beN _ _ _ hs hv, if_pos rfl, List.drop_append_of_le_length (by rw [beN_len]; omega), List.drop_of_length_le (by rw [beN_len]; omega), List.nil_append, wGet_beN _ _ _ hs hmk]
     obtain ⟨a1, a2, a3, a4⟩ := o
     simp only at hm ⊢
     rw [hm]
 unfold oDec
 rw [if_pos hC, hR, if_pos hf.form, b3]
 congr 1
theorem oDec_back {b : List (BitVec 8)} {o : Oxm} {n : Int} (h : oDec b = (o, n, 0)) : Oxm.right o = true ∧ ∃ k : Nat, n = (k : Int) ∧ 4 ≤ k ∧ k ≤ b.length ∧ oEnc o = (b.take k, 0) := by
 unfold oDec at h
 split at h
 case isFalse hc => simp only [Prod.mk.injEq] at h; exact absurd h.2.2 hc
 rename_i hc
 split at h
 case isFalse hfm => simp only [Prod.mk.injEq] at h; exact absurd h.2.2 hfm
 rename_i hfm
 simp only [Prod.mk.injEq, and_true] at h
 obtain ⟨rfl, rfl⟩ := h
 have l2 := bAt_lt b 2
 have l3 := bAt_lt b 3
 unfold hCode at hc
 split at hc
 · cases hc
 rename_i c1
 split at hc
 · cases hc
 rename_i c2
 split at hc
 · cases hc
 rename_i c3
 split at hc
 · cases hc
 rename_i c4
 split at hc
 · cases hc
 rename_i c5
 simp only [Bool.or_eq_true, bne_iff_ne, ne_eq, Bool.not_eq_true', not_or, Decidable.not_not, Bool.not_eq_false, Bool.and_eq_true, not_and] at c3 c4 c5
 obtain ⟨b0, b1, hF2⟩ := c3
 have hfb := fIndex_back (id := ((bAt b 2 / 2 : Nat) : Int)) hF2
 have hff : (oRead b).field = (hField b).1 := rfl
 have hfm2 : (oRead b).masked = hMasked b := rfl
 have hr : Oxm.right (oRead b) = true := oRight_of hfb.2 (fun hm => c4 hm) (fun hm => by
   have hm' : hMasked b = false := hm
   unfold oRead; simp only [hm']; rfl) hfm
 refine ⟨hr, 4 + bAt b 3, by omega, by omega, by omega, ?_⟩
 have hs := fSize_le (hField b).1
 have hbl := oBody_len (oRead b)
 have hlen : (oBody (oRead b)).length = bAt b 3 := by
   rw [hbl, hff, hfm2, c5]; unfold hWant; split
   · omega
   · rfl
 have hnum : oNum (oRead b) = (bAt b 2 : Int) := by
   have e1 : fID (hField b).1 = ((bAt b 2 / 2 : Nat) : Int) := hfb.1
   unfold oNum; rw [hff, hfm2, e1]
   unfold hMasked
   split
   · rename_i hm; rw [beq_iff_eq] at hm; omega
   · rename_i hm; rw [beq_iff_eq] at hm; omega
 have hbody : oBody (oRead b) = (b.drop 4).take (bAt b 3) := by
   have hdl : (b.drop 4).length = b.length - 4 := List.length_drop
   unfold oBody
   rw [hff, hfm2]
   cases hm : hMasked b
   · have hw : bAt b 3 = fSize (hField b).1 := by rw [c5]; unfold hWant; rw [hm]; rfl
     show wPut [] (wGet (b.drop 4) (fSize (hField b).1)).1 (fSize (hField b).1) = _
     rw [wPut_wGet _ _ _ hs (by rw [hdl]; omega), List.nil_append, hw]
   · have hw : bAt b 3 = fSize (hField b).1 * 2 := by rw [c5]; unfold hWant; rw [hm]; rfl
     have ev : (oRead b).value = (wGet (b.drop 4) (fSize (hField b).1)).1 := rfl
     have em : (oRead b).mask = (wGet (b.drop (4 + fSize (hField b).1)) (fSize (hField b).1)).1 := by unfold oRead; rw [hm]; rfl
     rw [if_pos rfl, ev, em, wPut_wGet _ _ _ hs (by rw [List.length_drop]; omega), wPut_wGet _ _ _ hs (by rw [List.length_drop]; omega), List.nil_append, hw, ← List.drop_drop,
       show fSize (hField b).1 * 2 = fSize (hField b).1 + fSize (hField b).1 by omega, List.take_add]
 have hb4 : b.take 4 = [128#8, 0#8, nth b 2, nth b 3] := by
   match b, c1, b0, b1 with
   | x0 :: x1 :: x2 :: x3 :: r, _, b0, b1 =>
     have e0 : x0 = 128#8 := BitVec.eq_of_toNat_eq b0
     have e1 : x1 = 0#8 := BitVec.eq_of_toNat_eq b1
     rw [e0, e1]; rfl
   | [], c1, _, _ => simp at c1
   | [_], c1, _, _ => simp at c1
   | [_, _], c1, _, _ => simp at c1
   | [_, _, _], c1, _, _ => simp at c1
 unfold oEnc
 rw [if_pos hr, oHead_eq hfb.2, hnum, hlen, hbody, List.take_add, hb4]
 have e2 : BitVec.ofInt 8 (bAt b 2 : Int) = nth b 2 := ofInt8_nat _
 have e3 : BitVec.ofInt 8 (bAt b 3 : Int) = nth b 3 := ofInt8_nat _
 rw [e2, e3]

theorem allZ_iff (l : List (BitVec 8)) : allZ l = true ↔ l = List.replicate l.length 0#8 := by
 unfold allZ
 rw [List.all_eq_true, List.eq_replicate_iff]
 simp
theorem allZ_rep (n : Nat) : allZ (List.replicate n 0#8) = true := by rw [allZ_iff]; simp
theorem putN_beN {b : List (BitVec 8)} {n : Int} {s : Nat} (h : numOk n s = true) : putN b n s = b ++ beN n s := by unfold putN; rw [h, if_pos rfl]
theorem getN_at {E x z : List (BitVec 8)} {v : Int} {p s : Nat} (h : E = x ++ (beN v s ++ z)) (hx : x.length = p) (hv : numOk v s = true) : getN E p s = (v, 0) := by
 rw [numOk_iff] at hv
 unfold getN
 rw [h, if_pos (by simp [beN_len, hx]), List.drop_append_of_le_length (by omega), List.drop_of_length_le (by omega), List.nil_append, List.take_append_of_le_length (by rw [beN_len]; omega),
   List.take_of_length_le (by rw [beN_len]; omega), valN_beN s v hv.1 hv.2]
theorem getN_val {b : List (BitVec 8)} {p s : Nat} (h : p + s ≤ b.length) : getN b p s = ((valN ((b.drop p).take s) : Int), 0) := by unfold getN; rw [if_pos h]
theorem aLen_mod (n : Nat) : aLen n % 8 = 0 := by unfold aLen; split <;> omega
theorem numOk2 {n : Nat} (h : n < 65536) : numOk (n : Int) 2 = true := by rw [numOk_iff]; exact ⟨by omega, by show (n : Int) < 65536; omega⟩
theorem aHead {k n : Nat} {p r : List (BitVec 8)} (hk : k < 65536) (hn : n < 65536) (hp : 4 + p.length = n) (h8 : 8 ≤ n) :
   putN (putN [] (k : Int) 2) (n : Int) 2 = beN k 2 ++ beN n 2 ∧ aK (putN (putN [] (k : Int) 2) (n : Int) 2 ++ p ++ r) = k ∧ aN (putN (putN [] (k : Int) 2) (n : Int) 2 ++ p ++ r) = n ∧
   (putN (putN [] (k : Int) 2) (n : Int) 2 ++ p ++ r).take n = putN (putN [] (k : Int) 2) (n : Int) 2 ++ p := by
 have e : putN (putN [] (k : Int) 2) (n : Int) 2 = beN k 2 ++ beN n 2 := by rw [putN_beN (numOk2 hk), putN_beN (numOk2 hn), List.nil_append]
 have hl : (beN (k : Int) 2 ++ beN (n : Int) 2).length = 4 := by simp [beN_len]
 have hb : 8 ≤ (beN (k : Int) 2 ++ beN (n : Int) 2 ++ p ++ r).length := by rw [List.length_append, List.length_append, hl]; omega
 refine ⟨e, ?_, ?_, ?_⟩
 · rw [e]
   have h1 := aK_get _ hb
   have h0 := getN_at (E := beN (k : Int) 2 ++ beN (n : Int) 2 ++ p ++ r) (x := []) (v := (k : Int)) (p := 0) (s := 2) (z := beN (n : Int) 2 ++ (p ++ r)) (by simp) rfl (numOk2 hk)
   rw [h0] at h1
   simp only [Prod.mk.injEq, and_true] at h1; omega
 · rw [e]
   have h1 := aN_get _ hb
   have h0 := getN_at (E := beN (k : Int) 2 ++ beN (n : Int) 2 ++ p ++ r) (x := beN (k : Int) 2) (v := (n : Int)) (p := 2) (s := 2) (z := p ++ r) (by simp) (beN_len _ _) (numOk2 hn)
   rw [h0] at h1
   simp only [Prod.mk.injEq, and_true] at h1; omega
 · rw [e, List.take_append_of_le_length (by rw [List.length_append, hl]; omega), List.take_of_length_le (by rw [List.length_append, hl]; omega)]
theorem right_bare {a : Action} (h : Action.right a = true) : a = Action.bare a := by
 unfold Action.right at h
 rw [Bool.and_eq_true, beq_iff_eq] at h; exact h.2
theorem right_fine {a : Action} (h : Action.right a = true) : Action.fine a = true := by
 unfold Action.right at h
 rw [Bool.and_eq_true] at h; exact h.1
set_option maxHeartbeats 1000000 in
theorem aEnc_back {a : Action} (h : Action.right a = true) (r : List (BitVec 8)) : aDec ((aEnc a).1 ++ r) = (a, ((aEnc a).1.length : Int), none) := by
 have hcs := right_cases h
 have hk : ∃ k : Nat, a.kind = (k : Int) ∧ k < 65536 := by
   rcases hcs with h | h | h | h | h <;> first | exact ⟨a.kind.toNat, by omega, by omega⟩
 obtain ⟨k, hk, hk2⟩ := hk
 have hbl := aBody_len a
 have hn2 := aLen_le _ hbl
 have hpl := aPad_len a
 have hge := aLen_ge (aBody a).length
 have hmod := aLen_mod (aBody a).length
 have e : (aEnc a).1 = putN (putN [] (k : Int) 2) (aLen (aBody a).length : Nat) 2 ++ aPad a := by unfold aEnc; rw [if_pos h, hk]
 obtain ⟨n, hn⟩ : ∃ n, aLen (aBody a).length = n := ⟨_, rfl⟩
 rw [hn] at e hn2 hpl hge hmod
 obtain ⟨hh, h1, h2, h3⟩ := aHead (k := k) (n := n) (p := aPad a) (r := r) hk2 (by omega) hpl (by omega)
 rw [← e] at h1 h2 h3
 have hEl : (aEnc a).1.length = n := by rw [e, hh]; simp [beN_len]; omega
 have hE : (aEnc a).1 = beN k 2 ++ beN n 2 ++ aPad a := by rw [e, hh]
 have hpad : aPad a = aBody a ++ List.replicate (n - 4 - (aBody a).length) 0#8 := by unfold aPad; rw [hn]
 obtain ⟨E, hEE⟩ : ∃ E, (aEnc a).1 = E := ⟨_, rfl⟩
 rw [hEE] at h1 h2 h3 hEl hE ⊢
 have hd4 : E.drop 4 = aPad a := by rw [hE, List.drop_append_of_le_length (by simp [beN_len]), List.drop_of_length_le (by simp [beN_len]), List.nil_append]
 have hdb : E.drop (4 + (aBody a).length) = List.replicate (n - 4 - (aBody a).length) 0#8 := by
   rw [← List.drop_drop, hd4, hpad, List.drop_append_of_le_length (Nat.le_refl _), List.drop_of_length_le (Nat.le_refl _), List.nil_append]
 rw [aDec, if_neg (by rw [List.length_append]; omega), h2, if_neg (by rw [List.length_append]; omega), h1, h3, hEl]
 have hgo := right_fine h
 have hba := right_bare h
 clear e hEE h1 h2 h3 hh
 obtain ⟨kind, port, max, group, ether, oxm⟩ := a
 simp only at hk hcs
 subst hk
 rcases hcs with ⟨hk, p1, p2⟩ | ⟨hk, p1⟩ | ⟨hk, p1⟩ | hk | ⟨hk, p1⟩
 · have : k = 0 := by omega
   subst this
   have eb : aBody ⟨((0 : Nat) : Int), port, max, group, ether, oxm⟩ = beN port 4 ++ beN max 2 := by
     show putN (putN [] port 4) max 2 = _
     rw [putN_beN p1, putN_beN p2, List.nil_append]
   rw [eb] at hpad hdb hn
   have hl6 : (beN port 4 ++ beN max 2).length = 6 := by simp [beN_len]
   rw [hl6] at hpad hdb hn
   have h16 : n = 16 := by rw [← hn]; rfl
   subst h16
   have g1 : getN E 4 4 = (port, 0) := getN_at (x := beN ((0 : Nat) : Int) 2 ++ beN ((16 : Nat) : Int) 2) (z := beN max 2 ++ List.replicate 6 0#8) (by rw [hE, hpad]; try simp) (by simp [beN_len]) p1
   have g2 : getN E 8 2 = (max, 0) := getN_at (x := beN ((0 : Nat) : Int) 2 ++ beN ((16 : Nat) : Int) 2 ++ beN port 4) (z := List.replicate 6 0#8) (by rw [hE, hpad]; try simp) (by simp [beN_len]) p2
   have hof : aOf ((0 : Nat) : Int) E = ⟨0, port, max, 0, 0, oxm0⟩ := by unfold aOf; rw [if_pos (by decide), g1, g2]
   have hge : aGoes port = true := by
     have : (aGoes port && aMost ⟨((0 : Nat) : Int), port, max, group, ether, oxm⟩) = true := hgo
     rw [Bool.and_eq_true] at this; exact this.1
   have hb' : (⟨((0 : Nat) : Int), port, max, group, ether, oxm⟩ : Action) = ⟨0, port, max, 0, 0, oxm0⟩ := hba
   rw [if_neg (by decide), if_neg (by decide), if_neg (by show ¬ ¬ 16 = 16; decide)]
   rw [if_pos (by show allZ (E.drop 10) = true; rw [hdb]; exact allZ_rep _)]
   unfold aPlain
   rw [if_neg (by rw [g1]; simp [hge]), hof, ← hb', if_pos h, hEl]
 · have : k = 22 := by omega
   subst this
   have eb : aBody ⟨((22 : Nat) : Int), port, max, group, ether, oxm⟩ = beN group 4 := by
     show putN [] group 4 = _
     rw [putN_beN p1, List.nil_append]
   rw [eb] at hpad hdb hn
   rw [beN_len] at hpad hdb hn
   have h16 : n = 8 := by rw [← hn]; rfl
   subst h16
   have g1 : getN E 4 4 = (group, 0) := getN_at (x := beN ((22 : Nat) : Int) 2 ++ beN ((8 : Nat) : Int) 2) (z := []) (by rw [hE, hpad]; try simp) (by simp [beN_len]) p1
   have hof : aOf ((22 : Nat) : Int) E = ⟨22, 0, 0, group, 0, oxm0⟩ := by unfold aOf; rw [if_neg (by decide), if_pos (by decide), g1]
   have hb' : (⟨((22 : Nat) : Int), port, max, group, ether, oxm⟩ : Action) = ⟨22, 0, 0, group, 0, oxm0⟩ := hba
   rw [if_neg (by decide), if_neg (by decide), if_neg (by show ¬ ¬ 8 = 8; decide)]
   rw [if_pos (by show allZ (E.drop 8) = true; rw [hdb]; exact allZ_rep _)]
   unfold aPlain
   rw [if_neg (by simp), hof, ← hb', if_pos h, hEl]
 · have : k = 17 := by omega
   subst this
   have eb : aBody ⟨((17 : Nat) : Int), port, max, group, ether, oxm⟩ = beN ether 2 := by
     show putN [] ether 2 = _
     rw [putN_beN p1, List.nil_append]
   rw [eb] at hpad hdb hn
   rw [beN_len] at hpad hdb hn
   have h16 : n = 8 := by rw [← hn]; rfl
   subst h16
   have g1 : getN E 4 2 = (ether, 0) := getN_at (x := beN ((17 : Nat) : Int) 2 ++ beN ((8 : Nat) : Int) 2) (z := List.replicate 2 0#8) (by rw [hE, hpad]; try simp) (by simp [beN_len]) p1
   have hof : aOf ((17 : Nat) : Int) E = ⟨17, 0, 0, 0, ether, oxm0⟩ := by unfold aOf; rw [if_neg (by decide), if_neg (by decide), if_pos (by decide), g1]
   have hb' : (⟨((17 : Nat) : Int), port, max, group, ether, oxm⟩ : Action) = ⟨17, 0, 0, 0, ether, oxm0⟩ := hba
   rw [if_neg (by decide), if_neg (by decide), if_neg (by show ¬ ¬ 8 = 8; decide)]
   rw [if_pos (by show allZ (E.drop 6) = true; rw [hdb]; exact allZ_rep _)]
   unfold aPlain
   rw [if_neg (by simp), hof, ← hb', if_pos h, hEl]
 · have : k = 18 := by omega
   subst this
   have eb : aBody ⟨((18 : Nat) : Int), port, max, group, ether, oxm⟩ = [] := rfl
   rw [eb] at hpad hdb hn
   have h16 : n = 8 := by rw [← hn]; rfl
   subst h16
   have hof : aOf ((18 : Nat) : Int) E = ⟨18, 0, 0, 0, 0, oxm0⟩ := by unfold aOf; rw [if_neg (by decide), if_neg (by decide), if_neg (by decide)]; rfl
   have hb' : (⟨((18 : Nat) : Int), port, max, group, ether, oxm⟩ : Action) = ⟨18, 0, 0, 0, 0, oxm0⟩ := hba
   rw [if_neg (by decide), if_neg (by decide), if_neg (by show ¬ ¬ 8 = 8; decide)]
   rw [if_pos (by show allZ (E.drop 4) = true; exact (congrArg allZ hdb).trans (allZ_rep _))]
   unfold aPlain
   rw [if_neg (by simp), hof, ← hb', if_pos h, hEl]
 · have : k = 25 := by omega
   subst this
   have eb : aBody ⟨((25 : Nat) : Int), port, max, group, ether, oxm⟩ = (oEnc oxm).1 := rfl
   rw [eb] at hpad hdb hn
   have hob := oEnc_back p1 (List.replicate (n - 4 - (oEnc oxm).1.length) 0#8)
   have ho5 := oEnc_ge p1
   rw [← hpad, ← hd4] at hob
   have hol : oLen (E.drop 4) = (oEnc oxm).1.length := by unfold oLen; rw [hob]; simp
   have hf : (Oxm.right oxm && (!oxm.masked && aSets oxm.field)) = true := hgo
   rw [Bool.and_eq_true, Bool.and_eq_true, Bool.not_eq_true'] at hf
   have hb' : (⟨((25 : Nat) : Int), port, max, group, ether, oxm⟩ : Action) = ⟨25, 0, 0, 0, 0, oxm⟩ := hba
   have hnn : n = (4 + (oEnc oxm).1.length + 7) / 8 * 8 := by rw [← hn]; unfold aLen; split <;> omega
   rw [if_pos rfl]
   unfold aSetD
   rw [hob, hol, hEl, hdb]
   rw [if_neg (by simp), if_neg (by simp), if_pos rfl, if_pos hnn, if_pos (allZ_rep _), if_pos hf.2.2, if_neg (by simp [hf.2.1]), hb']
theorem putN_two {b : List (BitVec 8)} {k n : Nat} (h8 : 4 ≤ b.length) (hk : valN ((b.drop 0).take 2) = k) (hn : valN ((b.drop 2).take 2) = n) : putN (putN [] (k : Int) 2) (n : Int) 2 = b.take 4 := by
 rw [← hk, ← hn, putN_valN (by simp; omega), putN_valN (by simp; omega), List.drop_zero, List.nil_append, show (4 : Nat) = 2 + 2 from rfl, List.take_add]
set_option maxHeartbeats 1000000 in
theorem aDec_back {b : List (BitVec 8)} {y : Action} {n : Int} (h : aDec b = (y, n, none)) : Action.right y = true ∧ ∃ k : Nat, n = (k : Int) ∧ 8 ≤ k ∧ k ≤ b.length ∧ k % 8 = 0 ∧ aEnc y = (b.take k, 0) := by
 rw [aDec] at h
 split at h
 · cases h
 rename_i h8
 split at h
 · cases h
 rename_i c1
 have hNb : aN b ≤ b.length := by omega
 have hNl : (b.take (aN b)).length = aN b := by rw [List.length_take]; omega
 have hN4 : valN (((b.take (aN b)).drop 2).take 2) = aN b := by
   unfold aN at c1 ⊢
   rw [List.drop_take, List.take_take, Nat.min_eq_left (by omega)]
 have hK4 : valN (((b.take (aN b)).drop 0).take 2) = aK b := by
   rw [List.drop_take, List.take_take, Nat.min_eq_left (by omega)]; rfl
 have hlt := aN_lt b (by omega)
 obtain ⟨B, hB⟩ : ∃ B, b.take (aN b) = B := ⟨_, rfl⟩
 obtain ⟨N, hN⟩ : ∃ N, aN b = N := ⟨_, rfl⟩
 obtain ⟨K, hK⟩ : ∃ K, aK b = K := ⟨_, rfl⟩
 rw [hB] at h hNl hN4 hK4
 rw [hN] at h hNl hN4 c1 hNb hlt
 rw [hK] at h hK4
 have hBb : B = b.take N := by rw [← hB, hN]
 have hhead := putN_two (b := B) (k := K) (n := N) (by omega) hK4 hN4
 have fin : ∀ (y : Action), Action.right y = true → y.kind = (K : Int) → (aBody y) ++ List.replicate (N - 4 - (aBody y).length) 0#8 = B.drop 4 → aLen (aBody y).length = N → aEnc y = (b.take N, 0) := by
   intro y hr hk hp hl
   unfold aEnc
   rw [if_pos hr, hk, hl, hhead]
   unfold aPad
   rw [hl, hp, List.take_append_drop, hBb]
 split at h
 · rename_i k25
   subst k25
   unfold aSetD at h
   split at h
   · cases h
   split at h
   · cases h
   split at h
   case isFalse => cases h
   rename_i o1 o6 o0
   split at h
   case isFalse => cases h
   rename_i hl
   split at h
   case isFalse => cases h
   rename_i hz
   split at h
   case isFalse => cases h
   rename_i hs
   split at h
   · cases h
   rename_i hm
   simp only [Prod.mk.injEq, and_true] at h
   obtain ⟨rfl, rfl⟩ := h
   obtain ⟨⟨oo, on, oc⟩, hD⟩ : ∃ D, oDec (B.drop 4) = D := ⟨_, rfl⟩
   rw [hD] at o0 hs hm ⊢
   simp only at o0 hs hm ⊢
   subst o0
   obtain ⟨hor, x, hx, hx4, hxl, hoe⟩ := oDec_back hD
   have hol : oLen (B.drop 4) = x := by unfold oLen; rw [hD]; simp only; omega
   rw [hol] at hl hz
   rw [List.length_drop] at hxl
   have hrr : Action.right ⟨25, 0, 0, 0, 0, oo⟩ = true := by
     have hm' : oo.masked = false := by simpa using hm
     unfold Action.right Action.fine Action.bare
     simp [hor, hm', hs]
   refine ⟨hrr, B.length, rfl, by omega, by omega, by omega, ?_⟩
   rw [hNl]
   have eb : aBody ⟨25, 0, 0, 0, 0, oo⟩ = (B.drop 4).take x := by show (oEnc oo).1 = _; rw [hoe]
   have ebl : (aBody ⟨25, 0, 0, 0, 0, oo⟩).length = x := by rw [eb, List.length_take, List.length_drop]; omega
   refine fin _ hrr rfl ?_ ?_
   · rw [ebl, eb]
     rw [allZ_iff, List.length_drop, hNl] at hz
     rw [show N - 4 - x = N - (4 + x) by omega, ← hz, ← List.drop_drop, List.take_append_drop]
   · rw [ebl]; unfold aLen; split <;> omega
 rename_i k25
 split at h
 · cases h
 rename_i w0
 split at h
 · cases h
 rename_i w1
 split at h
 case isFalse => cases h
 rename_i hz
 unfold aPlain at h
 split at h
 · cases h
 split at h
 case isFalse => cases h
 rename_i hr
 simp only [Prod.mk.injEq, and_true] at h
 obtain ⟨rfl, rfl⟩ := h
 refine ⟨hr, B.length, rfl, by omega, by omega, by omega, ?_⟩
 rw [hNl]
 have hw : N = (aLength (K : Int)).1 := by omega
 have hkk : K = 0 ∨ K = 22 ∨ K = 17 ∨ K = 18 := by
   unfold aLength at w0
   split at w0
   · omega
   split at w0
   · omega
   split at w0
   · omega
   split at w0
   · omega
   · exact absurd rfl w0
 rw [allZ_iff, List.length_drop, hNl] at hz
 rcases hkk with rfl | rfl | rfl | rfl
 · have hN16 : N = 16 := hw
   subst hN16
   have e1 : getN B 4 4 = ((valN ((B.drop 4).take 4) : Int), 0) := getN_val (by omega)
   have e2 : getN B 8 2 = ((valN ((B.drop 8).take 2) : Int), 0) := getN_val (by omega)
   have eb : aBody (aOf ((0 : Nat) : Int) B) = (B.drop 4).take 4 ++ (B.drop 8).take 2 := by
     show putN (putN [] (getN B 4 4).1 4) (getN B 8 2).1 2 = _
     rw [e1, e2, putN_valN (by simp; omega), putN_valN (by simp; omega), List.nil_append]
   have ebl : (aBody (aOf ((0 : Nat) : Int) B)).length = 6 := by rw [eb]; simp; omega
   refine fin _ hr rfl ?_ (by rw [ebl]; rfl)
   have hz' : B.drop 10 = List.replicate 6 0#8 := hz
   have h8 : B.drop 8 = (B.drop 4).drop 4 := by rw [List.drop_drop]
   have h10 : B.drop 10 = ((B.drop 4).drop 4).drop 2 := by rw [List.drop_drop, List.drop_drop]
   rw [ebl, eb]
   show _ ++ List.replicate 6 0#8 = _
   rw [← hz', h10, h8, List.append_assoc, List.take_append_drop, List.take_append_drop]
 · have hN16 : N = 8 := hw
   subst hN16
   have e1 : getN B 4 4 = ((valN ((B.drop 4).take 4) : Int), 0) := getN_val (by omega)
   have eb : aBody (aOf ((22 : Nat) : Int) B) = (B.drop 4).take 4 := by
     show putN [] (getN B 4 4).1 4 = _
     rw [e1, putN_valN (by simp; omega), List.nil_append]
   have ebl : (aBody (aOf ((22 : Nat) : Int) B)).length = 4 := by rw [eb]; simp; omega
   refine fin _ hr rfl ?_ (by rw [ebl]; rfl)
   rw [ebl, eb]
   show _ ++ [] = _
   rw [List.append_nil, List.take_of_length_le (by simp; omega)]
 · have hN16 : N = 8 := hw
   subst hN16
   have e1 : getN B 4 2 = ((valN ((B.drop 4).take 2) : Int), 0) := getN_val (by omega)
   have eb : aBody (aOf ((17 : Nat) : Int) B) = (B.drop 4).take 2 := by
     show putN [] (getN B 4 2).1 2 = _
     rw [e1, putN_valN (by simp; omega), List.nil_append]
   have ebl : (aBody (aOf ((17 : Nat) : Int) B)).length = 2 := by rw [eb]; simp; omega
   refine fin _ hr rfl ?_ (by rw [ebl]; rfl)
   have hz' : B.drop 6 = List.replicate 2 0#8 := hz
   have h10 : B.drop 6 = (B.drop 4).drop 2 := by rw [List.drop_drop]
   rw [ebl, eb]
   show _ ++ List.replicate 2 0#8 = _
   rw [← hz', h10, List.take_append_drop]
 · have hN16 : N = 8 := hw
   subst hN16
   have eb : aBody (aOf ((18 : Nat) : Int) B) = [] := rfl
   refine fin _ hr rfl ?_ (by rw [eb]; rfl)
   have hz' : B.drop 4 = List.replicate 4 0#8 := hz
   rw [eb, hz']; rfl
end Go.Proofs.YtcccfbjkcahgfaaGreat

namespace Go.Proofs.YtcccfbjkcahgfaaGreat
open Go Go.AI Go.Proofs
attribute [local irreducible] FnP FnO FnB FnT FnSeq WK RunQ RunQW RunX RunXW
theorem clone_by (l : List (BitVec 8)) (hl : l.length ≤ 1000000) : FnO Tryz.prog 47 [byS l] l.length 1 (byL l) := by
 have hf := by_full l l.length rfl
 unfold byS
 cases l with
 | nil =>
   refine FnO.intro Tryz.func47 rfl rfl fun G w => ?_
   repeat' (first | apply WK.seq | apply WK.block | apply WK.inBlock | apply WK.skip | apply WK.label | apply WK.scope | apply WK.inScope | refine WK.exit rfl ?_ | refine WK.cT rfl ?_ | refine WK.cF rfl ?_ | (refine hQ.h _ _ ?_; clear hQ hA) | refine WK.condAny rfl ?_ ?_ | (refine WK.c2 rfl (fun h => ?_) (fun h => ?_) <;> (first | (simp [*] at h; done) | (have h2 := h; simp at h2; exfalso; omega) | (have h2 := h; simp at h2; try simp only [Bool.not_eq_true', Bool.not_eq_false'] at h) | skip)) | (refine WK.rH Tryz.ntmps47 (by kernel_rfl) ?_; intro A hA Q hQ; simp [*]))
   · repeat (first | apply WK.seq | apply WK.block | apply WK.inBlock | apply WK.skip | apply WK.label | apply WK.scope | apply WK.inScope | refine WK.exit rfl ?_)
     refine WK.ghost (Ghost.own 2 900 1 rfl rfl) ?_
     repeat (first | apply WK.seq | apply WK.block | apply WK.inBlock | apply WK.skip | apply WK.label | apply WK.scope | apply WK.inScope | refine WK.exit rfl ?_)
     refine WK.retO Tryz.func47 (by rfl) (by rfl) (by simp (maxDischargeDepth := 120) [b0_]) (by simp [b0_])
   · repeat' (first | apply WK.seq | apply WK.block | apply WK.inBlock | apply WK.skip | apply WK.label | apply WK.scope | apply WK.inScope | refine WK.exit rfl ?_ | refine WK.cT rfl ?_ | refine WK.cF rfl ?_ | (refine hQ.h _ _ ?_; clear hQ hA) | refine WK.condAny rfl ?_ ?_ | (refine WK.c2 rfl (fun h => ?_) (fun h => ?_) <;> (first | (simp [*] at h; done) | (have h2 := h; simp at h2; exfalso; omega) | (have h2 := h; simp at h2; try simp only [Bool.not_eq_true', Bool.not_eq_false'] at h) | skip)) | (refine WK.rH Tryz.ntmps47 (by kernel_rfl) ?_; intro A hA Q hQ; simp [*]) | (refine RunQ.append0 900 901 appByte rfl rfl rfl rfl rfl rfl rfl ?_ rfl ?_ ?_ ?_ ?_ ?_ ?_; (focus (simp [*]; done)); (focus (first | omega | (simp [*]; done); done)); (focus (first | omega | (simp [*]; done); done)); (focus (simp [*]; done)); (focus (simp [*]; done)); (focus (simp [*]; done)); refine RunQ.e ?_; simp [*]) | (refine WK.retO Tryz.func47 rfl rfl ?_ ?_ <;> simp (maxDischargeDepth := 120) [b0_, *]))
 | cons x l =>
   simp only [List.length_cons] at hl hf ⊢
   refine FnO.intro Tryz.func47 rfl rfl fun G w => ?_
   repeat' (first | apply WK.seq | apply WK.block | apply WK.inBlock | apply WK.skip | apply WK.label | apply WK.scope | apply WK.inScope | refine WK.exit rfl ?_ | refine WK.cT rfl ?_ | refine WK.cF rfl ?_ | (refine hQ.h _ _ ?_; clear hQ hA) | refine WK.condAny rfl ?_ ?_ | (refine WK.c2 rfl (fun h => ?_) (fun h => ?_) <;> (first | (simp [*] at h; done) | (have h2 := h; simp at h2; exfalso; omega) | (have h2 := h; simp at h2; try simp only [Bool.not_eq_true', Bool.not_eq_false'] at h) | skip)) | (refine WK.rH Tryz.ntmps47 (by kernel_rfl) ?_; intro A hA Q hQ; simp [*]) | (refine RunQ.append0 900 901 appByte rfl rfl rfl rfl rfl rfl rfl ?_ rfl ?_ ?_ ?_ ?_ ?_ ?_; (focus (simp [*]; done)); (focus (first | omega | (simp [*]; done); done)); (focus (first | omega | (simp [*]; done); done)); (focus (simp [*]; done)); (focus (simp [*]; done)); (focus (simp [*]; done)); refine RunQ.e ?_; simp [*]) | (refine WK.retO Tryz.func47 rfl rfl ?_ ?_ <;> simp (maxDischargeDepth := 120) [*]))

def acFlat (l : List Action) : List (BitVec 8) := l.flatMap fun a => (aEnc a).1
def acEnc (l : List Action) : List (BitVec 8) × Int := if 100 < l.length then ([], 1) else if l.all Action.right = true then (acFlat l, 0) else ([], 1)
theorem acFlat_len (l : List Action) : (acFlat l).length ≤ l.length * 60 := by
 induction l with
 | nil => simp [acFlat]
 | cons a l ih =>
   have := aEnc_len a
   simp only [acFlat, List.flatMap_cons, List.length_append, List.length_cons] at ih ⊢
   omega
theorem acFlat_succ {l : List Action} {i : Nat} (h : i < l.length) : acFlat (l.take (i + 1)) = acFlat (l.take i) ++ (aEnc (nth l i)).1 := by
 unfold acFlat; rw [take_nth h, List.flatMap_append]; simp
theorem aEnc_code (a : Action) : (aEnc a).2 = if Action.right a = true then 0 else 1 := by unfold aEnc; split <;> rfl
theorem all_false_of {l : List Action} {i : Nat} {p : Action → Bool} (h : i < l.length) (hp : p (nth l i) = false) : l.all p = false := by
 rw [List.all_eq_false]; exact ⟨nth l i, nth_mem h, by rw [hp]; exact Bool.false_ne_true⟩
theorem all_true_of {l : List Action} {p : Action → Bool} (h : ∀ j, j < l.length → p (nth l j) = true) : l.all p = true := by
 rw [List.all_eq_true]; intro x hx
 obtain ⟨j, hj, rfl⟩ := mem_nth hx
 exact h j hj
theorem act_load (l : List Action) (i : Nat) (h : i < l.length) : ((actL l).drop (i * 11)).take 11 = (nth l i).enc ∧ 11 ≤ l.length * 11 - i * 11 := ⟨act_sub l i h, by omega⟩
set_option maxHeartbeats 4000000 in
theorem acenc_c (l : List Action) (hl : l.length ≤ 1000000) : FnT Tryz.prog 242 [actS l] (acEnc l).1.length 1 (byL (acEnc l).1) [.int .i64 (acEnc l).2] := by
 unfold actS
 by_cases h100 : 100 < l.length
 · have e : acEnc l = ([], 1) := by unfold acEnc; rw [if_pos h100]
   have j : (100 : Int) < l.length := by omega
   rw [e]
   refine FnT.intro Tryz.func242 rfl rfl fun G w => ?_
   repeat' (first | apply WK.seq | refine WK.cT rfl ?_ | (refine hQ.h _ _ ?_; clear hQ hA) | (refine WK.rH Tryz.ntmps242 (by kernel_rfl) ?_; intro A hA Q hQ; simp [*]))
   refine WK.ghost (Ghost.own 2 900 1 rfl rfl) ?_
   refine WK.retT2 Tryz.func242 ?_ ?_ ?_ <;> simp (maxDischargeDepth := 120) [Tryz.results242, b0_]
 have j : ¬ (100 : Int) < l.length := by omega
 have hdef : acEnc l = if l.all Action.right = true then (acFlat l, 0) else ([], 1) := by unfold acEnc; rw [if_neg h100]
 refine FnT.intro Tryz.func242 rfl rfl fun G w => ?_
 repeat' (first | apply WK.seq | apply WK.block | apply WK.skip | refine WK.cF rfl ?_ | (refine hQ.h _ _ ?_; clear hQ hA) | (refine WK.rH Tryz.ntmps242 (by kernel_rfl) ?_; intro A hA Q hQ; simp [*]))
 refine WK.ghost (Ghost.own 4 900 1 rfl rfl) ?_
 refine WK.lI (fun n => if n = 1 then 900 else n) (fun i : Nat => (⟨(upd (upd (upd (upd (upd (upd (upd J 0 (.sl false l.length (actL l))) 2 (.sl true 0 [])) 3 (.int .i64 0)) 4 (.msl 1 0 (acFlat (l.take i)).length)) 12 (.sl false l.length (actL l))) 13 (.int .i64 l.length)) 14 (.int .i64 i)), (upd B0 1 (.buf 1 (byL (acFlat (l.take i))))), 0⟩ : St)) (fun i => i ≤ l.length ∧ ∀ j, j < i → Action.right (nth l j) = true) (fun i => l.length - i) (0) (by repeat (first | exact TmW.nil | refine TmW.upd ?_ (by simp (maxDischargeDepth := 120) [acFlat, b0_]))) (by repeat (first | exact BxW.nil | refine BxW.upd ?_ (by simp (maxDischargeDepth := 120) [acFlat, b0_]))) (by first | exact InjW.id | exact InjW.nil | exact InjW.one | exact InjW.two (by simp) | exact InjW.three (by simp) (by simp) (by simp)) (⟨by omega, by simp⟩) (fun i hi IH => ?_)
 have hfl := acFlat_len (l.take i)
 have htl : (l.take i).length ≤ 100 := by rw [List.length_take]; omega
 by_cases h1 : i < l.length
 · obtain ⟨h4, h3⟩ := act_load l i h1
   have h6 : IntKind.i64.wrap ((i : Int) + 1) = i + 1 := wrap_i64 (by omega) (by omega)
   have hc := aencP_c (nth l i)
   have hcd := aEnc_code (nth l i)
   have hel := aEnc_len (nth l i)
   rw [hcd] at hc
   cases hr : Action.right (nth l i)
   · have e : acEnc l = ([], 1) := by rw [hdef, if_neg (by rw [all_false_of h1 hr]; exact Bool.false_ne_true)]
     rw [hr] at hc
     rw [e]
     repeat' (first | apply WK.seq | apply WK.block | apply WK.skip | refine WK.cT rfl ?_ | (refine hQ.h _ _ ?_; clear hQ hA) | (refine WK.rH Tryz.ntmps242 (by kernel_rfl) ?_; intro A hA Q hQ; simp [bne, *]) | (refine RunQ.k rfl rfl rfl rfl rfl ?_ (hc) ?_ ?_ <;> simp (maxDischargeDepth := 120) [bne, *] <;> refine ⟨?_⟩))
     refine WK.ghost (Ghost.own 2 901 1 rfl rfl) ?_
     refine WK.retT2 Tryz.func242 ?_ ?_ ?_ <;> simp (maxDischargeDepth := 120) [Tryz.results242, b0_]
   · rw [hr] at hc
     have hs := acFlat_succ h1
     obtain ⟨F, hF⟩ : ∃ F, acFlat (l.take i) = F := ⟨_, rfl⟩
     obtain ⟨E, hE⟩ : ∃ E, (aEnc (nth l i)).1 = E := ⟨_, rfl⟩
     rw [hF] at hs hfl ⊢
     rw [hE] at hs hc hel
     have hbd : F.length + E.length ≤ 1000000 := by omega
     have hfull := by_full E E.length rfl
     unfold byS at hc
     clear hE hF
     repeat' (first | apply WK.seq | apply WK.block | apply WK.inBlock | apply WK.skip | refine WK.cT rfl ?_ | refine WK.cF rfl ?_ | (refine hQ.h _ _ ?_; clear hQ hA) | (refine WK.rH Tryz.ntmps242 (by kernel_rfl) ?_; intro A hA Q hQ; simp [bne, *]) | (refine RunQ.append 902 appByte rfl rfl rfl rfl rfl rfl rfl rfl rfl ?_ ?_ ?_ ?_ ?_; (focus (first | omega | (simp [bne, *]; done); done)); (focus (first | omega | (simp [bne, *]; done); done)); (focus (first | omega | (simp [bne, *]; done); done)); (focus (first | omega | (simp [bne, *]; done); done)); refine RunQ.e ?_; simp [bne, *]) | (refine RunQ.k rfl rfl rfl rfl rfl ?_ (hc) ?_ ?_ <;> simp (maxDischargeDepth := 120) [bne, *] <;> refine ⟨?_⟩))
     refine WK.next (fun n => if n = 1 then 902 else n) (IH (i + 1) (⟨by omega, fun j hj => by by_cases h7 : j = i; (subst h7; exact hr); exact hi.2 j (by omega)⟩) (by first | omega | (dsimp only; omega))) (by repeat (first | exact TmW.nil | refine TmW.upd ?_ (by simp (maxDischargeDepth := 120) [hs, byL_app]))) (by repeat (first | exact BxW.nil | refine BxW.upd ?_ (by simp (maxDischargeDepth := 120) [hs, byL_app]))) (by first | exact InjW.id | exact InjW.nil | exact InjW.one | exact InjW.two (by simp) | exact InjW.three (by simp) (by simp) (by simp))
 · have e : acEnc l = (acFlat l, 0) := by rw [hdef, if_pos (all_true_of fun j hj => hi.2 j (by omega))]
   have hT : l.take i = l := List.take_of_length_le (by omega)
   rw [e, hT]
   repeat' (first | apply WK.seq | refine WK.exit rfl ?_ | refine WK.cF rfl ?_ | (refine hQ.h _ _ ?_; clear hQ hA) | (refine WK.rH Tryz.ntmps242 (by kernel_rfl) ?_; intro A hA Q hQ; simp [*]) | (refine WK.retT2 Tryz.func242 ?_ ?_ ?_ <;> simp (maxDischargeDepth := 120) [Tryz.results242, *]))

def acGlue (acc : List Action) (r : List Action × Option Int) : List Action × Option Int := match r.2 with | none => (acc ++ r.1, none) | some c => ([], some c)
def acDecF : Nat → List (BitVec 8) → List Action × Option Int
 | 0, _ => ([], none)
 | f + 1, b => if b.length = 0 then ([], none) else match (aDec b).2.2 with
   | some c => ([], some c)
   | none => acGlue [(aDec b).1] (acDecF f (b.drop (aDec b).2.1.toNat))
def acDec (b : List (BitVec 8)) : List Action × Option Int :=
 if (acDecF b.length b).2 = none ∧ 100 < (acDecF b.length b).1.length then ([], some 7) else acDecF b.length b
theorem acGlue_glue (a b : List Action) (r : List Action × Option Int) : acGlue a (acGlue b r) = acGlue (a ++ b) r := by
 obtain ⟨l, c⟩ := r
 cases c <;> simp [acGlue]
theorem acGlue_nil (r : List Action × Option Int) (h : ∀ c, r.2 = some c → r.1 = []) : acGlue [] r = r := by
 obtain ⟨l, c⟩ := r
 cases c with
 | none => simp [acGlue]
 | some c => simp only at h; rw [h c rfl]; rfl
theorem acDecF_bad : ∀ (f : Nat) (b : List (BitVec 8)) (c : Int), (acDecF f b).2 = some c → (acDecF f b).1 = []
 | 0, b, c, h => rfl
 | f + 1, b, c, h => by
   rw [acDecF] at h ⊢
   split
   · rfl
   rename_i h0
   rw [if_neg h0] at h
   cases hd : (aDec b).2.2 with
   | some c => rfl
   | none =>
     simp only [hd] at h ⊢
     cases hr : (acDecF f (b.drop (aDec b).2.1.toNat)).2 with
     | none => simp [acGlue, hr] at h
     | some c => simp [acGlue, hr]
theorem acDecF_stop {f : Nat} {b : List (BitVec 8)} (h : b.length = 0) : acDecF f b = ([], none) := by
 cases f with
 | zero => rfl
 | succ f => rw [acDecF, if_pos h]
structure AcAt (b : List (BitVec 8)) (x : Nat × Nat × List Action) : Prop where
 le : x.2.1 ≤ b.length
 fuel : b.length - x.2.1 ≤ x.1
 eq : acDecF b.length b = acGlue x.2.2 (acDecF x.1 (b.drop x.2.1))
 small : x.2.2.length * 8 ≤ x.2.1
theorem AcAt.start (b : List (BitVec 8)) : AcAt b (b.length, 0, []) := ⟨Nat.zero_le _, Nat.le_refl _, (acGlue_nil _ (acDecF_bad _ _)).symm, Nat.le_refl _⟩
theorem AcAt.bad {b : List (BitVec 8)} {x : Nat × Nat × List Action} (h : AcAt b x) (hp : x.2.1 < b.length) {y : Action} {n c : Int} (hd : aDec (b.drop x.2.1) = (y, n, some c)) : acDec b = ([], some c) := by
 have e : acDecF b.length b = ([], some c) := by
   rw [h.eq]
   have hf : ∃ f, x.1 = f + 1 := ⟨x.1 - 1, by have := h.fuel; omega⟩
   obtain ⟨f, hf⟩ := hf
   rw [hf, acDecF, if_neg (by rw [List.length_drop]; omega), hd]; rfl
 unfold acDec; rw [e]; rfl
theorem AcAt.next {b : List (BitVec 8)} {x : Nat × Nat × List Action} (h : AcAt b x) (hp : x.2.1 < b.length) {y : Action} {n : Int} (hd : aDec (b.drop x.2.1) = (y, n, none)) : ∃ k : Nat, n = k ∧ x.2.1 + k ≤ b.length ∧ 0 < k ∧
   AcAt b (x.1 - 1, x.2.1 + k, x.2.2 ++ [y]) := by
 obtain ⟨_, k, hk, h8, hkl, _, _⟩ := aDec_back hd
 rw [List.length_drop] at hkl
 have hf : ∃ f, x.1 = f + 1 := ⟨x.1 - 1, by have := h.fuel; omega⟩
 obtain ⟨f, hf⟩ := hf
 refine ⟨k, hk, by omega, by omega, ⟨by simp only; omega, by have := h.fuel; simp only; omega, ?_, by have := h.small; simp only [List.length_append, List.length_singleton]; omega⟩⟩
 rw [h.eq, hf, acDecF, if_neg (by rw [List.length_drop]; omega), hd]
 simp only [Nat.add_sub_cancel]
 rw [acGlue_glue, hk, Int.toNat_natCast, List.drop_drop]
theorem AcAt.stop {b : List (BitVec 8)} {x : Nat × Nat × List Action} (h : AcAt b x) (hp : ¬ x.2.1 < b.length) : acDecF b.length b = (x.2.2, none) := by
 rw [h.eq, acDecF_stop (by rw [List.length_drop]; omega)]; simp [acGlue]
set_option maxHeartbeats 4000000 in
theorem acdec_c (b : List (BitVec 8)) (hb : b.length ≤ 1000000) : FnT Tryz.prog 168 [byS b] (acDec b).1.length 11 (actL (acDec b).1) [.agg (aF (acDec b).2)] := by
 unfold byS
 refine FnT.intro Tryz.func168 rfl rfl fun G w => ?_
 repeat' (first | apply WK.seq | apply WK.block | (refine hQ.h _ _ ?_; clear hQ hA) | (refine WK.rH Tryz.ntmps168 (by kernel_rfl) ?_; intro A hA Q hQ; simp [*]))
 refine WK.ghost (Ghost.own 4 900 11 rfl rfl) ?_
 refine WK.lI (fun n => if n = 60 then 900 else n) (fun x : Nat × Nat × List Action => (⟨(upd (upd (upd (upd J 0 (.sl false (b.length - x.2.1) (byL (b.drop x.2.1)))) 2 (.sl true 0 [])) 3 (.ptr 1 0)) 4 (.msl 60 0 x.2.2.length)), (upd (upd B0 1 (.var (aF none))) 60 (.buf 11 (actL x.2.2))), 0⟩ : St)) (fun x => AcAt b x) (fun x => b.length - x.2.1) ((b.length, 0, [])) (by repeat (first | exact TmW.nil | refine TmW.upd ?_ (by simp (maxDischargeDepth := 120) [aF]))) (by repeat (first | exact BxW.nil | refine BxW.upd ?_ (by simp (maxDischargeDepth := 120) [aF]))) (by first | exact InjW.id | exact InjW.nil | exact InjW.one | exact InjW.two (by simp) | exact InjW.three (by simp) (by simp) (by simp)) (AcAt.start b) (fun i hi IH => ?_)
 obtain ⟨f, p, acc⟩ := i
 have hsm := hi.small
 simp only at hsm hi ⊢
 by_cases h1 : p < b.length
 · have hc := adec_c (b.drop p) (by rw [List.length_drop]; omega)
   obtain ⟨⟨y, n, c⟩, hd⟩ : ∃ R, aDec (b.drop p) = R := ⟨_, rfl⟩
   rw [hd] at hc
   unfold byS at hc
   rw [List.length_drop] at hc
   have hpos : 0 < b.length - p := by omega
   have hpos' : (0 : Int) < ((b.length - p : Nat) : Int) := by omega
   obtain ⟨L, hL⟩ : ∃ L, b.length - p = L := ⟨_, rfl⟩
   cases c with
   | some c =>
     have e := AcAt.bad hi h1 hd
     rw [hL] at hc hpos hpos' ⊢
     rw [e]
     clear hL
     repeat' (first | apply WK.seq | apply WK.block | apply WK.skip | refine WK.cT rfl ?_ | (refine hQ.h _ _ ?_; clear hQ hA) | (refine WK.rH Tryz.ntmps168 (by kernel_rfl) ?_; intro A hA Q hQ; simp [aRes, aF, *]) | (refine WK.rX (by kernel_rfl) Tryz.ntmps168 (by kernel_rfl) ?_; intro A hA Q hQ; simp [aRes, aF, *]) | (refine hQ.h _ _ _ (by decide +kernel) ?_; clear hQ hA) | (refine RunQ.k rfl rfl rfl rfl rfl ?_ (hc) ?_ ?_ <;> simp (maxDischargeDepth := 120) [aRes, aF, *] <;> refine ⟨?_⟩))
     refine WK.ghost (Ghost.own 2 901 11 rfl rfl) ?_
     refine WK.retT2 Tryz.func168 ?_ ?_ ?_ <;> simp (maxDischargeDepth := 120) [Tryz.results168, actL_nil, aF]
   | none =>
     obtain ⟨k, rfl, hk1, hk2, hn⟩ := AcAt.next hi h1 hd
     simp only at hk1 hn
     have hkL : (k : Int) ≤ ((b.length - p : Nat) : Int) := by omega
     have hdd : ((byL (b.drop p)).drop k).take (b.length - p - k) = byL (b.drop (p + k)) := by
       rw [byL_drop, List.drop_drop]; exact by_full _ _ (by rw [List.length_drop]; omega)
     have hll : b.length - (p + k) = b.length - p - k := by omega
     have hbd : (acc.length + 1) * 88 ≤ 140737488355328 := by omega
     have hsn : actL acc ++ y.enc = actL (acc ++ [y]) := by rw [actL_app]; simp [actL]
     rw [hL] at hc hpos hpos' hkL hdd hll ⊢
     clear hL hd
     repeat' (first | apply WK.seq | apply WK.block | apply WK.inBlock | apply WK.skip | refine WK.cT rfl ?_ | refine WK.cF rfl ?_ | (refine hQ.h _ _ ?_; clear hQ hA) | (refine WK.rH Tryz.ntmps168 (by kernel_rfl) ?_; intro A hA Q hQ; simp [aRes, aF, *]) | (refine WK.rX (by kernel_rfl) Tryz.ntmps168 (by kernel_rfl) ?_; intro A hA Q hQ; simp [aRes, aF, *]) | (refine hQ.h _ _ _ (by decide +kernel) ?_; clear hQ hA) | (refine RunX.append 902 appAct rfl rfl rfl rfl rfl rfl rfl rfl ?_ ?_ ?_ ?_ ?_; (focus (first | omega | (simp [aRes, aF, *]; done); done)); (focus (first | omega | (simp [aRes, aF, *]; done); done)); (focus (first | omega | (simp [aRes, aF, *]; done); done)); (focus (first | omega | (simp [aRes, aF, *]; done); done)); refine RunX.e ?_; simp [aRes, aF, *]) | (refine RunQ.k rfl rfl rfl rfl rfl ?_ (hc) ?_ ?_ <;> simp (maxDischargeDepth := 120) [aRes, aF, *] <;> refine ⟨?_⟩))
     refine WK.next (fun n => if n = 60 then 902 else n) (IH ((f - 1, p + k, acc ++ [y])) (hn) (by first | omega | (dsimp only; omega))) (by repeat (first | exact TmW.nil | refine TmW.upd ?_ (by simp (maxDischargeDepth := 120) [hsn, hll, aF]))) (by repeat (first | exact BxW.nil | refine BxW.upd ?_ (by simp (maxDischargeDepth := 120) [hsn, hll, aF]))) (by first | exact InjW.id | exact InjW.nil | exact InjW.one | exact InjW.two (by simp) | exact InjW.three (by simp) (by simp) (by simp))
 · have hstop := AcAt.stop hi h1
   simp only at hstop
   have hpos : ¬ 0 < b.length - p := by omega
   have hpos' : ¬ (0 : Int) < ((b.length - p : Nat) : Int) := by omega
   obtain ⟨L, hL⟩ : ∃ L, b.length - p = L := ⟨_, rfl⟩
   rw [hL] at hpos hpos' ⊢
   clear hL
   by_cases h100 : 100 < acc.length
   · have e : acDec b = ([], some 7) := by unfold acDec; rw [hstop, if_pos ⟨rfl, h100⟩]
     have h100' : (100 : Int) < acc.length := by omega
     rw [e]
     repeat' (first | apply WK.seq | refine WK.exit rfl ?_ | refine WK.cT rfl ?_ | refine WK.cF rfl ?_ | (refine hQ.h _ _ ?_; clear hQ hA) | (refine WK.rH Tryz.ntmps168 (by kernel_rfl) ?_; intro A hA Q hQ; simp [aF, *]))
     refine WK.ghost (Ghost.own 2 901 11 rfl rfl) ?_
     refine WK.retT2 Tryz.func168 ?_ ?_ ?_ <;> simp (maxDischargeDepth := 120) [Tryz.results168, actL_nil, aF]
   · have e : acDec b = (acc, none) := by unfold acDec; rw [hstop, if_neg (fun h => h100 h.2)]
     have h100' : ¬ (100 : Int) < acc.length := by omega
     rw [e]
     repeat' (first | apply WK.seq | apply WK.skip | refine WK.exit rfl ?_ | refine WK.cF rfl ?_ | (refine hQ.h _ _ ?_; clear hQ hA) | (refine WK.rH Tryz.ntmps168 (by kernel_rfl) ?_; intro A hA Q hQ; simp [aF, *]) | (refine WK.retT2 Tryz.func168 ?_ ?_ ?_ <;> simp (maxDischargeDepth := 120) [Tryz.results168, aF, *]))

set_option maxHeartbeats 4000000 in
theorem racenc_c (l : List Action) (hl : l.length ≤ 1000000) : FnT Tryz.prog 89 [actS l] (acEnc l).1.length 1 (byL (acEnc l).1) [.int .i64 (acEnc l).2] := by
 unfold actS
 by_cases h100 : 100 < l.length
 · have e : acEnc l = ([], 1) := by unfold acEnc; rw [if_pos h100]
   have j : (100 : Int) < l.length := by omega
   rw [e]
   refine FnT.intro Tryz.func89 rfl rfl fun G w => ?_
   repeat' (first | apply WK.seq | refine WK.cT rfl ?_ | (refine hQ.h _ _ ?_; clear hQ hA) | (refine WK.rH Tryz.ntmps89 (by kernel_rfl) ?_; intro A hA Q hQ; simp [*]))
   refine WK.ghost (Ghost.own 2 900 1 rfl rfl) ?_
   refine WK.retT2 Tryz.func89 ?_ ?_ ?_ <;> simp (maxDischargeDepth := 120) [Tryz.results89, b0_]
 have j : ¬ (100 : Int) < l.length := by omega
 have hdef : acEnc l = if l.all Action.right = true then (acFlat l, 0) else ([], 1) := by unfold acEnc; rw [if_neg h100]
 refine FnT.intro Tryz.func89 rfl rfl fun G w => ?_
 repeat' (first | apply WK.seq | apply WK.block | apply WK.skip | refine WK.cF rfl ?_ | (refine hQ.h _ _ ?_; clear hQ hA) | (refine WK.rH Tryz.ntmps89 (by kernel_rfl) ?_; intro A hA Q hQ; simp [*]))
 refine WK.ghost (Ghost.own 4 900 1 rfl rfl) ?_
 refine WK.lI (fun n => if n = 1 then 900 else n) (fun i : Nat => (⟨(upd (upd (upd (upd (upd J 0 (.sl false l.length (actL l))) 2 (.sl true 0 [])) 3 (.int .i64 0)) 4 (.msl 1 0 (acFlat (l.take i)).length)) 5 (.int .i64 i)), (upd B0 1 (.buf 1 (byL (acFlat (l.take i))))), 0⟩ : St)) (fun i => i ≤ l.length ∧ ∀ j, j < i → Action.right (nth l j) = true) (fun i => l.length - i) (0) (by repeat (first | exact TmW.nil | refine TmW.upd ?_ (by simp (maxDischargeDepth := 120) [acFlat, b0_]))) (by repeat (first | exact BxW.nil | refine BxW.upd ?_ (by simp (maxDischargeDepth := 120) [acFlat, b0_]))) (by first | exact InjW.id | exact InjW.nil | exact InjW.one | exact InjW.two (by simp) | exact InjW.three (by simp) (by simp) (by simp)) (⟨by omega, by simp⟩) (fun i hi IH => ?_)
 have hfl := acFlat_len (l.take i)
 have htl : (l.take i).length ≤ 100 := by rw [List.length_take]; omega
 by_cases h1 : i < l.length
 · obtain ⟨h4, h3⟩ := act_load l i h1
   have h6 : IntKind.i64.wrap ((i : Int) + 1) = i + 1 := wrap_i64 (by omega) (by omega)
   have hc := raencP_c (nth l i)
   have hcd := aEnc_code (nth l i)
   have hel := aEnc_len (nth l i)
   rw [hcd] at hc
   cases hr : Action.right (nth l i)
   · have e : acEnc l = ([], 1) := by rw [hdef, if_neg (by rw [all_false_of h1 hr]; exact Bool.false_ne_true)]
     rw [hr] at hc
     rw [e]
     repeat' (first | apply WK.seq | apply WK.block | apply WK.skip | refine WK.cT rfl ?_ | (refine hQ.h _ _ ?_; clear hQ hA) | (refine WK.rH Tryz.ntmps89 (by kernel_rfl) ?_; intro A hA Q hQ; simp [bne, *]) | (refine RunQ.k rfl rfl rfl rfl rfl ?_ (hc) ?_ ?_ <;> simp (maxDischargeDepth := 120) [bne, *] <;> refine ⟨?_⟩))
     refine WK.ghost (Ghost.own 2 901 1 rfl rfl) ?_
     refine WK.retT2 Tryz.func89 ?_ ?_ ?_ <;> simp (maxDischargeDepth := 120) [Tryz.results89, b0_]
   · rw [hr] at hc
     have hs := acFlat_succ h1
     obtain ⟨F, hF⟩ : ∃ F, acFlat (l.take i) = F := ⟨_, rfl⟩
     obtain ⟨E, hE⟩ : ∃ E, (aEnc (nth l i)).1 = E := ⟨_, rfl⟩
     rw [hF] at hs hfl ⊢
     rw [hE] at hs hc hel
     have hbd : F.length + E.length ≤ 1000000 := by omega
     have hfull := by_full E E.length rfl
     unfold byS at hc
     clear hE hF
     repeat' (first | apply WK.seq | apply WK.block | apply WK.inBlock | apply WK.skip | refine WK.cT rfl ?_ | refine WK.cF rfl ?_ | (refine hQ.h _ _ ?_; clear hQ hA) | (refine WK.rH Tryz.ntmps89 (by kernel_rfl) ?_; intro A hA Q hQ; simp [bne, *]) | (refine RunQ.append 902 appByte rfl rfl rfl rfl rfl rfl rfl rfl rfl ?_ ?_ ?_ ?_ ?_; (focus (first | omega | (simp [bne, *]; done); done)); (focus (first | omega | (simp [bne, *]; done); done)); (focus (first | omega | (simp [bne, *]; done); done)); (focus (first | omega | (simp [bne, *]; done); done)); refine RunQ.e ?_; simp [bne, *]) | (refine RunQ.k rfl rfl rfl rfl rfl ?_ (hc) ?_ ?_ <;> simp (maxDischargeDepth := 120) [bne, *] <;> refine ⟨?_⟩))
     refine WK.next (fun n => if n = 1 then 902 else n) (IH (i + 1) (⟨by omega, fun j hj => by by_cases h7 : j = i; (subst h7; exact hr); exact hi.2 j (by omega)⟩) (by first | omega | (dsimp only; omega))) (by repeat (first | exact TmW.nil | refine TmW.upd ?_ (by simp (maxDischargeDepth := 120) [hs, byL_app]))) (by repeat (first | exact BxW.nil | refine BxW.upd ?_ (by simp (maxDischargeDepth := 120) [hs, byL_app]))) (by first | exact InjW.id | exact InjW.nil | exact InjW.one | exact InjW.two (by simp) | exact InjW.three (by simp) (by simp) (by simp))
 · have e : acEnc l = (acFlat l, 0) := by rw [hdef, if_pos (all_true_of fun j hj => hi.2 j (by omega))]
   have hT : l.take i = l := List.take_of_length_le (by omega)
   rw [e, hT]
   repeat' (first | apply WK.seq | refine WK.exit rfl ?_ | refine WK.cF rfl ?_ | (refine hQ.h _ _ ?_; clear hQ hA) | (refine WK.rH Tryz.ntmps89 (by kernel_rfl) ?_; intro A hA Q hQ; simp [*]) | (refine WK.retT2 Tryz.func89 ?_ ?_ ?_ <;> simp (maxDischargeDepth := 120) [Tryz.results89, *]))
theorem acencP_c (l : List Action) (hl : l.length ≤ 1000000) : FnP Tryz.prog 242 [actS l] (.tup [byS (acEnc l).1, .int .i64 (acEnc l).2]) := by
 have h := (acenc_c l hl).toP (by simp [byL_take]) (by rfl)
 rwa [Nat.mul_one, by_full _ _ rfl] at h
theorem racencP_c (l : List Action) (hl : l.length ≤ 1000000) : FnP Tryz.prog 89 [actS l] (.tup [byS (acEnc l).1, .int .i64 (acEnc l).2]) := by
 have h := (racenc_c l hl).toP (by simp [byL_take]) (by rfl)
 rwa [Nat.mul_one, by_full _ _ rfl] at h
theorem acdecP_c (b : List (BitVec 8)) (hb : b.length ≤ 1000000) : FnP Tryz.prog 168 [byS b] (.tup [actS (acDec b).1, .agg (aF (acDec b).2)]) := by
 have h := (acdec_c b hb).toP (by simp) (by simp [ClL, Cl])
 rwa [actL_take] at h
theorem acEnc_len (l : List Action) : (acEnc l).1.length ≤ 6000 := by
 have h := acFlat_len l
 unfold acEnc
 split
 · simp
 split
 · simp only; omega
 · simp
end Go.Proofs.YtcccfbjkcahgfaaGreat

namespace Go.Proofs.YtcccfbjkcahgfaaGreat
open Go Go.AI Go.Proofs
theorem acFlat_cons (a : Action) (l : List Action) : acFlat (a :: l) = (aEnc a).1 ++ acFlat l := rfl
theorem acEnc_ok {l : List Action} (h1 : l.length ≤ 100) (h2 : l.all Action.right = true) : acEnc l = (acFlat l, 0) := by
 unfold acEnc; rw [if_neg (by omega), if_pos h2]
theorem acDecF_back : ∀ (f : Nat) (b : List (BitVec 8)), b.length ≤ f → (acDecF f b).2 = none → (∀ a, a ∈ (acDecF f b).1 → Action.right a = true) ∧ acFlat (acDecF f b).1 = b
 | 0, b, hb, _ => by
   have : b = [] := List.eq_nil_of_length_eq_zero (by omega)
   subst this
   exact ⟨fun a ha => by simp [acDecF] at ha, rfl⟩
 | f + 1, b, hb, h => by
   rw [acDecF] at h ⊢
   by_cases h0 : b.length = 0
   · rw [if_pos h0] at *
     have : b = [] := List.eq_nil_of_length_eq_zero h0
     subst this
     exact ⟨fun a ha => by simp at ha, rfl⟩
   · rw [if_neg h0] at h ⊢
     obtain ⟨y, n, c, hd⟩ : ∃ y n c, aDec b = (y, n, c) := ⟨_, _, _, rfl⟩
     rw [hd] at h ⊢
     cases c with
     | some c => simp at h
     | none =>
       obtain ⟨hr, k, hk, h8, hkl, _, he⟩ := aDec_back hd
       subst hk
       simp only [Int.toNat_natCast] at h ⊢
       obtain ⟨R, hR⟩ : ∃ R, acDecF f (b.drop k) = R := ⟨_, rfl⟩
       rw [hR] at h ⊢
       obtain ⟨m, c⟩ := R
       cases c with
       | some c => simp [acGlue] at h
       | none =>
         obtain ⟨h1, h2⟩ := acDecF_back f (b.drop k) (by rw [List.length_drop]; omega) (by rw [hR])
         rw [hR] at h1 h2
         simp only at h1 h2
         refine ⟨fun a ha => ?_, ?_⟩
         · simp only [acGlue, List.cons_append, List.nil_append, List.mem_cons] at ha
           rcases ha with rfl | ha
           · exact hr
           · exact h1 a ha
         · simp only [acGlue, List.cons_append, List.nil_append]
           rw [acFlat_cons, he, h2, List.take_append_drop]
theorem acDec_back {b : List (BitVec 8)} {k : List Action} (h : acDec b = (k, none)) : acEnc k = (b, 0) := by
 unfold acDec at h
 split at h
 · cases h
 · rename_i hn
   obtain ⟨h1, h2⟩ := acDecF_back b.length b (Nat.le_refl _) (by rw [h])
   rw [h] at h1 h2 hn
   simp only at h1 h2 hn
   rw [acEnc_ok (by simp only [true_and] at hn; omega) (List.all_eq_true.2 h1), h2]
theorem acDec_bad {b : List (BitVec 8)} {k : List Action} {c : Int} (h : acDec b = (k, some c)) : k = [] := by
 unfold acDec at h
 split at h
 · cases h; rfl
 · have := acDecF_bad b.length b c (by rw [h])
   rw [h] at this
   exact this
end Go.Proofs.YtcccfbjkcahgfaaGreat

section
namespace Go.Proofs.YtcccfbjkcahgfaaGreat
open Go Go.AI Go.Proofs
section
variable {α φ : Type}
def rwGlue (acc : List α) (r : List α × Option φ) : List α × Option φ := match r.2 with | none => (acc ++ r.1, none) | some c => ([], some c)
def rwF (rd : List (BitVec 8) → α × Int × Option φ) : Nat → List (BitVec 8) → List α × Option φ
 | 0, _ => ([], none)
 | f + 1, b => if b.length = 0 then ([], none) else match (rd b).2.2 with
   | some c => ([], some c)
   | none => rwGlue [(rd b).1] (rwF rd f (b.drop (rd b).2.1.toNat))
def rwDec (rd : List (BitVec 8) → α × Int × Option φ) (b : List (BitVec 8)) : List α × Option φ := rwF rd b.length b
theorem rwGlue_glue (a b : List α) (r : List α × Option φ) : rwGlue a (rwGlue b r) = rwGlue (a ++ b) r := by
 obtain ⟨l, c⟩ := r
 cases c <;> simp [rwGlue]
theorem rwGlue_nil (r : List α × Option φ) (h : ∀ c, r.2 = some c → r.1 = []) : rwGlue [] r = r := by
 obtain ⟨l, c⟩ := r
 cases c with
 | none => simp [rwGlue]
 | some c => simp only at h; rw [h c rfl]; rfl
theorem rwF_bad {rd : List (BitVec 8) → α × Int × Option φ} : ∀ (f : Nat) (b : List (BitVec 8)) (c : φ), (rwF rd f b).2 = some c → (rwF rd f b).1 = []
 | 0, b, c, h => rfl
 | f + 1, b, c, h => by
   rw [rwF] at h ⊢
   split
   · rfl
   rename_i h0
   rw [if_neg h0] at h
   cases hd : (rd b).2.2 with
   | some c => rfl
   | none =>
     simp only [hd] at h ⊢
     cases hr : (rwF rd f (b.drop (rd b).2.1.toNat)).2 with
     | none => simp [rwGlue, hr] at h
     | some c => simp [rwGlue, hr]
theorem rwF_stop {rd : List (BitVec 8) → α × Int × Option φ} {f : Nat} {b : List (BitVec 8)} (h : b.length = 0) : rwF rd f b = ([], none) := by
 cases f with
 | zero => rfl
 | succ f => rw [rwF, if_pos h]
def RdKeeps (rd : List (BitVec 8) → α × Int × Option φ) (m : Nat) : Prop := ∀ b y n, rd b = (y, n, none) → ∃ k : Nat, n = (k : Int) ∧ m ≤ k ∧ k ≤ b.length
structure RwAt (rd : List (BitVec 8) → α × Int × Option φ) (m : Nat) (b : List (BitVec 8)) (x : Nat × Nat × List α) : Prop where
 le : x.2.1 ≤ b.length
 fuel : b.length - x.2.1 ≤ x.1
 eq : rwDec rd b = rwGlue x.2.2 (rwF rd x.1 (b.drop x.2.1))
 small : x.2.2.length * m ≤ x.2.1
theorem RwAt.start (rd : List (BitVec 8) → α × Int × Option φ) (m : Nat) (b : List (BitVec 8)) : RwAt rd m b (b.length, 0, []) := ⟨Nat.zero_le _, Nat.le_refl _, (rwGlue_nil _ (rwF_bad _ _)).symm, by simp⟩
theorem RwAt.bad {rd : List (BitVec 8) → α × Int × Option φ} {m : Nat} {b : List (BitVec 8)} {x : Nat × Nat × List α} (h : RwAt rd m b x) (hp : x.2.1 < b.length) {y : α} {n : Int} {c : φ} (hd : rd (b.drop x.2.1) = (y, n, some c)) : rwDec rd b = ([], some c) := by
 rw [h.eq]
 obtain ⟨f, hf⟩ : ∃ f, x.1 = f + 1 := ⟨x.1 - 1, by have := h.fuel; omega⟩
 rw [hf, rwF, if_neg (by rw [List.length_drop]; omega), hd]; rfl
theorem RwAt.next {rd : List (BitVec 8) → α × Int × Option φ} {m : Nat} (hm : 0 < m) (hk : RdKeeps rd m) {b : List (BitVec 8)} {x : Nat × Nat × List α} (h : RwAt rd m b x) (hp : x.2.1 < b.length) {y : α} {n : Int} (hd : rd (b.drop x.2.1) = (y, n, none)) : ∃ k : Nat, n = k ∧ x.2.1 + k ≤ b.length ∧ 0 < k ∧
   RwAt rd m b (x.1 - 1, x.2.1 + k, x.2.2 ++ [y]) := by
 obtain ⟨k, hk, h8, hkl⟩ := hk _ _ _ hd
 rw [List.length_drop] at hkl
 obtain ⟨f, hf⟩ : ∃ f, x.1 = f + 1 := ⟨x.1 - 1, by have := h.fuel; omega⟩
 refine ⟨k, hk, by omega, by omega, ⟨by simp only; omega, by have := h.fuel; simp only; omega, ?_, ?_⟩⟩
 · rw [h.eq, hf, rwF, if_neg (by rw [List.length_drop]; omega), hd]
   simp only [Nat.add_sub_cancel]
   rw [rwGlue_glue, hk, Int.toNat_natCast, List.drop_drop]
 · have := h.small
   simp only [List.length_append, List.length_singleton, Nat.add_mul, Nat.one_mul]; omega
theorem RwAt.stop {rd : List (BitVec 8) → α × Int × Option φ} {m : Nat} {b : List (BitVec 8)} {x : Nat × Nat × List α} (h : RwAt rd m b x) (hp : ¬ x.2.1 < b.length) : rwDec rd b = (x.2.2, none) := by
 rw [h.eq, rwF_stop (by rw [List.length_drop]; omega)]; simp [rwGlue]
def rwFlat (en : α → List (BitVec 8)) (l : List α) : List (BitVec 8) := l.flatMap en
theorem rwFlat_app (en : α → List (BitVec 8)) (l m : List α) : rwFlat en (l ++ m) = rwFlat en l ++ rwFlat en m := by unfold rwFlat; rw [List.flatMap_append]
theorem rwF_back {rd : List (BitVec 8) → α × Int × Option φ} {en : α → List (BitVec 8)} {ok : α → Prop} (hb : ∀ b y n, rd b = (y, n, none) → ok y ∧ ∃ k : Nat, n = (k : Int) ∧ 0 < k ∧ k ≤ b.length ∧ en y = b.take k) :
   ∀ (f : Nat) (b : List (BitVec 8)), b.length ≤ f → (rwF rd f b).2 = none → (∀ a, a ∈ (rwF rd f b).1 → ok a) ∧ rwFlat en (rwF rd f b).1 = b
 | 0, b, hl, _ => by
   have : b = [] := List.eq_nil_of_length_eq_zero (by omega)
   subst this
   exact ⟨fun a ha => by simp [rwF] at ha, rfl⟩
 | f + 1, b, hl, h => by
   rw [rwF] at h ⊢
   by_cases h0 : b.length = 0
   · rw [if_pos h0] at *
     have : b = [] := List.eq_nil_of_length_eq_zero h0
     subst this
     exact ⟨fun a ha => by simp at ha, rfl⟩
   · rw [if_neg h0] at h ⊢
     obtain ⟨y, n, c, hd⟩ : ∃ y n c, rd b = (y, n, c) := ⟨_, _, _, rfl⟩
     rw [hd] at h ⊢
     cases c with
     | some c => simp at h
     | none =>
       obtain ⟨hr, k, hk, h8, hkl, he⟩ := hb _ _ _ hd
       subst hk
       simp only [Int.toNat_natCast] at h ⊢
       obtain ⟨R, hR⟩ : ∃ R, rwF rd f (b.drop k) = R := ⟨_, rfl⟩
       rw [hR] at h ⊢
       obtain ⟨m, c⟩ := R
       cases c with
       | some c => simp [rwGlue] at h
       | none =>
         obtain ⟨h1, h2⟩ := rwF_back hb f (b.drop k) (by rw [List.length_drop]; omega) (by rw [hR])
         rw [hR] at h1 h2
         simp only at h1 h2
         refine ⟨fun a ha => ?_, ?_⟩
         · simp only [rwGlue, List.cons_append, List.nil_append, List.mem_cons] at ha
           rcases ha with rfl | ha
           · exact hr
           · exact h1 a ha
         · simp only [rwGlue, List.cons_append, List.nil_append]
           show en y ++ rwFlat en m = b
           rw [he, h2, List.take_append_drop]
theorem rwDec_back {rd : List (BitVec 8) → α × Int × Option φ} {en : α → List (BitVec 8)} {ok : α → Prop} (hb : ∀ b y n, rd b = (y, n, none) → ok y ∧ ∃ k : Nat, n = (k : Int) ∧ 0 < k ∧ k ≤ b.length ∧ en y = b.take k) {b : List (BitVec 8)} {l : List α} (h : rwDec rd b = (l, none)) : (∀ a, a ∈ l → ok a) ∧ rwFlat en l = b := by
 have := rwF_back hb b.length b (Nat.le_refl _) (by show (rwDec rd b).2 = none; rw [h])
 change (∀ a, a ∈ (rwDec rd b).1 → ok a) ∧ rwFlat en (rwDec rd b).1 = b at this
 rwa [h] at this
end
end Go.Proofs.YtcccfbjkcahgfaaGreat
end

namespace Go.Proofs.YtcccfbjkcahgfaaGreat
open Go Go.AI Go.Proofs
structure Bucket where
 weight : Int
 watch : Int
 wgroup : Int
 acts : List Action
 deriving DecidableEq, Inhabited
def Bucket.enc (x : Bucket) : List AV := [.int .i64 x.weight, .int .i64 x.watch, .int .i64 x.wgroup, .sl false x.acts.length (actL x.acts)]
@[simp] theorem Bucket.len (x : Bucket) : x.enc.length = 4 := rfl
@[simp] theorem Bucket.cl (x : Bucket) : ClL x.enc = true := by simp [Bucket.enc, ClL, Cl]
def bukL (l : List Bucket) : List AV := l.flatMap Bucket.enc
def bukS (l : List Bucket) : AV := .sl false l.length (bukL l)
@[simp] theorem bukL_len (l : List Bucket) : (bukL l).length = l.length * 4 := fm_length Bucket.len l
@[simp] theorem bukL_cl (l : List Bucket) : ClL (bukL l) = true := ClL_flatMap _ Bucket.cl l
theorem buk_sub (l : List Bucket) (i : Nat) (h : i < l.length) : ((bukL l).drop (i * 4)).take 4 = (nth l i).enc := fm_nth Bucket.len l i h
theorem buk_load (l : List Bucket) (i : Nat) (h : i < l.length) : ((bukL l).drop (i * 4)).take 4 = (nth l i).enc ∧ 4 ≤ l.length * 4 - i * 4 := ⟨buk_sub l i h, by omega⟩
@[simp] theorem bukS_cl (l : List Bucket) : Cl (bukS l) = true := by simp [bukS, Cl]
@[simp] theorem bukL_take (l : List Bucket) : (bukL l).take (l.length * 4) = bukL l := List.take_of_length_le (by simp)
@[simp] theorem bukL_nil : bukL [] = [] := rfl
theorem bukL_app (l m : List Bucket) : bukL (l ++ m) = bukL l ++ bukL m := List.flatMap_append
@[simp] theorem Bucket.take (x : Bucket) : x.enc.take 4 = x.enc := rfl
@[simp] theorem Bucket.drop (x : Bucket) : x.enc.drop 4 = [] := rfl
theorem bukL_one (x : Bucket) : bukL [x] = x.enc := by simp [bukL]
theorem bukL_snoc (l : List Bucket) (x : Bucket) : bukL l ++ x.enc = bukL (l ++ [x]) := by rw [bukL_app, bukL_one]
theorem buk_get (l : List Bucket) (i k : Nat) (h : i < l.length) (hk : k < 4) (h' : i * 4 + k < (bukL l).length) : (bukL l)[i * 4 + k] = ((nth l i).enc)[k]'(by rw [Bucket.len]; exact hk) := fm_get Bucket.len l i k h hk h'
def bkRight (x : Bucket) : Bool := (acEnc x.acts).2 == 0 && (numOk x.weight 2 && (numOk x.watch 4 && numOk x.wgroup 4))
def bkOne (x : Bucket) : List (BitVec 8) := beN (16 + (acEnc x.acts).1.length : Nat) 2 ++ (beN x.weight 2 ++ (beN x.watch 4 ++ (beN x.wgroup 4 ++ (List.replicate 4 0#8 ++ (acEnc x.acts).1))))
def buk0 : Bucket := ⟨0, 0, 0, []⟩
def bkRead (b : List (BitVec 8)) : Bucket × Int × Option (Int × Int) :=
 if b.length < 16 ∨ (getN b 0 2).1 < 16 ∨ ¬ (getN b 0 2).1 % 8 = 0 ∨ (b.length : Int) < (getN b 0 2).1 ∨ allZ ((b.drop 12).take 4) = false then (buk0, 0, some (6, 12))
 else (⟨(getN b 2 2).1, (getN b 4 4).1, (getN b 8 4).1, (acDec ((b.drop 16).take ((getN b 0 2).1.toNat - 16))).1⟩, (getN b 0 2).1, (acDec ((b.drop 16).take ((getN b 0 2).1.toNat - 16))).2.map fun c => (2, c))
theorem bkOne_len (x : Bucket) : (bkOne x).length = 16 + (acEnc x.acts).1.length := by
 unfold bkOne; simp [beN_len]; omega
theorem getN_ok {b : List (BitVec 8)} {p s : Nat} (h : p + s ≤ b.length) : numOk (getN b p s).1 s = true ∧ beN (getN b p s).1 s = (b.drop p).take s := by
 have hl : ((b.drop p).take s).length = s := by rw [List.length_take, List.length_drop]; omega
 rw [getN_val h]
 exact ⟨numOk_valN hl, beN_valN s _ hl⟩
theorem bkRead_back {b : List (BitVec 8)} {y : Bucket} {n : Int} (h : bkRead b = (y, n, none)) : bkRight y = true ∧ ∃ k : Nat, n = (k : Int) ∧ 16 ≤ k ∧ k ≤ b.length ∧ k % 8 = 0 ∧ bkOne y = b.take k := by
 unfold bkRead at h
 split at h
 · cases h
 rename_i hc
 have c1 : ¬ b.length < 16 := fun h => hc (.inl h)
 have c2 : ¬ (getN b 0 2).1 < 16 := fun h => hc (.inr (.inl h))
 have c3 : (getN b 0 2).1 % 8 = 0 := Decidable.byContradiction fun h => hc (.inr (.inr (.inl h)))
 have c4 : ¬ (b.length : Int) < (getN b 0 2).1 := fun h => hc (.inr (.inr (.inr (.inl h))))
 have c5 : allZ ((b.drop 12).take 4) = true := by
   cases hz : allZ ((b.drop 12).take 4)
   · exact absurd hz fun h => hc (.inr (.inr (.inr (.inr h))))
   · rfl
 clear hc
 obtain ⟨k, hk⟩ : ∃ k : Nat, (getN b 0 2).1 = k := ⟨(getN b 0 2).1.toNat, by omega⟩
 obtain ⟨o0, e0⟩ := getN_ok (b := b) (p := 0) (s := 2) (by omega)
 obtain ⟨o1, e1⟩ := getN_ok (b := b) (p := 2) (s := 2) (by omega)
 obtain ⟨o2, e2⟩ := getN_ok (b := b) (p := 4) (s := 4) (by omega)
 obtain ⟨o3, e3⟩ := getN_ok (b := b) (p := 8) (s := 4) (by omega)
 rw [hk] at h c2 c3 c4 e0
 simp only [Int.toNat_natCast] at h
 obtain ⟨R, hR⟩ : ∃ R, acDec ((b.drop 16).take (k - 16)) = R := ⟨_, rfl⟩
 rw [hR] at h
 obtain ⟨l, c⟩ := R
 cases c with
 | some c => simp at h
 | none =>
   simp only [Option.map_none, Prod.mk.injEq, and_true] at h
   obtain ⟨rfl, rfl⟩ := h
   have hb := acDec_back hR
   have hsl : ((b.drop 16).take (k - 16)).length = k - 16 := by rw [List.length_take, List.length_drop]; omega
   refine ⟨?_, k, rfl, by omega, by omega, by omega, ?_⟩
   · unfold bkRight
     simp only [hb, o1, o2, o3]
     rfl
   · unfold bkOne
     simp only [hb]
     rw [hsl, show 16 + (k - 16) = k by omega, e0, e1, e2, e3, List.drop_zero]
     have hz : List.replicate 4 0#8 = (b.drop 12).take 4 := by
       rw [allZ_iff] at c5
       rw [c5, List.length_take, List.length_drop, show min 4 (b.length - 12) = 4 by omega]
     rw [hz]
     have ta : ∀ p q : Nat, (b.drop p).take q ++ (b.drop (p + q)).take (k - (p + q)) = (b.drop p).take (q + (k - (p + q))) := fun p q => by rw [List.take_add, List.drop_drop]
     have t1 := ta 12 4
     have t2 := ta 8 4
     have t3 := ta 4 4
     have t4 := ta 2 2
     have t5 := ta 0 2
     simp only [Nat.reduceAdd, List.drop_zero] at t1 t2 t3 t4 t5
     rw [t1, show 4 + (k - 16) = k - 12 by omega, t2, show 4 + (k - 12) = k - 8 by omega, t3, show 4 + (k - 8) = k - 4 by omega, t4, show 2 + (k - 4) = k - 2 by omega, t5, show 2 + (k - 2) = k by omega]

def bkEnc (l : List Bucket) : List (BitVec 8) × Int := if l.length ≤ 100 ∧ l.all bkRight = true ∧ (rwFlat bkOne l).length ≤ 60000 then (rwFlat bkOne l, 0) else ([], 1)
def bkDec (b : List (BitVec 8)) : List Bucket × Option (Int × Int) :=
 if 60000 < b.length then ([], some (6, 12)) else if (rwDec bkRead b).2 = none ∧ 100 < (rwDec bkRead b).1.length then ([], some (6, 4)) else rwDec bkRead b
theorem bkKeeps : RdKeeps bkRead 16 := fun b y n h => by
 obtain ⟨_, k, hk, h16, hl, _⟩ := bkRead_back h
 exact ⟨k, hk, h16, hl⟩
theorem bkEnc_len (l : List Bucket) : (bkEnc l).1.length ≤ 60000 := by
 unfold bkEnc
 split
 · rename_i h; exact h.2.2
 · simp
structure GroupMod where
 command : Int
 kind : Int
 id : Int
 buckets : List Bucket
 deriving DecidableEq, Inhabited
def GroupMod.enc (g : GroupMod) : List AV := [.int .i64 g.command, .int .i64 g.kind, .int .i64 g.id, .sl false g.buckets.length (bukL g.buckets)]
def gm0 : GroupMod := ⟨0, 0, 0, []⟩
def gmIn (n top : Int) : Bool := decide (0 ≤ n) && decide (n ≤ top)
def gmRight (g : GroupMod) : Bool := (bkEnc g.buckets).2 == 0 && (gmIn g.command 2 && (gmIn g.kind 3 && numOk g.id 4))
def gmHead (g : GroupMod) : List (BitVec 8) := beN g.command 2 ++ (beN g.kind 1 ++ (beN 0 1 ++ beN g.id 4))
def gmEnc (g : GroupMod) : List (BitVec 8) × Int := if gmRight g = true then (gmHead g ++ (bkEnc g.buckets).1, 0) else ([], 1)
def gmDec (b : List (BitVec 8)) : GroupMod × Option (Int × Int) :=
 if b.length < 8 ∨ (getN b 3 1).1 ≠ 0 then (gm0, some (1, 6))
 else if gmIn (getN b 0 2).1 2 = false then (gm0, some (6, 11))
 else if gmIn (getN b 2 1).1 3 = false then (gm0, some (6, 10))
 else match (bkDec (b.drop 8)).2 with
   | some c => (gm0, some c)
   | none => (⟨(getN b 0 2).1, (getN b 2 1).1, (getN b 4 4).1, (bkDec (b.drop 8)).1⟩, none)
theorem gmIn_ok {n t : Int} {s : Nat} (h : gmIn n t = true) (ht : t < 256 ^ s) : numOk n s = true := by
 unfold gmIn at h
 rw [Bool.and_eq_true, decide_eq_true_eq, decide_eq_true_eq] at h
 rw [numOk_iff]
 exact ⟨h.1, Int.lt_of_le_of_lt h.2 ht⟩
end Go.Proofs.YtcccfbjkcahgfaaGreat

namespace Go.Proofs.YtcccfbjkcahgfaaGreat
open Go Go.AI Go.Proofs Go.Proofs.YtcccfbjkcahgfaaGreat
theorem rdBucket {w : World} {H : Type} {enc : TypeId × Value → H} {sp : Nat → Bool} {held : Bool} : Rd enc Tryz.prog w sp held 83 Bucket.enc := by
 intro fuel cs x h
 obtain ⟨hl, fuel', hf⟩ := trod_struct Tryz.underlying83 h
 simp only [cellsOf_sz, sz83] at hl
 simp only [List.mem_cons, List.not_mem_nil, or_false, forall_eq_or_imp, forall_eq, cellsOf_sz, sz3, sz81] at hf
 match cs, hl, hf with
 | [c0, c1, c2, c3], _, ⟨⟨y0, h0⟩, ⟨y1, h1⟩, ⟨y2, h2⟩, ⟨y3, h3⟩⟩ =>
   obtain ⟨n0, e0⟩ := rd_int Tryz.underlying3 h0
   obtain ⟨n1, e1⟩ := rd_int Tryz.underlying3 h1
   obtain ⟨n2, e2⟩ := rd_int Tryz.underlying3 h2
   obtain ⟨l, u, e3, r3⟩ := rd_slice (s := 11) (f := Action.enc) Tryz.underlying81 (by kernel_rfl) (by omega) Action.len rdAction h3
   simp at e0 e1 e2 e3
   subst e0 e1 e2 e3
   exact ⟨⟨n0, n1, n2, l⟩, RelL.cons (by simp [Rel]) (RelL.cons (by simp [Rel]) (RelL.cons (by simp [Rel]) (RelL.cons r3 RelL.nil))),
     (Ones.append (vs := [_, _, _]) (by simp [Ones, Value.oneCell']) (Ones.single (one_of_sl r3)))⟩
theorem rdGroupMod {w : World} {H : Type} {enc : TypeId × Value → H} {sp : Nat → Bool} {held : Bool} : Rd enc Tryz.prog w sp held 29 GroupMod.enc := by
 intro fuel cs x h
 obtain ⟨hl, fuel', hf⟩ := trod_struct Tryz.underlying29 h
 simp only [cellsOf_sz, sz29] at hl
 simp only [List.mem_cons, List.not_mem_nil, or_false, forall_eq_or_imp, forall_eq, cellsOf_sz, sz3, sz27] at hf
 match cs, hl, hf with
 | [c0, c1, c2, c3], _, ⟨⟨y0, h0⟩, ⟨y1, h1⟩, ⟨y2, h2⟩, ⟨y3, h3⟩⟩ =>
   obtain ⟨n0, e0⟩ := rd_int Tryz.underlying3 h0
   obtain ⟨n1, e1⟩ := rd_int Tryz.underlying3 h1
   obtain ⟨n2, e2⟩ := rd_int Tryz.underlying3 h2
   obtain ⟨l, u, e3, r3⟩ := rd_slice (s := 4) (f := Bucket.enc) Tryz.underlying27 (by kernel_rfl) (by omega) Bucket.len rdBucket h3
   simp at e0 e1 e2 e3
   subst e0 e1 e2 e3
   exact ⟨⟨n0, n1, n2, l⟩, RelL.cons (by simp [Rel]) (RelL.cons (by simp [Rel]) (RelL.cons (by simp [Rel]) (RelL.cons r3 RelL.nil))),
     (Ones.append (vs := [_, _, _]) (by simp [Ones, Value.oneCell']) (Ones.single (one_of_sl r3)))⟩
end Go.Proofs.YtcccfbjkcahgfaaGreat

namespace Go.Proofs.YtcccfbjkcahgfaaGreat
open Go Go.AI Go.Proofs
structure Need where
 field : Int
 values : List Wide
 deriving DecidableEq, Inhabited
def w64 (x : BitVec 64) : Wide := ⟨0#64, x⟩
def nEth (vs : List (BitVec 64)) : Need := ⟨4, vs.map w64⟩
def nProto (x : BitVec 64) : Need := ⟨9, [w64 x]⟩
def needs (f : Int) : List Need :=
 if f = 6 then [⟨5, []⟩] else if f = 7 ∨ f = 8 ∨ f = 9 then [nEth [0x800#64, 0x86dd#64]] else if f = 10 ∨ f = 11 then [nEth [0x800#64]]
 else if f = 12 ∨ f = 13 then [nEth [0x800#64, 0x86dd#64], nProto 6#64] else if f = 14 ∨ f = 15 then [nEth [0x800#64, 0x86dd#64], nProto 17#64]
 else if f = 16 ∨ f = 17 then [nEth [0x800#64], nProto 1#64] else if f = 18 ∨ f = 19 ∨ f = 20 then [nEth [0x806#64]] else if f = 21 ∨ f = 22 then [nEth [0x86dd#64]]
 else if f = 23 then [nEth [0x8847#64, 0x8848#64]] else []
def mGives (o : Oxm) (n : Need) : Bool := o.field == n.field && (n.values.length == 0 || (!o.masked && n.values.any fun v => o.value == v))
def mMet (l : List Oxm) (f : Int) : Bool := (needs f).all fun n => l.any fun o => mGives o n
def mCheckF : List Oxm → List Oxm → Option Int
 | _, [] => none
 | acc, o :: r => if (acc.any fun p => p.field == o.field) = true then some 10 else if mMet acc o.field = false then some 9 else mCheckF (acc ++ [o]) r
def mCheck (l : List Oxm) : Option Int := mCheckF [] l
def mPad (n : Nat) : Nat := (n + 7) / 8 * 8
def oBytes (o : Oxm) : List (BitVec 8) := (oEnc o).1
def mWhole (l : List Oxm) : List (BitVec 8) := beN 1 2 ++ (beN (4 + (rwFlat oBytes l).length : Nat) 2 ++ (rwFlat oBytes l ++ List.replicate (mPad (4 + (rwFlat oBytes l).length) - (4 + (rwFlat oBytes l).length)) 0#8))
def mFit (l : List Oxm) : Bool := (mCheck l).isNone && l.all Oxm.right
def mEnc (l : List Oxm) : List (BitVec 8) × Int := if mFit l = true ∧ (rwFlat oBytes l).length ≤ 1000 then (mWhole l, 0) else ([], 1)
def oRd (b : List (BitVec 8)) : Oxm × Int × Option (Int × Int) := ((oDec b).1, (oDec b).2.1, if (oDec b).2.2 = 0 then none else some (4, (oDec b).2.2))
def mDec (b : List (BitVec 8)) : List Oxm × Nat × Option (Int × Int) :=
 if b.length < 4 then ([], 0, some (4, 1))
 else if valN ((b.drop 2).take 2) < 4 ∨ b.length < mPad (valN ((b.drop 2).take 2)) then ([], 0, some (4, 1))
 else if ¬ valN ((b.drop 0).take 2) = 1 then ([], 0, some (4, 0))
 else if 1004 < valN ((b.drop 2).take 2) then ([], 0, some (4, 1))
 else match (rwDec oRd ((b.drop 4).take (valN ((b.drop 2).take 2) - 4))).2 with
   | some c => ([], 0, some c)
   | none => match mCheck (rwDec oRd ((b.drop 4).take (valN ((b.drop 2).take 2) - 4))).1 with
     | some c => ([], 0, some (4, c))
     | none => if allZ ((b.drop (valN ((b.drop 2).take 2))).take (mPad (valN ((b.drop 2).take 2)) - valN ((b.drop 2).take 2))) = false then ([], 0, some (4, 1))
       else ((rwDec oRd ((b.drop 4).take (valN ((b.drop 2).take 2) - 4))).1, mPad (valN ((b.drop 2).take 2)), none)
theorem mPad_ge (n : Nat) : n ≤ mPad n ∧ mPad n < n + 8 ∧ mPad n % 8 = 0 := by unfold mPad; omega
theorem oRd_back {b : List (BitVec 8)} {y : Oxm} {n : Int} (h : oRd b = (y, n, none)) : Oxm.right y = true ∧ ∃ k : Nat, n = (k : Int) ∧ 4 ≤ k ∧ k ≤ b.length ∧ oBytes y = b.take k := by
 unfold oRd at h
 obtain ⟨o, m, c, hd⟩ : ∃ o m c, oDec b = (o, m, c) := ⟨_, _, _, rfl⟩
 rw [hd] at h
 simp only [Prod.mk.injEq] at h
 obtain ⟨rfl, rfl, hc⟩ := h
 have h0 : c = 0 := Decidable.byContradiction fun e => by rw [if_neg e] at hc; cases hc
 subst h0
 obtain ⟨hr, k, hk, h4, hl, he⟩ := oDec_back hd
 exact ⟨hr, k, hk, h4, hl, by unfold oBytes; rw [he]⟩
theorem oRd_bytes {o : Oxm} (h : Oxm.right o = true) : 0 < (oBytes o).length ∧ ∀ r, oRd (oBytes o ++ r) = (o, ((oBytes o).length : Int), none) := by
 have hb : ∀ r, oRd (oBytes o ++ r) = (o, ((oBytes o).length : Int), none) := fun r => by
   unfold oRd oBytes
   rw [oEnc_back h r]
   rfl
 refine ⟨?_, hb⟩
 obtain ⟨_, k, hk, h4, _⟩ := oRd_back (hb [])
 omega
theorem mFit_facts {l : List Oxm} (h : mFit l = true) : mCheck l = none ∧ ∀ o, o ∈ l → Oxm.right o = true := by
 unfold mFit at h
 rw [Bool.and_eq_true, List.all_eq_true] at h
 exact ⟨by simpa using h.1, h.2⟩
theorem mEnc_bad1 {l : List Oxm} (h : ¬ (mFit l = true ∧ (rwFlat oBytes l).length ≤ 1000)) : mEnc l = ([], 1) := by unfold mEnc; rw [if_neg h]
theorem mEnc_zero {l : List Oxm} (h : (mEnc l).2 = 0) : mFit l = true ∧ (rwFlat oBytes l).length ≤ 1000 ∧ mEnc l = (mWhole l, 0) := by
 by_cases hh : mFit l = true ∧ (rwFlat oBytes l).length ≤ 1000
 · exact ⟨hh.1, hh.2, by unfold mEnc; rw [if_pos hh]⟩
 · rw [mEnc_bad1 hh] at h; cases h
theorem mWhole_len (l : List Oxm) : (mWhole l).length = mPad (4 + (rwFlat oBytes l).length) := by
 have := mPad_ge (4 + (rwFlat oBytes l).length)
 unfold mWhole; simp [beN_len]; omega
theorem mEnc_len (l : List Oxm) : (mEnc l).1.length ≤ 1012 := by
 unfold mEnc
 split
 · rename_i h
   have := mPad_ge (4 + (rwFlat oBytes l).length)
   simp only [mWhole_len]; omega
 · simp
theorem mDec_back {b : List (BitVec 8)} {l : List Oxm} {n : Nat} (h : mDec b = (l, n, none)) : n ≤ b.length ∧ 8 ≤ n ∧ n % 8 = 0 ∧ mEnc l = (b.take n, 0) ∧ l.length * 4 ≤ b.length := by
 unfold mDec at h
 split at h
 · cases h
 rename_i c0
 have l0 : ((b.drop 0).take 2).length = 2 := by simp; omega
 have l1 : ((b.drop 2).take 2).length = 2 := by simp; omega
 have e0 := beN_valN 2 _ l0
 have e1 := beN_valN 2 _ l1
 obtain ⟨m, hm⟩ : ∃ m, valN ((b.drop 2).take 2) = m := ⟨_, rfl⟩
 rw [hm] at h e1
 split at h
 · cases h
 rename_i c1
 split at h
 · cases h
 rename_i c2
 rw [Decidable.not_not] at c2
 rw [c2] at e0
 split at h
 · cases h
 rename_i c3
 split at h
 · cases h
 split at h
 · cases h
 rename_i hck
 split at h
 · cases h
 rename_i hz
 rw [Bool.not_eq_false] at hz
 simp only [Prod.mk.injEq, and_true] at h
 obtain ⟨hl, rfl⟩ := h
 rename_i hnone _
 have hp := mPad_ge m
 obtain ⟨R, hR⟩ : ∃ R, rwDec oRd ((b.drop 4).take (m - 4)) = R := ⟨_, rfl⟩
 rw [hR] at hl hck hnone
 obtain ⟨l', c⟩ := R
 simp only at hl hck hnone
 subst hl
 subst hnone
 obtain ⟨hr, hf⟩ := rwDec_back (en := oBytes) (ok := fun o => Oxm.right o = true) (fun b y n h => by
   obtain ⟨hr, k, hk, h4, hl, he⟩ := oRd_back h
   exact ⟨hr, k, hk, by omega, hl, he⟩) hR
 have hsl : ((b.drop 4).take (m - 4)).length = m - 4 := by rw [List.length_take, List.length_drop]; omega
 have hfl : (rwFlat oBytes l').length = m - 4 := by rw [hf, hsl]
 have hcnt : l'.length * 4 ≤ (rwFlat oBytes l').length := by
   clear hf hfl hR hck
   induction l' with
   | nil => simp
   | cons o l ih =>
     have ih := ih (fun a ha => hr a (List.mem_cons_of_mem _ ha))
     obtain ⟨_, k, hk, h4, _⟩ := oRd_back ((oRd_bytes (hr o (by simp))).2 [])
     have e : rwFlat oBytes (o :: l) = oBytes o ++ rwFlat oBytes l := rfl
     rw [e, List.length_append, List.length_cons]; omega
 refine ⟨by omega, by omega, hp.2.2, ?_, by omega⟩
 have hfit : mFit l' = true := by
   unfold mFit
   rw [hck, Bool.and_eq_true, List.all_eq_true]
   exact ⟨rfl, hr⟩
 unfold mEnc
 rw [if_pos ⟨hfit, by omega⟩]
 refine Prod.ext ?_ rfl
 simp only
 unfold mWhole
 rw [hfl, show 4 + (m - 4) = m by omega, hf]
 have hzr : List.replicate (mPad m - m) 0#8 = (b.drop m).take (mPad m - m) := by
   rw [allZ_iff] at hz
   rw [hz, List.length_take, List.length_drop, Nat.min_eq_left (by omega)]
 rw [hzr, show beN 1 2 = (b.drop 0).take 2 from e0, e1, List.drop_zero]
 have ta : ∀ p q r s : Nat, r = p + q → (b.drop p).take q ++ (b.drop r).take s = (b.drop p).take (q + s) := fun p q r s e => by subst e; rw [List.take_add, List.drop_drop]
 have t0 : b.take 2 = (b.drop 0).take 2 := by rw [List.drop_zero]
 rw [ta 4 (m - 4) m (mPad m - m) (by omega), ta 2 2 4 _ rfl, t0, ta 0 2 2 _ rfl, List.drop_zero]
 congr 1
 omega

def firstI (p : Nat → Bool) (n : Nat) : Int := match (List.range n).find? p with | some i => i | none => -1
theorem firstI_some {p : Nat → Bool} {n i : Nat} (h : i < n) (hp : p i = true) (hn : ∀ j, j < i → p j = false) : firstI p n = i := by
 unfold firstI
 have : (List.range n).find? p = some i := by
   rw [List.find?_range_eq_some]
   exact ⟨hp, by simpa using h, fun j hj => by simp [hn j hj]⟩
 rw [this]
theorem firstI_none {p : Nat → Bool} {n : Nat} (hn : ∀ j, j < n → p j = false) : firstI p n = -1 := by
 unfold firstI
 have : (List.range n).find? p = none := by
   rw [List.find?_range_eq_none]
   exact fun i hi => by simp [hn i hi]
 rw [this]
theorem firstI_ge (p : Nat → Bool) (n : Nat) : decide (0 ≤ firstI p n) = (List.range n).any p := by
 unfold firstI
 cases h : (List.range n).find? p with
 | none =>
   rw [List.find?_range_eq_none] at h
   have : (List.range n).any p = false := by rw [List.any_eq_false]; intro x hx; have := h x (by simpa using hx); simpa using this
   simp [this]
 | some i =>
   rw [List.find?_range_eq_some] at h
   have : (List.range n).any p = true := List.any_eq_true.2 ⟨i, h.2.1, h.1⟩
   simp [this]
structure Tst (x : AV) (p : Flow → Bool) : Prop where
 f : ∃ fid caps, x = .fn fid caps ∧ ClL caps = true ∧ ∀ f, FPl f → FnP Tryz.prog fid (.agg f.enc :: caps) (.bool (p f))

theorem Tst.congr {x : AV} {p q : Flow → Bool} (h : Tst x p) (e : ∀ f, p f = q f) : Tst x q := by
 have : p = q := funext e
 rw [← this]; exact h

theorem intL_take {l : List Int} {i : Nat} (h : i < l.length) : intL (l.take (i + 1)) = intL (l.take i) ++ [.int .i64 (nth l i)] := by rw [take_nth h]; simp [intL]

def bare (m : FlowMod) : FlowMod := { m with cookieMask := 0#64, outPort := 4294967295, outGroup := 4294967295 }

theorem intL_nil : intL [] = [] := rfl
def hF : Header := fun i => if i = 0 then ⟨0#64, 1#64⟩ else wideZ
def ahead (k : Int → Int) (x y : Int) : Prop := k y < k x ∨ k x = k y ∧ x < y

def ro (f : Nat → Int) (n : Nat) : List Int := (List.range n).map f
@[simp] theorem ro_len (f : Nat → Int) (n : Nat) : (ro f n).length = n := by simp [ro]

def Srt (k : Int → Int) (f : Nat → Int) (a b : Nat) : Prop := ∀ x y, a ≤ x → x < y → y < b → ahead k (f x) (f y)

def Blk (k : Int → Int) (g : Nat → Int) (lo hi : Nat) : Prop := Srt k g lo hi ∧ ∀ x, lo ≤ x → x < hi → (lo : Int) ≤ g x ∧ g x < hi
theorem Blk.same {k : Int → Int} {g g' : Nat → Int} {lo hi : Nat} (h : Blk k g lo hi) (e : ∀ x, lo ≤ x → x < hi → g' x = g x) : Blk k g' lo hi :=
 ⟨fun x y i1 i2 i3 => by rw [e x i1 (by omega), e y (by omega) i3]; exact h.1 x y i1 i2 i3, fun x i1 i2 => by rw [e x i1 i2]; exact h.2 x i1 i2⟩

structure F3 where
 is : Bool
 ty : Int
 code : Int
 deriving DecidableEq
def F3.enc (f : F3) : List AV := [.bool f.is, .int .i64 f.ty, .int .i64 f.code]
def F3.zero : F3 := ⟨false, 0, 0⟩
@[simp] theorem F3.len (f : F3) : f.enc.length = 3 := rfl
@[simp] theorem F3.cl (f : F3) : ClL f.enc = true := by simp [F3.enc, ClL, Cl]
@[simp] theorem F3.ne (f : F3) : (f.enc = []) = False := by simp [F3.enc]
@[simp] theorem F3.take (f : F3) : f.enc.take 3 = f.enc := rfl
@[simp] theorem F3.drop (f : F3) : f.enc.drop 3 = [] := rfl

theorem takenF (n : Nat) : taken (fun _ => false) n = if n = 0 then 0 else 1 := by cases n <;> rfl

theorem eqBy_refl {α : Type} [Inhabited α] {p : α → α → Bool} (h : ∀ x, p x x = true) (l : List α) : eqBy p l l = true := by unfold eqBy; simp [h]
end Go.Proofs.YtcccfbjkcahgfaaGreat
