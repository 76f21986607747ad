/- Parts of a match: from the bytes back to the part, and the other way round. -/
import Derived.Test.YtbncoeoamjcjjaaWk5
import Derived.Test.YtbncoeoamjcjjaaAf
set_option linter.all false
set_option linter.unnecessarySimpa false
section
set_option linter.unusedVariables false
set_option linter.unusedSimpArgs false
namespace Go.Proofs.Ytbncoeoamjcjjaa
open Go Go.AI Go.Proofs

theorem fIndex_all : ((List.range 24).all fun f => decide (fIndex (fID (f : Int)) = ((f : Int), true))) = true := by kernel_rfl
theorem fIndex_ID {f : Int} (h : fRight f = true) : fIndex (fID f) = (f, true) := by
  unfold fRight at h
  rw [Bool.and_eq_true, decide_eq_true_eq, decide_eq_true_eq] at h
  obtain ⟨n, rfl⟩ : ∃ n : Nat, f = n := ⟨f.toNat, by omega⟩
  have := List.all_eq_true.1 fIndex_all n (by simp; omega)
  simpa using this
theorem fIndex_back {id : Int} (h : (fIndex id).2 = true) : fID (fIndex id).1 = id ∧ fRight (fIndex id).1 = true := by
  unfold fIndex at h ⊢
  cases hf : fIndexN id 24 with
  | none => rw [hf] at h; cases h
  | some f =>
    unfold fIndexN at hf
    have h1 := List.find?_some hf
    have h2 := List.mem_of_find?_eq_some hf
    rw [List.mem_range] at h2
    simp only [beq_iff_eq] at h1
    refine ⟨?_, ?_⟩
    · show fID (f : Int) = id
      unfold fID; rw [fRow_nat f h2]; exact h1
    · unfold fRight; simp; omega
theorem putN_one {b : List (BitVec 8)} {n : Int} (h0 : 0 ≤ n) (h : n < 256) : putN b n 1 = b ++ [BitVec.ofInt 8 n] := by
  unfold putN
  rw [if_pos (by rw [numOk_iff]; omega)]
  congr 1
  show [BitVec.ofInt 8 (n / 2 ^ (8 * (1 - 1 - 0)))] = _
  rw [show 8 * (1 - 1 - 0) = 0 from rfl, Int.pow_zero, Int.ediv_one]
theorem fID_range {f : Int} (h : fRight f = true) : 0 ≤ fID f ∧ fID f ≤ 34 := by
  unfold fRight at h
  rw [Bool.and_eq_true, decide_eq_true_eq, decide_eq_true_eq] at h
  unfold fID fRow
  rw [if_pos ⟨h.1, h.2⟩]
  have hl : f.toNat < fRows.length := by show f.toNat < 24; omega
  have : ∀ r, r ∈ fRows → 0 ≤ r.1 ∧ r.1 ≤ 34 := by decide
  exact this _ (nth_mem hl)
theorem oHead_eq {o : Oxm} (h : fRight o.field = true) : oHead o = [128#8, 0#8, BitVec.ofInt 8 (oNum o), BitVec.ofInt 8 (oBody o).length] := by
  have hr := fID_range h
  have hn : 0 ≤ oNum o ∧ oNum o < 256 := by unfold oNum; split <;> omega
  have hb := oBody_len o
  have hs := fSize_le o.field
  have hb2 : (oBody o).length ≤ 32 := by rw [hb]; split <;> omega
  unfold oHead
  rw [putN_one (n := ((oBody o).length : Int)) (by omega) (by omega), putN_one hn.1 hn.2]
  rfl
theorem toNat_ofInt8 {n : Int} (h0 : 0 ≤ n) (h : n < 256) : (BitVec.ofInt 8 n).toNat = n.toNat := by
  rw [BitVec.toNat_ofInt]; omega
theorem ofInt8_nat (x : BitVec 8) : BitVec.ofInt 8 (x.toNat : Int) = x := by
  apply BitVec.eq_of_toNat_eq; have := x.isLt; rw [toNat_ofInt8 (by omega) (by omega)]; omega
theorem zero_wide {w : Wide} (h : w.zero = true) : w = wideZ := by
  rw [Wide.zero_iff] at h
  obtain ⟨a, b⟩ := w
  simp only at h
  rw [h.1, h.2]; rfl
structure ORight (o : Oxm) : Prop where
  field : fRight o.field = true
  masks : o.masked = true → fMasks o.field = true
  mask0 : o.masked = false → o.mask = wideZ
  form : Oxm.form o = 0
  value : Oxm.beyond o o.value = false
  mask : o.masked = true → Oxm.beyond o o.mask = false
theorem oRight_facts {o : Oxm} (h : Oxm.right o = true) : ORight o := by
  unfold Oxm.right at h
  rw [Bool.and_eq_true, Bool.not_eq_true', Bool.or_eq_false_iff, Bool.or_eq_false_iff, Bool.not_eq_false', beq_iff_eq] at h
  obtain ⟨⟨h1, h2, h3⟩, h4⟩ := h
  have hv : Oxm.beyond o o.value = false := by
    cases hb : Oxm.beyond o o.value
    · rfl
    · unfold Oxm.form at h4; rw [hb, if_pos rfl] at h4; cases h4
  refine ⟨h1, fun hm => ?_, fun hm => ?_, h4, hv, fun hm => ?_⟩
  · rw [hm] at h2; simpa using h2
  · rw [hm] at h3; exact zero_wide (by simpa using h3)
  · unfold Oxm.form at h4
    rw [hv, hm] at h4
    cases hb : Oxm.beyond o o.mask
    · rfl
    · rw [hb] at h4; simp at h4
theorem oRight_of {o : Oxm} (h1 : fRight o.field = true) (h2 : o.masked = true → fMasks o.field = true) (h3 : o.masked = false → o.mask = wideZ) (h4 : Oxm.form o = 0) : Oxm.right o = true := by
  unfold Oxm.right
  rw [h1, h4]
  cases hm : o.masked
  · rw [h3 hm]; rfl
  · rw [h2 hm]; rfl
theorem oNum_div (o : Oxm) (h : fRight o.field = true) : (oNum o).toNat / 2 = (fID o.field).toNat ∧ ((oNum o).toNat % 2 == 1) = o.masked ∧ 0 ≤ oNum o ∧ oNum o < 256 := by
  have hr := fID_range h
  unfold oNum
  cases o.masked
  · refine ⟨?_, ?_, ?_, ?_⟩
    · simp only [Bool.false_eq_true, if_false]; omega
    · simp only [Bool.false_eq_true, if_false]; rw [beq_eq_false_iff_ne]; omega
    · simp only [Bool.false_eq_true, if_false]; omega
    · simp only [Bool.false_eq_true, if_false]; omega
  · refine ⟨?_, ?_, ?_, ?_⟩
    · simp only [if_true]; omega
    · simp only [if_true]; rw [beq_iff_eq]; omega
    · simp only [if_true]; omega
    · simp only [if_true]; omega
theorem oEnc_back {o : Oxm} (h : Oxm.right o = true) (r : List (BitVec 8)) : oDec ((oEnc o).1 ++ r) = (o, ((oEnc o).1.length : Int), 0) := by
  have hf := oRight_facts h
  have hs := fSize_le o.field
  have hbl := oBody_len o
  have hb2 : (oBody o).length ≤ 32 := by rw [hbl]; split <;> omega
  have hh := oHead_eq hf.field
  obtain ⟨n1, n2, n3, n4⟩ := oNum_div o hf.field
  have hid := fID_range hf.field
  have e : (oEnc o).1 ++ r = 128#8 :: 0#8 :: BitVec.ofInt 8 (oNum o) :: BitVec.ofInt 8 (oBody o).length :: (oBody o ++ r) := by
    unfold oEnc; rw [if_pos h, hh]; simp
  have hel : (oEnc o).1.length = 4 + (oBody o).length := by unfold oEnc; rw [if_pos h, hh]; simp; omega
  obtain ⟨B, hB⟩ : ∃ B, (oEnc o).1 ++ r = B := ⟨_, rfl⟩
  have hBl : B.length = 4 + (oBody o).length + r.length := by rw [← hB, List.length_append, hel]
  rw [hB] at e ⊢
  rw [hel]
  have b0 : bAt B 0 = 128 := by rw [e]; rfl
  have b1 : bAt B 1 = 0 := by rw [e]; rfl
  have b2 : bAt B 2 = (oNum o).toNat := by
    rw [e]; show (BitVec.ofInt 8 (oNum o)).toNat = _; exact toNat_ofInt8 n3 n4
  have b3 : bAt B 3 = (oBody o).length := by
    rw [e]; show (BitVec.ofInt 8 ((oBody o).length : Int)).toNat = _; rw [toNat_ofInt8 (by omega) (by omega)]; omega
  have d4 : B.drop 4 = oBody o ++ r := by rw [e]; rfl
  clear e hB
  have hF : hField B = (o.field, true) := by
    unfold hField; rw [b2, n1, show (((fID o.field).toNat : Nat) : Int) = fID o.field by omega]; exact fIndex_ID hf.field
  have hM : hMasked B = o.masked := by unfold hMasked; rw [b2]; exact n2
  have hW : hWant B = (oBody o).length := by
    unfold hWant; rw [hM, hF, hbl]; split
    · simp only; omega
    · rfl
  have hC : hCode B = 0 := by
    unfold hCode
    rw [if_neg (by omega), if_neg (by omega), b0, b1, hF, hM, b3, hW]
    have hm : (o.masked && !fMasks o.field) = false := by
      cases hm : o.masked
      · rfl
      · rw [hf.masks hm]; rfl
    simp [hm]
  have hR : oRead B = o := by
    have hv := within_size hf.value
    unfold oRead
    rw [hF, hM, d4]
    simp only
    have hdd : B.drop (4 + fSize o.field) = (oBody o ++ r).drop (fSize o.field) := by rw [← d4, List.drop_drop]
    rw [hdd]
    cases hm : o.masked
    · have hz := hf.mask0 hm
      have hob : oBody o = beN (wN o.value) (fSize o.field) := by unfold oBody; rw [hm]; exact (wPut_beN _ _ _ hs).trans (List.nil_append _)
      rw [hob, wGet_beN _ _ _ hs hv]
      obtain ⟨a1, a2, a3, a4⟩ := o
      simp only at hm hz ⊢
      rw [hm, hz]; rfl
    · have hmk := within_size (hf.mask hm)
      have hob : oBody o = beN (wN o.value) (fSize o.field) ++ beN (wN o.mask) (fSize o.field) := by
        unfold oBody; rw [hm, if_pos rfl, wPut_beN _ _ _ hs, wPut_beN _ _ _ hs, List.nil_append]
      rw [hob, List.append_assoc, wGet_beN _ _ _ hs hv, if_pos rfl, List.drop_append_of_le_length (by rw [beN_len]; omega), List.drop_of_length_le (by rw [beN_len]; omega), List.nil_append, wGet_beN _ _ _ hs hmk]
      obtain ⟨a1, a2, a3, a4⟩ := o
      simp only at hm ⊢
      rw [hm]
  unfold oDec
  rw [if_pos hC, hR, if_pos hf.form, b3]
  congr 1
theorem oDec_back {b : List (BitVec 8)} {o : Oxm} {n : Int} (h : oDec b = (o, n, 0)) : Oxm.right o = true ∧ ∃ k : Nat, n = (k : Int) ∧ 4 ≤ k ∧ k ≤ b.length ∧ oEnc o = (b.take k, 0) := by
  unfold oDec at h
  split at h
  case isFalse hc => simp only [Prod.mk.injEq] at h; exact absurd h.2.2 hc
  rename_i hc
  split at h
  case isFalse hfm => simp only [Prod.mk.injEq] at h; exact absurd h.2.2 hfm
  rename_i hfm
  simp only [Prod.mk.injEq, and_true] at h
  obtain ⟨rfl, rfl⟩ := h
  have l2 := bAt_lt b 2
  have l3 := bAt_lt b 3
  unfold hCode at hc
  split at hc
  · cases hc
  rename_i c1
  split at hc
  · cases hc
  rename_i c2
  split at hc
  · cases hc
  rename_i c3
  split at hc
  · cases hc
  rename_i c4
  split at hc
  · cases hc
  rename_i c5
  simp only [Bool.or_eq_true, bne_iff_ne, ne_eq, Bool.not_eq_true', not_or, Decidable.not_not, Bool.not_eq_false, Bool.and_eq_true, not_and] at c3 c4 c5
  obtain ⟨b0, b1, hF2⟩ := c3
  have hfb := fIndex_back (id := ((bAt b 2 / 2 : Nat) : Int)) hF2
  have hff : (oRead b).field = (hField b).1 := rfl
  have hfm2 : (oRead b).masked = hMasked b := rfl
  have hr : Oxm.right (oRead b) = true := oRight_of hfb.2 (fun hm => c4 hm) (fun hm => by
    have hm' : hMasked b = false := hm
    unfold oRead; simp only [hm']; rfl) hfm
  refine ⟨hr, 4 + bAt b 3, by omega, by omega, by omega, ?_⟩
  have hs := fSize_le (hField b).1
  have hbl := oBody_len (oRead b)
  have hlen : (oBody (oRead b)).length = bAt b 3 := by
    rw [hbl, hff, hfm2, c5]; unfold hWant; split
    · omega
    · rfl
  have hnum : oNum (oRead b) = (bAt b 2 : Int) := by
    have e1 : fID (hField b).1 = ((bAt b 2 / 2 : Nat) : Int) := hfb.1
    unfold oNum; rw [hff, hfm2, e1]
    unfold hMasked
    split
    · rename_i hm; rw [beq_iff_eq] at hm; omega
    · rename_i hm; rw [beq_iff_eq] at hm; omega
  have hbody : oBody (oRead b) = (b.drop 4).take (bAt b 3) := by
    have hdl : (b.drop 4).length = b.length - 4 := List.length_drop
    unfold oBody
    rw [hff, hfm2]
    cases hm : hMasked b
    · have hw : bAt b 3 = fSize (hField b).1 := by rw [c5]; unfold hWant; rw [hm]; rfl
      show wPut [] (wGet (b.drop 4) (fSize (hField b).1)).1 (fSize (hField b).1) = _
      rw [wPut_wGet _ _ _ hs (by rw [hdl]; omega), List.nil_append, hw]
    · have hw : bAt b 3 = fSize (hField b).1 * 2 := by rw [c5]; unfold hWant; rw [hm]; rfl
      have ev : (oRead b).value = (wGet (b.drop 4) (fSize (hField b).1)).1 := rfl
      have em : (oRead b).mask = (wGet (b.drop (4 + fSize (hField b).1)) (fSize (hField b).1)).1 := by unfold oRead; rw [hm]; rfl
      rw [if_pos rfl, ev, em, wPut_wGet _ _ _ hs (by rw [List.length_drop]; omega), wPut_wGet _ _ _ hs (by rw [List.length_drop]; omega), List.nil_append, hw, ← List.drop_drop,
        show fSize (hField b).1 * 2 = fSize (hField b).1 + fSize (hField b).1 by omega, List.take_add]
  have hb4 : b.take 4 = [128#8, 0#8, nth b 2, nth b 3] := by
    match b, c1, b0, b1 with
    | x0 :: x1 :: x2 :: x3 :: r, _, b0, b1 =>
      have e0 : x0 = 128#8 := BitVec.eq_of_toNat_eq b0
      have e1 : x1 = 0#8 := BitVec.eq_of_toNat_eq b1
      rw [e0, e1]; rfl
    | [], c1, _, _ => simp at c1
    | [_], c1, _, _ => simp at c1
    | [_, _], c1, _, _ => simp at c1
    | [_, _, _], c1, _, _ => simp at c1
  unfold oEnc
  rw [if_pos hr, oHead_eq hfb.2, hnum, hlen, hbody, List.take_add, hb4]
  have e2 : BitVec.ofInt 8 (bAt b 2 : Int) = nth b 2 := ofInt8_nat _
  have e3 : BitVec.ofInt 8 (bAt b 3 : Int) = nth b 3 := ofInt8_nat _
  rw [e2, e3]
end Go.Proofs.Ytbncoeoamjcjjaa
end

section
set_option linter.unusedVariables false
set_option linter.unusedSimpArgs false
namespace Go.Proofs.Ytbncoeoamjcjjaa
open Go Go.AI Go.Proofs

theorem allZ_iff (l : List (BitVec 8)) : allZ l = true ↔ l = List.replicate l.length 0#8 := by
  unfold allZ
  rw [List.all_eq_true, List.eq_replicate_iff]
  simp
theorem allZ_rep (n : Nat) : allZ (List.replicate n 0#8) = true := by rw [allZ_iff]; simp
theorem putN_beN {b : List (BitVec 8)} {n : Int} {s : Nat} (h : numOk n s = true) : putN b n s = b ++ beN n s := by unfold putN; rw [h, if_pos rfl]
theorem getN_at {E x z : List (BitVec 8)} {v : Int} {p s : Nat} (h : E = x ++ (beN v s ++ z)) (hx : x.length = p) (hv : numOk v s = true) : getN E p s = (v, 0) := by
  rw [numOk_iff] at hv
  unfold getN
  rw [h, if_pos (by simp [beN_len, hx]), List.drop_append_of_le_length (by omega), List.drop_of_length_le (by omega), List.nil_append, List.take_append_of_le_length (by rw [beN_len]; omega),
    List.take_of_length_le (by rw [beN_len]; omega), valN_beN s v hv.1 hv.2]
theorem getN_val {b : List (BitVec 8)} {p s : Nat} (h : p + s ≤ b.length) : getN b p s = ((valN ((b.drop p).take s) : Int), 0) := by unfold getN; rw [if_pos h]
theorem aLen_mod (n : Nat) : aLen n % 8 = 0 := by unfold aLen; split <;> omega
theorem numOk2 {n : Nat} (h : n < 65536) : numOk (n : Int) 2 = true := by rw [numOk_iff]; exact ⟨by omega, by show (n : Int) < 65536; omega⟩
/-- what has a kind and a length ahead of the rest -/
theorem aHead {k n : Nat} {p r : List (BitVec 8)} (hk : k < 65536) (hn : n < 65536) (hp : 4 + p.length = n) (h8 : 8 ≤ n) :
    putN (putN [] (k : Int) 2) (n : Int) 2 = beN k 2 ++ beN n 2 ∧ aK (putN (putN [] (k : Int) 2) (n : Int) 2 ++ p ++ r) = k ∧ aN (putN (putN [] (k : Int) 2) (n : Int) 2 ++ p ++ r) = n ∧
    (putN (putN [] (k : Int) 2) (n : Int) 2 ++ p ++ r).take n = putN (putN [] (k : Int) 2) (n : Int) 2 ++ p := by
  have e : putN (putN [] (k : Int) 2) (n : Int) 2 = beN k 2 ++ beN n 2 := by rw [putN_beN (numOk2 hk), putN_beN (numOk2 hn), List.nil_append]
  have hl : (beN (k : Int) 2 ++ beN (n : Int) 2).length = 4 := by simp [beN_len]
  have hb : 8 ≤ (beN (k : Int) 2 ++ beN (n : Int) 2 ++ p ++ r).length := by rw [List.length_append, List.length_append, hl]; omega
  refine ⟨e, ?_, ?_, ?_⟩
  · rw [e]
    have h1 := aK_get _ hb
    have h0 := getN_at (E := beN (k : Int) 2 ++ beN (n : Int) 2 ++ p ++ r) (x := []) (v := (k : Int)) (p := 0) (s := 2) (z := beN (n : Int) 2 ++ (p ++ r)) (by simp) rfl (numOk2 hk)
    rw [h0] at h1
    simp only [Prod.mk.injEq, and_true] at h1; omega
  · rw [e]
    have h1 := aN_get _ hb
    have h0 := getN_at (E := beN (k : Int) 2 ++ beN (n : Int) 2 ++ p ++ r) (x := beN (k : Int) 2) (v := (n : Int)) (p := 2) (s := 2) (z := p ++ r) (by simp) (beN_len _ _) (numOk2 hn)
    rw [h0] at h1
    simp only [Prod.mk.injEq, and_true] at h1; omega
  · rw [e, List.take_append_of_le_length (by rw [List.length_append, hl]; omega), List.take_of_length_le (by rw [List.length_append, hl]; omega)]
theorem right_bare {a : Action} (h : Action.right a = true) : a = Action.bare a := by
  unfold Action.right at h
  rw [Bool.and_eq_true, beq_iff_eq] at h; exact h.2
theorem right_fine {a : Action} (h : Action.right a = true) : Action.fine a = true := by
  unfold Action.right at h
  rw [Bool.and_eq_true] at h; exact h.1
set_option maxHeartbeats 1000000 in
theorem aEnc_back {a : Action} (h : Action.right a = true) (r : List (BitVec 8)) : aDec ((aEnc a).1 ++ r) = (a, ((aEnc a).1.length : Int), none) := by
  have hcs := right_cases h
  have hk : ∃ k : Nat, a.kind = (k : Int) ∧ k < 65536 := by
    rcases hcs with h | h | h | h | h <;> first | exact ⟨a.kind.toNat, by omega, by omega⟩
  obtain ⟨k, hk, hk2⟩ := hk
  have hbl := aBody_len a
  have hn2 := aLen_le _ hbl
  have hpl := aPad_len a
  have hge := aLen_ge (aBody a).length
  have hmod := aLen_mod (aBody a).length
  have e : (aEnc a).1 = putN (putN [] (k : Int) 2) (aLen (aBody a).length : Nat) 2 ++ aPad a := by unfold aEnc; rw [if_pos h, hk]
  obtain ⟨n, hn⟩ : ∃ n, aLen (aBody a).length = n := ⟨_, rfl⟩
  rw [hn] at e hn2 hpl hge hmod
  obtain ⟨hh, h1, h2, h3⟩ := aHead (k := k) (n := n) (p := aPad a) (r := r) hk2 (by omega) hpl (by omega)
  rw [← e] at h1 h2 h3
  have hEl : (aEnc a).1.length = n := by rw [e, hh]; simp [beN_len]; omega
  have hE : (aEnc a).1 = beN k 2 ++ beN n 2 ++ aPad a := by rw [e, hh]
  have hpad : aPad a = aBody a ++ List.replicate (n - 4 - (aBody a).length) 0#8 := by unfold aPad; rw [hn]
  obtain ⟨E, hEE⟩ : ∃ E, (aEnc a).1 = E := ⟨_, rfl⟩
  rw [hEE] at h1 h2 h3 hEl hE ⊢
  have hd4 : E.drop 4 = aPad a := by rw [hE, List.drop_append_of_le_length (by simp [beN_len]), List.drop_of_length_le (by simp [beN_len]), List.nil_append]
  have hdb : E.drop (4 + (aBody a).length) = List.replicate (n - 4 - (aBody a).length) 0#8 := by
    rw [← List.drop_drop, hd4, hpad, List.drop_append_of_le_length (Nat.le_refl _), List.drop_of_length_le (Nat.le_refl _), List.nil_append]
  rw [aDec, if_neg (by rw [List.length_append]; omega), h2, if_neg (by rw [List.length_append]; omega), h1, h3, hEl]
  have hgo := right_fine h
  have hba := right_bare h
  clear e hEE h1 h2 h3 hh
  obtain ⟨kind, port, max, group, ether, oxm⟩ := a
  simp only at hk hcs
  subst hk
  rcases hcs with ⟨hk, p1, p2⟩ | ⟨hk, p1⟩ | ⟨hk, p1⟩ | hk | ⟨hk, p1⟩
  · have : k = 0 := by omega
    subst this
    have eb : aBody ⟨((0 : Nat) : Int), port, max, group, ether, oxm⟩ = beN port 4 ++ beN max 2 := by
      show putN (putN [] port 4) max 2 = _
      rw [putN_beN p1, putN_beN p2, List.nil_append]
    rw [eb] at hpad hdb hn
    have hl6 : (beN port 4 ++ beN max 2).length = 6 := by simp [beN_len]
    rw [hl6] at hpad hdb hn
    have h16 : n = 16 := by rw [← hn]; rfl
    subst h16
    have g1 : getN E 4 4 = (port, 0) := getN_at (x := beN ((0 : Nat) : Int) 2 ++ beN ((16 : Nat) : Int) 2) (z := beN max 2 ++ List.replicate 6 0#8) (by rw [hE, hpad]; try simp) (by simp [beN_len]) p1
    have g2 : getN E 8 2 = (max, 0) := getN_at (x := beN ((0 : Nat) : Int) 2 ++ beN ((16 : Nat) : Int) 2 ++ beN port 4) (z := List.replicate 6 0#8) (by rw [hE, hpad]; try simp) (by simp [beN_len]) p2
    have hof : aOf ((0 : Nat) : Int) E = ⟨0, port, max, 0, 0, oxm0⟩ := by unfold aOf; rw [if_pos (by decide), g1, g2]
    have hge : aGoes port = true := by
      have : (aGoes port && aMost ⟨((0 : Nat) : Int), port, max, group, ether, oxm⟩) = true := hgo
      rw [Bool.and_eq_true] at this; exact this.1
    have hb' : (⟨((0 : Nat) : Int), port, max, group, ether, oxm⟩ : Action) = ⟨0, port, max, 0, 0, oxm0⟩ := hba
    rw [if_neg (by decide), if_neg (by decide), if_neg (by show ¬ ¬ 16 = 16; decide)]
    rw [if_pos (by show allZ (E.drop 10) = true; rw [hdb]; exact allZ_rep _)]
    unfold aPlain
    rw [if_neg (by rw [g1]; simp [hge]), hof, ← hb', if_pos h, hEl]
  · have : k = 22 := by omega
    subst this
    have eb : aBody ⟨((22 : Nat) : Int), port, max, group, ether, oxm⟩ = beN group 4 := by
      show putN [] group 4 = _
      rw [putN_beN p1, List.nil_append]
    rw [eb] at hpad hdb hn
    rw [beN_len] at hpad hdb hn
    have h16 : n = 8 := by rw [← hn]; rfl
    subst h16
    have g1 : getN E 4 4 = (group, 0) := getN_at (x := beN ((22 : Nat) : Int) 2 ++ beN ((8 : Nat) : Int) 2) (z := []) (by rw [hE, hpad]; try simp) (by simp [beN_len]) p1
    have hof : aOf ((22 : Nat) : Int) E = ⟨22, 0, 0, group, 0, oxm0⟩ := by unfold aOf; rw [if_neg (by decide), if_pos (by decide), g1]
    have hb' : (⟨((22 : Nat) : Int), port, max, group, ether, oxm⟩ : Action) = ⟨22, 0, 0, group, 0, oxm0⟩ := hba
    rw [if_neg (by decide), if_neg (by decide), if_neg (by show ¬ ¬ 8 = 8; decide)]
    rw [if_pos (by show allZ (E.drop 8) = true; rw [hdb]; exact allZ_rep _)]
    unfold aPlain
    rw [if_neg (by simp), hof, ← hb', if_pos h, hEl]
  · have : k = 17 := by omega
    subst this
    have eb : aBody ⟨((17 : Nat) : Int), port, max, group, ether, oxm⟩ = beN ether 2 := by
      show putN [] ether 2 = _
      rw [putN_beN p1, List.nil_append]
    rw [eb] at hpad hdb hn
    rw [beN_len] at hpad hdb hn
    have h16 : n = 8 := by rw [← hn]; rfl
    subst h16
    have g1 : getN E 4 2 = (ether, 0) := getN_at (x := beN ((17 : Nat) : Int) 2 ++ beN ((8 : Nat) : Int) 2) (z := List.replicate 2 0#8) (by rw [hE, hpad]; try simp) (by simp [beN_len]) p1
    have hof : aOf ((17 : Nat) : Int) E = ⟨17, 0, 0, 0, ether, oxm0⟩ := by unfold aOf; rw [if_neg (by decide), if_neg (by decide), if_pos (by decide), g1]
    have hb' : (⟨((17 : Nat) : Int), port, max, group, ether, oxm⟩ : Action) = ⟨17, 0, 0, 0, ether, oxm0⟩ := hba
    rw [if_neg (by decide), if_neg (by decide), if_neg (by show ¬ ¬ 8 = 8; decide)]
    rw [if_pos (by show allZ (E.drop 6) = true; rw [hdb]; exact allZ_rep _)]
    unfold aPlain
    rw [if_neg (by simp), hof, ← hb', if_pos h, hEl]
  · have : k = 18 := by omega
    subst this
    have eb : aBody ⟨((18 : Nat) : Int), port, max, group, ether, oxm⟩ = [] := rfl
    rw [eb] at hpad hdb hn
    have h16 : n = 8 := by rw [← hn]; rfl
    subst h16
    have hof : aOf ((18 : Nat) : Int) E = ⟨18, 0, 0, 0, 0, oxm0⟩ := by unfold aOf; rw [if_neg (by decide), if_neg (by decide), if_neg (by decide)]; rfl
    have hb' : (⟨((18 : Nat) : Int), port, max, group, ether, oxm⟩ : Action) = ⟨18, 0, 0, 0, 0, oxm0⟩ := hba
    rw [if_neg (by decide), if_neg (by decide), if_neg (by show ¬ ¬ 8 = 8; decide)]
    rw [if_pos (by show allZ (E.drop 4) = true; exact (congrArg allZ hdb).trans (allZ_rep _))]
    unfold aPlain
    rw [if_neg (by simp), hof, ← hb', if_pos h, hEl]
  · have : k = 25 := by omega
    subst this
    have eb : aBody ⟨((25 : Nat) : Int), port, max, group, ether, oxm⟩ = (oEnc oxm).1 := rfl
    rw [eb] at hpad hdb hn
    have hob := oEnc_back p1 (List.replicate (n - 4 - (oEnc oxm).1.length) 0#8)
    have ho5 := oEnc_ge p1
    rw [← hpad, ← hd4] at hob
    have hol : oLen (E.drop 4) = (oEnc oxm).1.length := by unfold oLen; rw [hob]; simp
    have hf : (Oxm.right oxm && (!oxm.masked && aSets oxm.field)) = true := hgo
    rw [Bool.and_eq_true, Bool.and_eq_true, Bool.not_eq_true'] at hf
    have hb' : (⟨((25 : Nat) : Int), port, max, group, ether, oxm⟩ : Action) = ⟨25, 0, 0, 0, 0, oxm⟩ := hba
    have hnn : n = (4 + (oEnc oxm).1.length + 7) / 8 * 8 := by rw [← hn]; unfold aLen; split <;> omega
    rw [if_pos rfl]
    unfold aSetD
    rw [hob, hol, hEl, hdb]
    rw [if_neg (by simp), if_neg (by simp), if_pos rfl, if_pos hnn, if_pos (allZ_rep _), if_pos hf.2.2, if_neg (by simp [hf.2.1]), hb']
theorem putN_two {b : List (BitVec 8)} {k n : Nat} (h8 : 4 ≤ b.length) (hk : valN ((b.drop 0).take 2) = k) (hn : valN ((b.drop 2).take 2) = n) : putN (putN [] (k : Int) 2) (n : Int) 2 = b.take 4 := by
  rw [← hk, ← hn, putN_valN (by simp; omega), putN_valN (by simp; omega), List.drop_zero, List.nil_append, show (4 : Nat) = 2 + 2 from rfl, List.take_add]
set_option maxHeartbeats 1000000 in
theorem aDec_back {b : List (BitVec 8)} {y : Action} {n : Int} (h : aDec b = (y, n, none)) : Action.right y = true ∧ ∃ k : Nat, n = (k : Int) ∧ 8 ≤ k ∧ k ≤ b.length ∧ k % 8 = 0 ∧ aEnc y = (b.take k, 0) := by
  rw [aDec] at h
  split at h
  · cases h
  rename_i h8
  split at h
  · cases h
  rename_i c1
  have hNb : aN b ≤ b.length := by omega
  have hNl : (b.take (aN b)).length = aN b := by rw [List.length_take]; omega
  have hN4 : valN (((b.take (aN b)).drop 2).take 2) = aN b := by
    unfold aN at c1 ⊢
    rw [List.drop_take, List.take_take, Nat.min_eq_left (by omega)]
  have hK4 : valN (((b.take (aN b)).drop 0).take 2) = aK b := by
    rw [List.drop_take, List.take_take, Nat.min_eq_left (by omega)]; rfl
  have hlt := aN_lt b (by omega)
  obtain ⟨B, hB⟩ : ∃ B, b.take (aN b) = B := ⟨_, rfl⟩
  obtain ⟨N, hN⟩ : ∃ N, aN b = N := ⟨_, rfl⟩
  obtain ⟨K, hK⟩ : ∃ K, aK b = K := ⟨_, rfl⟩
  rw [hB] at h hNl hN4 hK4
  rw [hN] at h hNl hN4 c1 hNb hlt
  rw [hK] at h hK4
  have hBb : B = b.take N := by rw [← hB, hN]
  have hhead := putN_two (b := B) (k := K) (n := N) (by omega) hK4 hN4
  have fin : ∀ (y : Action), Action.right y = true → y.kind = (K : Int) → (aBody y) ++ List.replicate (N - 4 - (aBody y).length) 0#8 = B.drop 4 → aLen (aBody y).length = N → aEnc y = (b.take N, 0) := by
    intro y hr hk hp hl
    unfold aEnc
    rw [if_pos hr, hk, hl, hhead]
    unfold aPad
    rw [hl, hp, List.take_append_drop, hBb]
  split at h
  · rename_i k25
    subst k25
    unfold aSetD at h
    split at h
    · cases h
    split at h
    · cases h
    split at h
    case isFalse => cases h
    rename_i o1 o6 o0
    split at h
    case isFalse => cases h
    rename_i hl
    split at h
    case isFalse => cases h
    rename_i hz
    split at h
    case isFalse => cases h
    rename_i hs
    split at h
    · cases h
    rename_i hm
    simp only [Prod.mk.injEq, and_true] at h
    obtain ⟨rfl, rfl⟩ := h
    obtain ⟨⟨oo, on, oc⟩, hD⟩ : ∃ D, oDec (B.drop 4) = D := ⟨_, rfl⟩
    rw [hD] at o0 hs hm ⊢
    simp only at o0 hs hm ⊢
    subst o0
    obtain ⟨hor, x, hx, hx4, hxl, hoe⟩ := oDec_back hD
    have hol : oLen (B.drop 4) = x := by unfold oLen; rw [hD]; simp only; omega
    rw [hol] at hl hz
    rw [List.length_drop] at hxl
    have hrr : Action.right ⟨25, 0, 0, 0, 0, oo⟩ = true := by
      have hm' : oo.masked = false := by simpa using hm
      unfold Action.right Action.fine Action.bare
      simp [hor, hm', hs]
    refine ⟨hrr, B.length, rfl, by omega, by omega, by omega, ?_⟩
    rw [hNl]
    have eb : aBody ⟨25, 0, 0, 0, 0, oo⟩ = (B.drop 4).take x := by show (oEnc oo).1 = _; rw [hoe]
    have ebl : (aBody ⟨25, 0, 0, 0, 0, oo⟩).length = x := by rw [eb, List.length_take, List.length_drop]; omega
    refine fin _ hrr rfl ?_ ?_
    · rw [ebl, eb]
      rw [allZ_iff, List.length_drop, hNl] at hz
      rw [show N - 4 - x = N - (4 + x) by omega, ← hz, ← List.drop_drop, List.take_append_drop]
    · rw [ebl]; unfold aLen; split <;> omega
  rename_i k25
  split at h
  · cases h
  rename_i w0
  split at h
  · cases h
  rename_i w1
  split at h
  case isFalse => cases h
  rename_i hz
  unfold aPlain at h
  split at h
  · cases h
  split at h
  case isFalse => cases h
  rename_i hr
  simp only [Prod.mk.injEq, and_true] at h
  obtain ⟨rfl, rfl⟩ := h
  refine ⟨hr, B.length, rfl, by omega, by omega, by omega, ?_⟩
  rw [hNl]
  have hw : N = (aLength (K : Int)).1 := by omega
  have hkk : K = 0 ∨ K = 22 ∨ K = 17 ∨ K = 18 := by
    unfold aLength at w0
    split at w0
    · omega
    split at w0
    · omega
    split at w0
    · omega
    split at w0
    · omega
    · exact absurd rfl w0
  rw [allZ_iff, List.length_drop, hNl] at hz
  rcases hkk with rfl | rfl | rfl | rfl
  · have hN16 : N = 16 := hw
    subst hN16
    have e1 : getN B 4 4 = ((valN ((B.drop 4).take 4) : Int), 0) := getN_val (by omega)
    have e2 : getN B 8 2 = ((valN ((B.drop 8).take 2) : Int), 0) := getN_val (by omega)
    have eb : aBody (aOf ((0 : Nat) : Int) B) = (B.drop 4).take 4 ++ (B.drop 8).take 2 := by
      show putN (putN [] (getN B 4 4).1 4) (getN B 8 2).1 2 = _
      rw [e1, e2, putN_valN (by simp; omega), putN_valN (by simp; omega), List.nil_append]
    have ebl : (aBody (aOf ((0 : Nat) : Int) B)).length = 6 := by rw [eb]; simp; omega
    refine fin _ hr rfl ?_ (by rw [ebl]; rfl)
    have hz' : B.drop 10 = List.replicate 6 0#8 := hz
    have h8 : B.drop 8 = (B.drop 4).drop 4 := by rw [List.drop_drop]
    have h10 : B.drop 10 = ((B.drop 4).drop 4).drop 2 := by rw [List.drop_drop, List.drop_drop]
    rw [ebl, eb]
    show _ ++ List.replicate 6 0#8 = _
    rw [← hz', h10, h8, List.append_assoc, List.take_append_drop, List.take_append_drop]
  · have hN16 : N = 8 := hw
    subst hN16
    have e1 : getN B 4 4 = ((valN ((B.drop 4).take 4) : Int), 0) := getN_val (by omega)
    have eb : aBody (aOf ((22 : Nat) : Int) B) = (B.drop 4).take 4 := by
      show putN [] (getN B 4 4).1 4 = _
      rw [e1, putN_valN (by simp; omega), List.nil_append]
    have ebl : (aBody (aOf ((22 : Nat) : Int) B)).length = 4 := by rw [eb]; simp; omega
    refine fin _ hr rfl ?_ (by rw [ebl]; rfl)
    rw [ebl, eb]
    show _ ++ [] = _
    rw [List.append_nil, List.take_of_length_le (by simp; omega)]
  · have hN16 : N = 8 := hw
    subst hN16
    have e1 : getN B 4 2 = ((valN ((B.drop 4).take 2) : Int), 0) := getN_val (by omega)
    have eb : aBody (aOf ((17 : Nat) : Int) B) = (B.drop 4).take 2 := by
      show putN [] (getN B 4 2).1 2 = _
      rw [e1, putN_valN (by simp; omega), List.nil_append]
    have ebl : (aBody (aOf ((17 : Nat) : Int) B)).length = 2 := by rw [eb]; simp; omega
    refine fin _ hr rfl ?_ (by rw [ebl]; rfl)
    have hz' : B.drop 6 = List.replicate 2 0#8 := hz
    have h10 : B.drop 6 = (B.drop 4).drop 2 := by rw [List.drop_drop]
    rw [ebl, eb]
    show _ ++ List.replicate 2 0#8 = _
    rw [← hz', h10, List.take_append_drop]
  · have hN16 : N = 8 := hw
    subst hN16
    have eb : aBody (aOf ((18 : Nat) : Int) B) = [] := rfl
    refine fin _ hr rfl ?_ (by rw [eb]; rfl)
    have hz' : B.drop 4 = List.replicate 4 0#8 := hz
    rw [eb, hz']; rfl
theorem aDec_bad {b : List (BitVec 8)} {y : Action} {n c : Int} (h : aDec b = (y, n, some c)) : y = act0 ∧ n = 0 := by
  have key : ∀ c, aBad c = (y, n, some c) → y = act0 ∧ n = 0 := fun c h => by
    unfold aBad at h; simp only [Prod.mk.injEq] at h; exact ⟨h.1.symm, h.2.1.symm⟩
  have key2 : ∀ d, aBad d = (y, n, some c) → y = act0 ∧ n = 0 := fun d h => by
    unfold aBad at h; simp only [Prod.mk.injEq] at h; exact ⟨h.1.symm, h.2.1.symm⟩
  rw [aDec] at h
  unfold aSetD aPlain at h
  repeat' split at h
  all_goals first | exact key2 _ h | (simp only [Prod.mk.injEq, reduceCtorEq, and_false] at h)
end Go.Proofs.Ytbncoeoamjcjjaa
end

section
set_option linter.unusedVariables false
set_option linter.unusedSimpArgs false
namespace Go.Proofs.Ytbncoeoamjcjjaa
open Go Go.AI Go.Proofs
attribute [local irreducible] FnP FnO FnB FnT FnSeq WK RunQ RunQW RunX RunXW

theorem clone_by (l : List (BitVec 8)) (hl : l.length ≤ 1000000) : FnO Try.prog 43 [byS l] l.length 1 (byL l) := by
  have hf := by_full l l.length rfl
  unfold byS
  cases l with
  | nil =>
    refine FnO.intro Try.func43 rfl rfl fun G w => ?_
    repeat' (first
     | refine WK.seq ?_
     | refine WK.block ?_
     | refine WK.inBlock ?_
     | refine WK.skip ?_
     | refine WK.label ?_
     | refine WK.scope ?_
     | refine WK.inScope ?_
     | refine WK.exit rfl ?_
     | refine WK.condT rfl ?_
     | refine WK.condF rfl ?_
     | (refine Hid.h hQ _ _ ?_; clear hQ hA)
     | refine WK.condAny rfl ?_ ?_
     | ((first | refine WK.cond2 rfl (fun h => ?_) (fun h => ?_)) <;> (first | (simp [*] at h; done) | (have h2 := h; simp at h2; exfalso; omega) | (have h2 := h; simp at h2; try simp only [Bool.not_eq_true', Bool.not_eq_false'] at h) | skip))
     | (refine WK.regH Try.ntmps43 (by kernel_rfl) ?_; intro A hA Q hQ; simp [*])
     | fail)
    · repeat (first | refine WK.seq ?_ | refine WK.block ?_ | refine WK.inBlock ?_ | refine WK.skip ?_ | refine WK.label ?_ | refine WK.scope ?_ | refine WK.inScope ?_ | refine WK.exit rfl ?_)
      refine WK.ghost (Ghost.own 2 900 1 rfl rfl) ?_
      repeat (first | refine WK.seq ?_ | refine WK.block ?_ | refine WK.inBlock ?_ | refine WK.skip ?_ | refine WK.label ?_ | refine WK.scope ?_ | refine WK.inScope ?_ | refine WK.exit rfl ?_)
      refine WK.retO Try.func43 (by rfl) (by rfl) (by simp (maxDischargeDepth := 120) [byL_nil]) (by simp [byL_nil])
    · repeat' (first
       | refine WK.seq ?_
       | refine WK.block ?_
       | refine WK.inBlock ?_
       | refine WK.skip ?_
       | refine WK.label ?_
       | refine WK.scope ?_
       | refine WK.inScope ?_
       | refine WK.exit rfl ?_
       | refine WK.condT rfl ?_
       | refine WK.condF rfl ?_
       | (refine Hid.h hQ _ _ ?_; clear hQ hA)
       | refine WK.condAny rfl ?_ ?_
       | ((first | refine WK.cond2 rfl (fun h => ?_) (fun h => ?_)) <;> (first | (simp [*] at h; done) | (have h2 := h; simp at h2; exfalso; omega) | (have h2 := h; simp at h2; try simp only [Bool.not_eq_true', Bool.not_eq_false'] at h) | skip))
       | (refine WK.regH Try.ntmps43 (by kernel_rfl) ?_; intro A hA Q hQ; simp [*])
       | (refine RunQ.append0 900 901 appByte rfl rfl rfl rfl rfl rfl rfl ?_ rfl ?_ ?_ ?_ ?_ ?_ ?_; (focus (simp [*]; done)); (focus (first | omega | (simp [*]; done); done)); (focus (first | omega | (simp [*]; done); done)); (focus (simp [*]; done)); (focus (simp [*]; done)); (focus (simp [*]; done)); refine RunQ.evalH ?_; simp [*])
       | (refine WK.retO Try.func43 rfl rfl ?_ ?_ <;> simp (maxDischargeDepth := 120) [byL_nil, *])
       | fail)
  | cons x l =>
    simp only [List.length_cons] at hl hf ⊢
    refine FnO.intro Try.func43 rfl rfl fun G w => ?_
    repeat' (first
     | refine WK.seq ?_
     | refine WK.block ?_
     | refine WK.inBlock ?_
     | refine WK.skip ?_
     | refine WK.label ?_
     | refine WK.scope ?_
     | refine WK.inScope ?_
     | refine WK.exit rfl ?_
     | refine WK.condT rfl ?_
     | refine WK.condF rfl ?_
     | (refine Hid.h hQ _ _ ?_; clear hQ hA)
     | refine WK.condAny rfl ?_ ?_
     | ((first | refine WK.cond2 rfl (fun h => ?_) (fun h => ?_)) <;> (first | (simp [*] at h; done) | (have h2 := h; simp at h2; exfalso; omega) | (have h2 := h; simp at h2; try simp only [Bool.not_eq_true', Bool.not_eq_false'] at h) | skip))
     | (refine WK.regH Try.ntmps43 (by kernel_rfl) ?_; intro A hA Q hQ; simp [*])
     | (refine RunQ.append0 900 901 appByte rfl rfl rfl rfl rfl rfl rfl ?_ rfl ?_ ?_ ?_ ?_ ?_ ?_; (focus (simp [*]; done)); (focus (first | omega | (simp [*]; done); done)); (focus (first | omega | (simp [*]; done); done)); (focus (simp [*]; done)); (focus (simp [*]; done)); (focus (simp [*]; done)); refine RunQ.evalH ?_; simp [*])
     | (refine WK.retO Try.func43 rfl rfl ?_ ?_ <;> simp (maxDischargeDepth := 120) [*])
     | fail)
theorem act0_enc : act0.enc = [.int .i64 0, .int .i64 0, .int .i64 0, .int .i64 0, .int .i64 0, .int .i64 0, .bool false, .int .u64 0, .int .u64 0, .int .u64 0, .int .u64 0] := rfl
set_option maxHeartbeats 4000000 in
theorem actionBack1_c (a : Action) (b : List (BitVec 8)) (hb : b.length ≤ 9223372036854775807) : FnP Try.prog 9 [.agg a.enc, byS b] (.bool true) := by
  have p := aencP_c a
  have d2 := adec_c b hb
  have hEl := aEnc_len a
  obtain ⟨m, hm⟩ : ∃ m, (if b.length < 8 then b.length else 8) = m := ⟨_, rfl⟩
  have hm1 : (if (b.length : Int) < 8 then (b.length : Int) else 8) = (m : Int) := by rw [← hm]; split <;> split <;> omega
  have hm2 : (if (8 : Int) < (b.length : Int) then 8 else (b.length : Int)) = (m : Int) := by rw [← hm]; split <;> split <;> omega
  have hm3 : m ≤ b.length ∧ m ≤ 8 := by rw [← hm]; split <;> omega
  have hm4 : (m : Int) ≤ b.length := by omega
  have hmt : (byL b).take m = byL (b.take m) := byL_take _ _
  have hml : (b.take m).length = m := by rw [List.length_take]; omega
  obtain ⟨bm, hbm⟩ : ∃ bm, b.take m = bm := ⟨_, rfl⟩
  rw [hbm] at hmt hml
  clear hm hbm
  unfold byS at d2 ⊢
  refine FnP.intro Try.func9 rfl rfl fun G w => ?_
  repeat (first | refine WK.seq ?_ | refine WK.block ?_ | refine WK.inBlock ?_ | refine WK.skip ?_ | refine WK.label ?_ | refine WK.scope ?_ | refine WK.inScope ?_ | refine WK.exit rfl ?_)
  apply WK.cut (⟨(upd J 1 (.sl false b.length (byL b))), B0, 0⟩ : St)
  · intro hcut
    cases hr : Action.right a
    · have e : (aEnc a).2 = 1 := by unfold aEnc; rw [hr]; rfl
      rw [e] at p
      repeat' (first
       | refine WK.seq ?_
       | refine WK.block ?_
       | refine WK.inBlock ?_
       | refine WK.skip ?_
       | refine WK.label ?_
       | refine WK.scope ?_
       | refine WK.inScope ?_
       | refine WK.exit rfl ?_
       | refine WK.condT rfl ?_
       | refine WK.condF rfl ?_
       | (refine Hid.h hQ _ _ ?_; clear hQ hA)
       | refine WK.condAny rfl ?_ ?_
       | ((first | refine WK.cond2 rfl (fun h => ?_) (fun h => ?_) | refine Fork.mk (fun h => ?_) (fun h => ?_)) <;> (first | (simp [*] at h; done) | (have h2 := h; simp at h2; exfalso; omega) | (have h2 := h; simp at h2; try simp only [Bool.not_eq_true', Bool.not_eq_false'] at h) | skip))
       | ((first | refine WK.regH (id := 0) Try.ntmps9 (by kernel_rfl) ?_ | refine WK.regH (id := 1) Try.ntmps9 (by kernel_rfl) ?_ | refine WK.regH (id := 2) Try.ntmps9 (by kernel_rfl) ?_ | refine WK.regH (id := 3) Try.ntmps9 (by kernel_rfl) ?_ | refine WK.regH (id := 4) Try.ntmps9 (by kernel_rfl) ?_ | refine WK.regH (id := 5) Try.ntmps9 (by kernel_rfl) ?_ | refine WK.regX (id := 0) (by kernel_rfl) Try.ntmps9 (by kernel_rfl) ?_ | refine WK.regX (id := 1) (by kernel_rfl) Try.ntmps9 (by kernel_rfl) ?_ | refine WK.regX (id := 2) (by kernel_rfl) Try.ntmps9 (by kernel_rfl) ?_ | refine WK.regX (id := 3) (by kernel_rfl) Try.ntmps9 (by kernel_rfl) ?_ | refine WK.regX (id := 4) (by kernel_rfl) Try.ntmps9 (by kernel_rfl) ?_ | refine WK.regX (id := 5) (by kernel_rfl) Try.ntmps9 (by kernel_rfl) ?_); intro A hA Q hQ; simp [*])
       | (refine Hid.h hQ _ _ _ (by decide +kernel) ?_; clear hQ hA)
       | ((first | refine RunQ.gd rfl (by rw [hA.h]; rfl) ?_ | refine RunX.gd rfl (by rw [hA.h]; rfl) ?_); simp [*])
       | (((first | refine RunQ.call rfl rfl rfl rfl rfl ?_ (p) ?_ ?_ | refine RunQW.call rfl rfl rfl rfl ?_ (p) ?_ ?_ | refine RunX.call rfl rfl rfl rfl ?_ (p) ?_ ?_ | refine RunXW.call rfl rfl rfl ?_ (p) ?_ ?_); (focus (simp [*]; done))); (focus (simp [*]; done)); (first | refine RunQ.evalH ?_ | refine RunX.evalY ?_); simp [*])
       | fail)
      repeat (first | refine WK.seq ?_ | refine WK.block ?_ | refine WK.inBlock ?_ | refine WK.skip ?_ | refine WK.label ?_ | refine WK.scope ?_ | refine WK.inScope ?_ | refine WK.exit rfl ?_)
      refine WK.next (fun n => n) hcut (by repeat (first | exact TmW.nil | refine TmW.upd ?_ (by simp (maxDischargeDepth := 120)))) (by repeat (first | exact BxW.nil | refine BxW.upd ?_ (by simp (maxDischargeDepth := 120)))) (by first | exact InjW.id | exact InjW.nil | exact InjW.one | exact InjW.two (by simp) | exact InjW.three (by simp) (by simp) (by simp))
    · have e : (aEnc a).2 = 0 := by unfold aEnc; rw [hr]; rfl
      have c := clone_by (aEnc a).1 (by omega)
      have d := adec_c ((aEnc a).1 ++ bm) (by rw [List.length_append]; omega)
      rw [aEnc_back hr] at d
      have hmod : (aEnc a).1.length % 8 = 0 := by
        have hpl := aPad_len a
        have hmd := aLen_mod (aBody a).length
        have hcs := right_cases hr
        have hk : ∃ k : Nat, a.kind = (k : Int) ∧ k < 65536 := by
          rcases hcs with h | h | h | h | h <;> first | exact ⟨a.kind.toNat, by omega, by omega⟩
        obtain ⟨k, hk, hk2⟩ := hk
        have hle := aLen_le _ (aBody_len a)
        have hge := aLen_ge (aBody a).length
        obtain ⟨hh, _⟩ := aHead (k := k) (n := aLen (aBody a).length) (p := aPad a) (r := []) hk2 (by omega) hpl (by omega)
        have : (aEnc a).1.length = aLen (aBody a).length := by
          unfold aEnc; rw [if_pos hr, hk]
          show (putN (putN [] (k : Int) 2) _ 2 ++ aPad a).length = _
          rw [hh]; simp [beN_len]; omega
        omega
      rw [e] at p
      obtain ⟨E, hE⟩ : ∃ E, (aEnc a).1 = E := ⟨_, rfl⟩
      rw [hE] at p c d hEl hmod
      have hmod2 : ((E.length : Int).tmod 8 == 0) = true := by rw [Int.tmod_eq_emod_of_nonneg (by omega), beq_iff_eq]; omega
      have hbd : E.length + m ≤ 1000000 := by omega
      have hfull : (byL E ++ byL bm).take (E.length + m) = byL E ++ byL bm := List.take_of_length_le (by simp [hml])
      unfold byS at p c d
      rw [List.length_append, hml, byL_app] at d
      have hmbm : (byL bm).take m = byL bm := by_full _ _ hml.symm
      clear hE hmod
      repeat' (first
       | refine WK.seq ?_
       | refine WK.block ?_
       | refine WK.inBlock ?_
       | refine WK.skip ?_
       | refine WK.label ?_
       | refine WK.scope ?_
       | refine WK.inScope ?_
       | refine WK.exit rfl ?_
       | refine WK.condT rfl ?_
       | refine WK.condF rfl ?_
       | (refine Hid.h hQ _ _ ?_; clear hQ hA)
       | refine WK.condAny rfl ?_ ?_
       | ((first | refine WK.cond2 rfl (fun h => ?_) (fun h => ?_) | refine Fork.mk (fun h => ?_) (fun h => ?_)) <;> (first | (simp [*] at h; done) | (have h2 := h; simp at h2; exfalso; omega) | (have h2 := h; simp at h2; try simp only [Bool.not_eq_true', Bool.not_eq_false'] at h) | skip))
       | ((first | refine WK.regH (id := 0) Try.ntmps9 (by kernel_rfl) ?_ | refine WK.regH (id := 1) Try.ntmps9 (by kernel_rfl) ?_ | refine WK.regH (id := 2) Try.ntmps9 (by kernel_rfl) ?_ | refine WK.regH (id := 3) Try.ntmps9 (by kernel_rfl) ?_ | refine WK.regH (id := 4) Try.ntmps9 (by kernel_rfl) ?_ | refine WK.regH (id := 5) Try.ntmps9 (by kernel_rfl) ?_ | refine WK.regX (id := 0) (by kernel_rfl) Try.ntmps9 (by kernel_rfl) ?_ | refine WK.regX (id := 1) (by kernel_rfl) Try.ntmps9 (by kernel_rfl) ?_ | refine WK.regX (id := 2) (by kernel_rfl) Try.ntmps9 (by kernel_rfl) ?_ | refine WK.regX (id := 3) (by kernel_rfl) Try.ntmps9 (by kernel_rfl) ?_ | refine WK.regX (id := 4) (by kernel_rfl) Try.ntmps9 (by kernel_rfl) ?_ | refine WK.regX (id := 5) (by kernel_rfl) Try.ntmps9 (by kernel_rfl) ?_); intro A hA Q hQ; simp [aRes, aFault, bne, *])
       | (refine Hid.h hQ _ _ _ (by decide +kernel) ?_; clear hQ hA)
       | ((first | refine RunQ.gd rfl (by rw [hA.h]; rfl) ?_ | refine RunX.gd rfl (by rw [hA.h]; rfl) ?_); simp [aRes, aFault, bne, *])
       | (refine RunQ.callO 900 rfl rfl rfl rfl rfl ?_ (c) ?_ ?_ ?_ ?_; (focus (simp [aRes, aFault, bne, *]; done)); (focus (simp [aRes, aFault, bne, *]; done)); (focus (simp [aRes, aFault, bne, *]; done)); (focus (simp [aRes, aFault, bne, *]; done)); refine RunQ.evalH ?_; simp [aRes, aFault, bne, *])
       | (refine RunQW.by (fun hw => ?_); refine RunQ.callO 900 rfl rfl rfl hw rfl ?_ (c) ?_ ?_ ?_ ?_; (focus (simp [aRes, aFault, bne, *]; done)); (focus (simp [aRes, aFault, bne, *]; done)); (focus (simp [aRes, aFault, bne, *]; done)); (focus (simp [aRes, aFault, bne, *]; done)); clear hw; refine RunQ.evalH ?_; simp [aRes, aFault, bne, *])
       | (refine RunX.callO 900 rfl rfl rfl rfl ?_ (c) ?_ ?_ ?_ ?_; (focus (simp [aRes, aFault, bne, *]; done)); (focus (simp [aRes, aFault, bne, *]; done)); (focus (simp [aRes, aFault, bne, *]; done)); (focus (simp [aRes, aFault, bne, *]; done)); refine RunX.evalY ?_; simp [aRes, aFault, bne, *])
       | (refine RunX.by (fun hw => ?_); refine RunX.callO 900 rfl rfl hw rfl ?_ (c) ?_ ?_ ?_ ?_; (focus (simp [aRes, aFault, bne, *]; done)); (focus (simp [aRes, aFault, bne, *]; done)); (focus (simp [aRes, aFault, bne, *]; done)); (focus (simp [aRes, aFault, bne, *]; done)); clear hw; refine RunX.evalY ?_; simp [aRes, aFault, bne, *])
       | (refine RunQ.append 901 appByte rfl rfl rfl rfl rfl rfl rfl rfl rfl ?_ ?_ ?_ ?_ ?_; (focus (first | omega | (simp [aRes, aFault, bne, *]; done); done)); (focus (first | omega | (simp [aRes, aFault, bne, *]; done); done)); (focus (first | omega | (simp [aRes, aFault, bne, *]; done); done)); (focus (first | omega | (simp [aRes, aFault, bne, *]; done); done)); refine RunQ.evalH ?_; simp [aRes, aFault, bne, *])
       | (refine RunQW.by (fun hw => ?_); refine RunQ.append 901 appByte rfl rfl rfl rfl rfl rfl rfl hw rfl ?_ ?_ ?_ ?_ ?_; (focus (first | omega | (simp [aRes, aFault, bne, *]; done); done)); (focus (first | omega | (simp [aRes, aFault, bne, *]; done); done)); (focus (first | omega | (simp [aRes, aFault, bne, *]; done); done)); (focus (first | omega | (simp [aRes, aFault, bne, *]; done); done)); clear hw; refine RunQ.evalH ?_; simp [aRes, aFault, bne, *])
       | (refine RunX.append 901 appByte rfl rfl rfl rfl rfl rfl rfl rfl ?_ ?_ ?_ ?_ ?_; (focus (first | omega | (simp [aRes, aFault, bne, *]; done); done)); (focus (first | omega | (simp [aRes, aFault, bne, *]; done); done)); (focus (first | omega | (simp [aRes, aFault, bne, *]; done); done)); (focus (first | omega | (simp [aRes, aFault, bne, *]; done); done)); refine RunX.evalY ?_; simp [aRes, aFault, bne, *])
       | (refine RunX.by (fun hw => ?_); refine RunX.append 901 appByte rfl rfl rfl rfl rfl rfl rfl hw ?_ ?_ ?_ ?_ ?_; (focus (first | omega | (simp [aRes, aFault, bne, *]; done); done)); (focus (first | omega | (simp [aRes, aFault, bne, *]; done); done)); (focus (first | omega | (simp [aRes, aFault, bne, *]; done); done)); (focus (first | omega | (simp [aRes, aFault, bne, *]; done); done)); clear hw; refine RunX.evalY ?_; simp [aRes, aFault, bne, *])
       | (refine RunQ.callFz 30 1 rfl rfl rfl rfl rfl rfl rfl ?_ (d) ?_ ?_; (focus (simp [aRes, aFault, bne, *]; done)); (focus (simp [aRes, aFault, bne, *]; done)); refine RunQ.evalH ?_; simp [aRes, aFault, bne, *])
       | (refine RunQW.by (fun hw => ?_); refine RunQ.callFz 30 1 rfl rfl hw rfl rfl rfl rfl ?_ (d) ?_ ?_; (focus (simp [aRes, aFault, bne, *]; done)); (focus (simp [aRes, aFault, bne, *]; done)); clear hw; refine RunQ.evalH ?_; simp [aRes, aFault, bne, *])
       | (refine RunX.callFz 30 1 rfl rfl rfl rfl rfl rfl ?_ (d) ?_ ?_; (focus (simp [aRes, aFault, bne, *]; done)); (focus (simp [aRes, aFault, bne, *]; done)); refine RunX.evalY ?_; simp [aRes, aFault, bne, *])
       | (refine RunX.by (fun hw => ?_); refine RunX.callFz 30 1 rfl rfl hw rfl rfl rfl ?_ (d) ?_ ?_; (focus (simp [aRes, aFault, bne, *]; done)); (focus (simp [aRes, aFault, bne, *]; done)); clear hw; refine RunX.evalY ?_; simp [aRes, aFault, bne, *])
       | (((first | refine RunQ.call rfl rfl rfl rfl rfl ?_ (p) ?_ ?_ | refine RunQW.call rfl rfl rfl rfl ?_ (p) ?_ ?_ | refine RunX.call rfl rfl rfl rfl ?_ (p) ?_ ?_ | refine RunXW.call rfl rfl rfl ?_ (p) ?_ ?_); (focus (simp [aRes, aFault, bne, *]; done))); (focus (simp [aRes, aFault, bne, *]; done)); (first | refine RunQ.evalH ?_ | refine RunX.evalY ?_); simp [aRes, aFault, bne, *])
       | fail)
      repeat (first | refine WK.seq ?_ | refine WK.block ?_ | refine WK.inBlock ?_ | refine WK.skip ?_ | refine WK.label ?_ | refine WK.scope ?_ | refine WK.inScope ?_ | refine WK.exit rfl ?_)
      refine WK.next (fun n => n) hcut (by repeat (first | exact TmW.nil | refine TmW.upd ?_ (by simp (maxDischargeDepth := 120)))) (by repeat (first | exact BxW.nil | refine BxW.upd ?_ (by simp (maxDischargeDepth := 120)))) (by first | exact InjW.id | exact InjW.nil | exact InjW.one | exact InjW.two (by simp) | exact InjW.three (by simp) (by simp) (by simp))
  obtain ⟨R, hR⟩ : ∃ R, aDec b = R := ⟨_, rfl⟩
  rw [hR] at d2
  obtain ⟨y, n, f⟩ := R
  cases f with
  | some c =>
    obtain ⟨rfl, rfl⟩ := aDec_bad hR
    clear hR
    repeat' (first
     | refine WK.seq ?_
     | refine WK.block ?_
     | refine WK.inBlock ?_
     | refine WK.skip ?_
     | refine WK.label ?_
     | refine WK.scope ?_
     | refine WK.inScope ?_
     | refine WK.exit rfl ?_
     | refine WK.condT rfl ?_
     | refine WK.condF rfl ?_
     | (refine Hid.h hQ _ _ ?_; clear hQ hA)
     | refine WK.condAny rfl ?_ ?_
     | ((first | refine WK.cond2 rfl (fun h => ?_) (fun h => ?_) | refine Fork.mk (fun h => ?_) (fun h => ?_)) <;> (first | (simp [*] at h; done) | (have h2 := h; simp at h2; exfalso; omega) | (have h2 := h; simp at h2; try simp only [Bool.not_eq_true', Bool.not_eq_false'] at h) | skip))
     | ((first | refine WK.regH Try.ntmps9 (by kernel_rfl) ?_ | refine WK.regX (by kernel_rfl) Try.ntmps9 (by kernel_rfl) ?_); intro A hA Q hQ; simp [aRes, aFault, act0_enc, *])
     | (refine Hid.h hQ _ _ _ (by decide +kernel) ?_; clear hQ hA)
     | ((first | refine RunQ.gd rfl (by rw [hA.h]; rfl) ?_ | refine RunX.gd rfl (by rw [hA.h]; rfl) ?_); simp [aRes, aFault, act0_enc, *])
     | ((first | ((first | refine RunQ.call rfl rfl rfl rfl rfl ?_ (d2) ?_ ?_ | refine RunQW.call rfl rfl rfl rfl ?_ (d2) ?_ ?_ | refine RunX.call rfl rfl rfl rfl ?_ (d2) ?_ ?_ | refine RunXW.call rfl rfl rfl ?_ (d2) ?_ ?_); (focus (simp [aRes, aFault, act0_enc, *]; done))) | ((first | refine RunQ.call rfl rfl rfl rfl rfl ?_ (awake12_c) ?_ ?_ | refine RunQW.call rfl rfl rfl rfl ?_ (awake12_c) ?_ ?_ | refine RunX.call rfl rfl rfl rfl ?_ (awake12_c) ?_ ?_ | refine RunXW.call rfl rfl rfl ?_ (awake12_c) ?_ ?_); (focus (simp [aRes, aFault, act0_enc, *]; done)))); (focus (simp [aRes, aFault, act0_enc, *]; done)); (first | refine RunQ.evalH ?_ | refine RunX.evalY ?_); simp [aRes, aFault, act0_enc, *])
     | (refine WK.ret Try.func9 ?_ ?_ <;> simp (maxDischargeDepth := 120) [Try.results9, aRes, aFault, act0_enc, *])
     | fail)
  | none =>
    obtain ⟨hr, k, rfl, h8, hk, _, he⟩ := aDec_back hR
    have p := aencP_c y
    rw [he] at p
    have hkl : (b.take k).length = k := by rw [List.length_take]; omega
    have hkt : (byL b).take k = byL (b.take k) := byL_take _ _
    have q := bequal_c (b.take k) (b.take k) (by omega)
    rw [beq_self_eq_true] at q
    obtain ⟨B, hB⟩ : ∃ B, b.take k = B := ⟨_, rfl⟩
    rw [hB] at p hkl hkt q
    unfold byS at p q
    rw [hkl] at p q
    have hk' : (k : Int) ≤ b.length := by omega
    clear hR hB he hr
    repeat' (first
     | refine WK.seq ?_
     | refine WK.block ?_
     | refine WK.inBlock ?_
     | refine WK.skip ?_
     | refine WK.label ?_
     | refine WK.scope ?_
     | refine WK.inScope ?_
     | refine WK.exit rfl ?_
     | refine WK.condT rfl ?_
     | refine WK.condF rfl ?_
     | (refine Hid.h hQ _ _ ?_; clear hQ hA)
     | refine WK.condAny rfl ?_ ?_
     | ((first | refine WK.cond2 rfl (fun h => ?_) (fun h => ?_) | refine Fork.mk (fun h => ?_) (fun h => ?_)) <;> (first | (simp [*] at h; done) | (have h2 := h; simp at h2; exfalso; omega) | (have h2 := h; simp at h2; try simp only [Bool.not_eq_true', Bool.not_eq_false'] at h) | skip))
     | ((first | refine WK.regH Try.ntmps9 (by kernel_rfl) ?_ | refine WK.regX (by kernel_rfl) Try.ntmps9 (by kernel_rfl) ?_); intro A hA Q hQ; simp [aRes, aFault, *])
     | (refine Hid.h hQ _ _ _ (by decide +kernel) ?_; clear hQ hA)
     | ((first | refine RunQ.gd rfl (by rw [hA.h]; rfl) ?_ | refine RunX.gd rfl (by rw [hA.h]; rfl) ?_); simp [aRes, aFault, *])
     | ((first | ((first | refine RunQ.call rfl rfl rfl rfl rfl ?_ (d2) ?_ ?_ | refine RunQW.call rfl rfl rfl rfl ?_ (d2) ?_ ?_ | refine RunX.call rfl rfl rfl rfl ?_ (d2) ?_ ?_ | refine RunXW.call rfl rfl rfl ?_ (d2) ?_ ?_); (focus (simp [aRes, aFault, *]; done))) | ((first | refine RunQ.call rfl rfl rfl rfl rfl ?_ (p) ?_ ?_ | refine RunQW.call rfl rfl rfl rfl ?_ (p) ?_ ?_ | refine RunX.call rfl rfl rfl rfl ?_ (p) ?_ ?_ | refine RunXW.call rfl rfl rfl ?_ (p) ?_ ?_); (focus (simp [aRes, aFault, *]; done))) | ((first | refine RunQ.call rfl rfl rfl rfl rfl ?_ (q) ?_ ?_ | refine RunQW.call rfl rfl rfl rfl ?_ (q) ?_ ?_ | refine RunX.call rfl rfl rfl rfl ?_ (q) ?_ ?_ | refine RunXW.call rfl rfl rfl ?_ (q) ?_ ?_); (focus (simp [aRes, aFault, *]; done))) | ((first | refine RunQ.call rfl rfl rfl rfl rfl ?_ (awake12_c) ?_ ?_ | refine RunQW.call rfl rfl rfl rfl ?_ (awake12_c) ?_ ?_ | refine RunX.call rfl rfl rfl rfl ?_ (awake12_c) ?_ ?_ | refine RunXW.call rfl rfl rfl ?_ (awake12_c) ?_ ?_); (focus (simp [aRes, aFault, *]; done)))); (focus (simp [aRes, aFault, *]; done)); (first | refine RunQ.evalH ?_ | refine RunX.evalY ?_); simp [aRes, aFault, *])
     | (refine WK.ret Try.func9 ?_ ?_ <;> simp (maxDischargeDepth := 120) [Try.results9, aRes, aFault, *])
     | fail)
theorem actionBack_c (a : Action) (b : List (BitVec 8)) : FnP Try.prog 9 [.agg a.enc, byS b] (.bool true) :=
  FnP.bound (fl := false) (n := b.length) (cs := byL b) ⟨_, Try.func9, rfl, rfl⟩ (by simp [byS]) fun h => actionBack1_c a b h
end Go.Proofs.Ytbncoeoamjcjjaa
end
