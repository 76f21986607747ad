/- Instructions: from the bytes back, plain; the rows as they are read. -/
import Derived.Test.YteonfhnljphbpaaGreatWk10
import Derived.Test.YteonfhnljphbpaaGreatAf
set_option linter.all false
set_option linter.unnecessarySimpa false
section
set_option linter.unusedVariables false
set_option linter.unusedSimpArgs false
namespace Go.Proofs.YteonfhnljphbpaaGreat
open Go Go.AI Go.Proofs

theorem inCut_facts {b : List (BitVec 8)} {k : Int} {n : Nat} (h : inCut b = (k, n, none)) : 8 ≤ n ∧ n ≤ b.length ∧ n % 8 = 0 ∧ n < 65536 ∧ (∃ kn : Nat, k = kn ∧ 1 ≤ kn ∧ kn ≤ 5 ∧ beN (kn : Int) 2 = b.take 2) ∧ beN (n : Int) 2 = (b.drop 2).take 2 ∧ inLaid k (b.take n) = true := by
  unfold inCut at h
  split at h
  · cases h
  rename_i c0
  split at h
  · cases h
  rename_i c1
  split at h
  · cases h
  rename_i c2
  split at h
  · cases h
  rename_i c3
  split at h
  · cases h
  rename_i c4
  simp only [Prod.mk.injEq, and_true] at h
  obtain ⟨rfl, rfl⟩ := h
  have l0 : ((b.drop 0).take 2).length = 2 := by simp; omega
  have l1 : ((b.drop 2).take 2).length = 2 := by simp; omega
  have e0 := beN_valN 2 _ l0
  have e1 := beN_valN 2 _ l1
  have lt : valN ((b.drop 2).take 2) < 65536 := valN_lt 2 _ l1
  rw [List.drop_zero] at e0 c3
  rw [Bool.not_eq_false] at c4
  exact ⟨by omega, by omega, by omega, lt, ⟨_, by rw [List.drop_zero], by omega, by omega, e0⟩, e1, c4⟩
theorem wide_back (b : List (BitVec 8)) (h : 8 ≤ b.length) : beN (wN (wGet b 8).1) 8 = b.take 8 := by
  have h1 := wPut_wGet b [] 8 (by omega) h
  rw [wPut_beN _ _ _ (by omega), List.nil_append, List.nil_append] at h1
  exact h1
theorem take_take_drop (b : List (BitVec 8)) (p q r : Nat) (h : r = p + q) : (b.drop p).take q ++ b.drop r = b.drop p := by
  subst h
  rw [← List.drop_drop, List.take_append_drop]
theorem inStep_back {ks : List Int} {b : List (BitVec 8)} {y : Inst} {n : Nat} (h : inStep ks b = (y, n, none)) : inRight y = true ∧ y.kind ∉ ks ∧ 8 ≤ n ∧ n ≤ b.length ∧ inOne y = b.take n ∧ y.acts.length * 8 ≤ b.length := by
  unfold inStep at h
  obtain ⟨k, m, c, hc⟩ : ∃ k m c, inCut b = (k, m, c) := ⟨_, _, _, rfl⟩
  rw [hc] at h
  cases c with
  | some c => simp at h
  | none =>
  simp only at h
  split at h
  · cases h
  rename_i hks
  obtain ⟨z, c, hz⟩ : ∃ z c, inOf k (b.take m) = (z, c) := ⟨_, _, rfl⟩
  rw [hz] at h
  cases c with
  | some c => simp at h
  | none =>
  simp only [Prod.mk.injEq, and_true] at h
  obtain ⟨rfl, rfl⟩ := h
  obtain ⟨f1, f2, f3, f4, ⟨kn, rfl, f5, f6, f7⟩, f8, f9⟩ := inCut_facts hc
  obtain ⟨B, hB⟩ : ∃ B, b.take m = B := ⟨_, rfl⟩
  have hBl : B.length = m := by rw [← hB, List.length_take]; omega
  have t2 : b.take 2 = B.take 2 := by rw [← hB, List.take_take, Nat.min_eq_left (by omega)]
  have t4 : (b.drop 2).take 2 = (B.drop 2).take 2 := by
    rw [← hB, List.drop_take, List.take_take, Nat.min_eq_left (by omega)]
  have glue : ∀ body : List (BitVec 8), z.kind = kn → inBody z = body → body = B.drop 4 → inOne z = B := fun body h1 h2 h3 => by
    have hl : 4 + (B.drop 4).length = m := by rw [List.length_drop]; omega
    unfold inOne
    rw [h1, h2, h3, hl, f7, f8, t2, t4, take_take_drop B 2 2 4 rfl, List.take_append_drop]
  rw [hB] at hz f9 ⊢
  have z4 : ∀ p q, allZ ((B.drop p).take q) = true → p + q ≤ m → List.replicate q 0#8 = (B.drop p).take q := fun p q h1 h2 => by
    rw [allZ_iff] at h1
    rw [h1, List.length_take, List.length_drop, Nat.min_eq_left (by omega)]
  unfold inOf at hz
  unfold inLaid at f9
  by_cases k1 : kn = 1
  · subst k1
    rw [if_pos (by decide)] at hz f9
    simp only [Bool.and_eq_true, beq_iff_eq] at f9
    simp only [Prod.mk.injEq] at hz
    obtain ⟨rfl, hc⟩ := hz
    have hne : ¬ (nth B 4).toNat = 255 := fun e => by rw [if_pos e] at hc; cases hc
    have hlt := (nth B 4).isLt
    have h5 : List.replicate 3 0#8 = B.drop 5 := by
      have := f9.2; rw [allZ_iff] at this; rw [this, List.length_drop]; congr 1; omega
    have h4 : B.drop 4 = nth B 4 :: B.drop 5 := by rw [nth_eq (by omega), List.drop_eq_getElem_cons (by omega)]
    refine ⟨?_, hks, f1, f2, ?_, by simp⟩
    · unfold inRight inOk inBare
      simp only [if_pos, instSelf]
      simp
      omega
    · refine glue _ rfl rfl ?_
      unfold inBody
      rw [if_pos rfl, h4, ← h5]
      simp only [ofInt8_nat]
  by_cases k2 : kn = 2
  · subst k2
    rw [if_neg (by decide), if_pos (by decide)] at hz f9
    simp only [Bool.and_eq_true, beq_iff_eq] at f9
    simp only [Prod.mk.injEq] at hz
    obtain ⟨rfl, hc⟩ := hz
    have hm : inMeta (wGet (B.drop 8) 8).1 (wGet (B.drop 16) 8).1 = true := Decidable.byContradiction fun e => by rw [if_neg e] at hc; cases hc
    refine ⟨?_, hks, f1, f2, ?_, by simp⟩
    · unfold inRight inOk inBare
      simp only [if_neg (show ¬ (2 : Int) = 1 by decide), if_pos, instSelf]
      simpa using hm
    · refine glue _ rfl rfl ?_
      unfold inBody
      simp only
      rw [if_neg (by decide), if_pos (by decide)]
      rw [wide_back _ (by rw [List.length_drop]; omega), wide_back _ (by rw [List.length_drop]; omega), z4 4 4 f9.2 (by omega)]
      have h16 : (B.drop 16).take 8 = B.drop 16 := List.take_of_length_le (by rw [List.length_drop]; omega)
      rw [h16, take_take_drop B 8 8 16 rfl, take_take_drop B 4 4 8 rfl]
  by_cases k5 : kn = 5
  · subst k5
    rw [if_neg (by decide), if_neg (by decide), if_pos (by decide)] at f9
    rw [if_neg (by decide), if_neg (by decide), if_neg (by decide)] at hz
    simp only [Bool.and_eq_true, beq_iff_eq] at f9
    simp only [Prod.mk.injEq, and_true] at hz
    subst hz
    have h4 : List.replicate 4 0#8 = B.drop 4 := by
      have := f9.2; rw [allZ_iff] at this; rw [this, List.length_drop]; congr 1; omega
    refine ⟨?_, hks, f1, f2, ?_, by simp⟩
    · show (true && Inst.same _ _) = true
      rw [Bool.true_and]
      exact instSelf _
    · exact glue _ rfl rfl h4
  · have k34 : kn = 3 ∨ kn = 4 := by omega
    rw [if_neg (by omega), if_neg (by omega), if_neg (by omega)] at f9
    rw [if_neg (by omega), if_neg (by omega), if_pos (by omega)] at hz
    obtain ⟨R, hR⟩ : ∃ R, acDec (B.drop 8) = R := ⟨_, rfl⟩
    rw [hR] at hz
    obtain ⟨l, c⟩ := R
    cases c with
    | some c => simp at hz
    | none =>
    simp only [Option.map_none, Prod.mk.injEq, and_true] at hz
    subst hz
    have hb := acDec_back hR
    have hsm := acDec_small hR
    rw [List.length_drop] at hsm
    refine ⟨?_, hks, f1, f2, ?_, by simp only; omega⟩
    · unfold inRight inOk inBare
      simp only [if_neg (show ¬ (kn : Int) = 1 by omega), if_neg (show ¬ (kn : Int) = 2 by omega), if_pos (show (kn : Int) = 3 ∨ (kn : Int) = 4 by omega), instSelf, hb]
      rfl
    · refine glue _ rfl rfl ?_
      unfold inBody
      simp only [if_neg (show ¬ (kn : Int) = 1 by omega), if_neg (show ¬ (kn : Int) = 2 by omega), if_pos (show (kn : Int) = 3 ∨ (kn : Int) = 4 by omega), hb]
      rw [z4 4 4 f9 (by omega), take_take_drop B 4 4 8 rfl]
structure InAt (b : List (BitVec 8)) (x : Nat × Nat × List Inst) : Prop where
  le : x.2.1 ≤ b.length
  fuel : b.length - x.2.1 ≤ x.1
  eq : inDec b = inF x.1 x.2.2 (b.drop x.2.1)
  small : x.2.2.length * 8 ≤ x.2.1
  right : ∀ y, y ∈ x.2.2 → inRight y = true ∧ y.acts.length * 8 ≤ b.length
  once : (inKinds x.2.2).Nodup
  flat : rwFlat inOne x.2.2 = b.take x.2.1
theorem InAt.start (b : List (BitVec 8)) : InAt b (b.length, 0, []) := ⟨Nat.zero_le _, Nat.le_refl _, rfl, Nat.le_refl _, fun y hy => (by cases hy), List.nodup_nil, (by simp [rwFlat])⟩
theorem InAt.bad {b : List (BitVec 8)} {x : Nat × Nat × List Inst} (h : InAt b x) (hp : x.2.1 < b.length) {y : Inst} {n : Nat} {c : Int × Int} (hd : inStep (inKinds x.2.2) (b.drop x.2.1) = (y, n, some c)) : inDec b = ([], some c) := by
  rw [h.eq]
  obtain ⟨f, hf⟩ : ∃ f, x.1 = f + 1 := ⟨x.1 - 1, by have := h.fuel; omega⟩
  rw [hf, inF, if_neg (by rw [List.length_drop]; omega), hd]
theorem InAt.next {b : List (BitVec 8)} {x : Nat × Nat × List Inst} (h : InAt b x) (hp : x.2.1 < b.length) {y : Inst} {n : Nat} (hd : inStep (inKinds x.2.2) (b.drop x.2.1) = (y, n, none)) : x.2.1 + n ≤ b.length ∧ 8 ≤ n ∧ InAt b (x.1 - 1, x.2.1 + n, x.2.2 ++ [y]) := by
  obtain ⟨g1, g2, g3, g4, g5, g6⟩ := inStep_back hd
  rw [List.length_drop] at g4 g6
  obtain ⟨f, hf⟩ : ∃ f, x.1 = f + 1 := ⟨x.1 - 1, by have := h.fuel; omega⟩
  refine ⟨by omega, g3, ⟨by simp only; omega, by have := h.fuel; simp only; omega, ?_, by have := h.small; simp only [List.length_append, List.length_singleton]; omega, ?_, ?_, ?_⟩⟩
  · rw [h.eq, hf, inF, if_neg (by rw [List.length_drop]; omega), hd]
    simp only [Nat.add_sub_cancel]
    rw [List.drop_drop]
  · intro z hz
    simp only [List.mem_append, List.mem_singleton] at hz
    rcases hz with hz | rfl
    · exact h.right z hz
    · exact ⟨g1, by omega⟩
  · unfold inKinds at *
    simp only [List.map_append, List.map_cons, List.map_nil]
    rw [List.nodup_append]
    exact ⟨h.once, by simp, fun a ha b hb => by simp at hb; subst hb; exact fun e => g2 (e ▸ ha)⟩
  · simp only
    rw [rwFlat_app, h.flat, List.take_add]
    congr 1
    unfold rwFlat
    rw [List.flatMap_cons, List.flatMap_nil, List.append_nil, g5]
theorem InAt.stop {b : List (BitVec 8)} {x : Nat × Nat × List Inst} (h : InAt b x) (hp : ¬ x.2.1 < b.length) : inDec b = (x.2.2, none) := by
  rw [h.eq, inF_stop (by rw [List.length_drop]; omega)]
theorem inAt_end : ∀ (f : Nat) (b : List (BitVec 8)) (p : Nat) (acc l : List Inst), InAt b (f, p, acc) → inDec b = (l, none) → ∃ f' p', InAt b (f', p', l) ∧ p' = b.length
  | 0, b, p, acc, l, h, he => by
    have hp : ¬ p < b.length := by have := h.fuel; simp only at this; omega
    have := h.stop hp
    rw [he] at this
    simp only [Prod.mk.injEq, and_true] at this
    subst this
    exact ⟨0, p, h, by have := h.le; simp only at this; omega⟩
  | f + 1, b, p, acc, l, h, he => by
    by_cases hp : p < b.length
    · obtain ⟨y, n, c, hd⟩ : ∃ y n c, inStep (inKinds acc) (b.drop p) = (y, n, c) := ⟨_, _, _, rfl⟩
      cases c with
      | some c => have := h.bad hp hd; rw [he] at this; cases this
      | none =>
        have := (h.next hp hd).2.2
        exact inAt_end f b (p + n) (acc ++ [y]) l this he
    · have := h.stop hp
      rw [he] at this
      simp only [Prod.mk.injEq, and_true] at this
      subst this
      exact ⟨f + 1, p, h, by have := h.le; simp only at this; omega⟩
structure InDone (b : List (BitVec 8)) (l : List Inst) : Prop where
  right : ∀ y, y ∈ l → inRight y = true ∧ y.acts.length * 8 ≤ b.length
  once : (inKinds l).Nodup
  flat : rwFlat inOne l = b
  small : l.length * 8 ≤ b.length
theorem inDec_done {b : List (BitVec 8)} {l : List Inst} (h : inDec b = (l, none)) : InDone b l := by
  obtain ⟨f, p, hat, rfl⟩ := inAt_end b.length b 0 [] l (InAt.start b) h
  exact ⟨hat.right, hat.once, by have := hat.flat; simpa using this, hat.small⟩
end Go.Proofs.YteonfhnljphbpaaGreat
end

section
set_option linter.unusedVariables false
set_option linter.unusedSimpArgs false
namespace Go.Proofs.YteonfhnljphbpaaGreat
open Go Go.AI Go.Proofs
attribute [local irreducible] FnP FnO FnB FnT FnSeq WK RunQ RunQW RunX RunXW

theorem ibad_c (c : Int) : FnP Tryz.prog 52 [.int .i64 c] (.agg (gFault (some (3, c)))) := by
  refine FnP.intro Tryz.func52 rfl rfl fun G w => ?_
  repeat' (first
   | refine WK.seq ?_
   | refine WK.block ?_
   | refine WK.inBlock ?_
   | refine WK.skip ?_
   | refine WK.label ?_
   | refine WK.scope ?_
   | refine WK.inScope ?_
   | refine WK.exit rfl ?_
   | refine WK.condT rfl ?_
   | refine WK.condF rfl ?_
   | (refine Hid.h hQ _ _ ?_; clear hQ hA)
   | refine WK.condAny rfl ?_ ?_
   | ((first | refine WK.cond2 rfl (fun h => ?_) (fun h => ?_)) <;> (first | (simp [*] at h; done) | (have h2 := h; simp at h2; exfalso; omega) | (have h2 := h; simp at h2; try simp only [Bool.not_eq_true', Bool.not_eq_false'] at h) | skip))
   | (refine WK.regH Tryz.ntmps52 (by kernel_rfl) ?_; intro A hA Q hQ; simp [*])
   | (refine WK.ret Tryz.func52 ?_ ?_ <;> simp (maxDischargeDepth := 120) [Tryz.results52, gFault, *])
   | fail)
theorem or_zero64 (x y : BitVec 64) : ((x ||| y) == 0#64) = (x == 0#64 && y == 0#64) := by
  rw [Bool.eq_iff_iff, Bool.and_eq_true, beq_iff_eq, beq_iff_eq, beq_iff_eq]
  exact BitVec.or_eq_zero_iff
theorem imeta_c (i : Inst) : FnP Tryz.prog 69 [.agg i.enc] (.bool (inMeta i.value i.mask)) := by
  have l := less_c i.value i.mask
  have z := zero_c (i.value.less i.mask)
  have e : inMeta i.value i.mask = ((i.value.hi ||| i.mask.hi) == 0#64 && (i.value.less i.mask).zero) := by
    unfold inMeta; rw [or_zero64, Bool.and_assoc]
  obtain ⟨r, hr⟩ : ∃ r, (i.value.less i.mask).zero = r := ⟨_, rfl⟩
  rw [hr] at z e
  obtain ⟨q, hq⟩ : ∃ q, ((i.value.hi ||| i.mask.hi) == 0#64) = q := ⟨_, rfl⟩
  rw [hq] at e
  unfold Wide.enc at l z
  refine FnP.intro Tryz.func69 rfl rfl fun G w => ?_
  repeat' (first
   | refine WK.seq ?_
   | refine WK.block ?_
   | refine WK.inBlock ?_
   | refine WK.skip ?_
   | refine WK.label ?_
   | refine WK.scope ?_
   | refine WK.inScope ?_
   | refine WK.exit rfl ?_
   | refine WK.condT rfl ?_
   | refine WK.condF rfl ?_
   | (refine Hid.h hQ _ _ ?_; clear hQ hA)
   | refine WK.condAny rfl ?_ ?_
   | ((first | refine WK.cond2 rfl (fun h => ?_) (fun h => ?_) | refine Fork.mk (fun h => ?_) (fun h => ?_)) <;> (first | (simp [*] at h; done) | (have h2 := h; simp at h2; exfalso; omega) | (have h2 := h; simp at h2; try simp only [Bool.not_eq_true', Bool.not_eq_false'] at h) | skip))
   | (refine WK.regH Tryz.ntmps69 (by kernel_rfl) ?_; intro A hA Q hQ; simp [Inst.enc, *])
   | (refine RunQ.gd rfl (by rw [hA.h]; rfl) ?_; simp [Inst.enc, *])
   | ((first | ((first | refine RunQ.call rfl rfl rfl rfl rfl ?_ (l) ?_ ?_ | refine RunQW.call rfl rfl rfl rfl ?_ (l) ?_ ?_); (focus (simp (maxDischargeDepth := 120) [Inst.enc, *]; done))) | ((first | refine RunQ.call rfl rfl rfl rfl rfl ?_ (z) ?_ ?_ | refine RunQW.call rfl rfl rfl rfl ?_ (z) ?_ ?_); (focus (simp (maxDischargeDepth := 120) [Inst.enc, *]; done)))); (focus (simp [Inst.enc, *]; done)); refine RunQ.evalH ?_; simp [Inst.enc, *])
   | (refine WK.ret Tryz.func69 ?_ ?_ <;> simp (maxDischargeDepth := 120) [Tryz.results69, Inst.enc, *])
   | fail)
theorem iempty1_c (x : BitVec 8) : FnP Tryz.prog 117 [.int .u8 (bI x)] (.bool (!(x == 0#8))) := by
  have e := bI_zero x
  refine FnP.intro Tryz.func117 rfl rfl fun G w => ?_
  repeat' (first
   | refine WK.seq ?_
   | refine WK.block ?_
   | refine WK.inBlock ?_
   | refine WK.skip ?_
   | refine WK.label ?_
   | refine WK.scope ?_
   | refine WK.inScope ?_
   | refine WK.exit rfl ?_
   | refine WK.condT rfl ?_
   | refine WK.condF rfl ?_
   | (refine Hid.h hQ _ _ ?_; clear hQ hA)
   | refine WK.condAny rfl ?_ ?_
   | ((first | refine WK.cond2 rfl (fun h => ?_) (fun h => ?_)) <;> (first | (simp [*] at h; done) | (have h2 := h; simp at h2; exfalso; omega) | (have h2 := h; simp at h2; try simp only [Bool.not_eq_true', Bool.not_eq_false'] at h) | skip))
   | (refine WK.regH Tryz.ntmps117 (by kernel_rfl) ?_; intro A hA Q hQ; simp [bne, *])
   | (refine WK.ret Tryz.func117 ?_ ?_ <;> simp (maxDischargeDepth := 120) [Tryz.results117, bne, *])
   | fail)
theorem iempty_c (b : List (BitVec 8)) (hb : b.length ≤ 9223372036854775807) : FnP Tryz.prog 101 [byS b] (.bool (allZ b)) := by
  have hco := containsf_by 117 [] (fun x => !(x == 0#8)) b rfl hb (fun x _ => iempty1_c x)
  have e : allZ b = !(b.any fun x => !(x == 0#8)) := by rw [any_allZ]; simp
  rw [e]
  refine FnP.intro Tryz.func101 rfl rfl fun G w => ?_
  repeat' (first
   | refine WK.seq ?_
   | refine WK.block ?_
   | refine WK.inBlock ?_
   | refine WK.skip ?_
   | refine WK.label ?_
   | refine WK.scope ?_
   | refine WK.inScope ?_
   | refine WK.exit rfl ?_
   | refine WK.condT rfl ?_
   | refine WK.condF rfl ?_
   | (refine Hid.h hQ _ _ ?_; clear hQ hA)
   | refine WK.condAny rfl ?_ ?_
   | ((first | refine WK.cond2 rfl (fun h => ?_) (fun h => ?_)) <;> (first | (simp [*] at h; done) | (have h2 := h; simp at h2; exfalso; omega) | (have h2 := h; simp at h2; try simp only [Bool.not_eq_true', Bool.not_eq_false'] at h) | skip))
   | (refine WK.regH Tryz.ntmps101 (by kernel_rfl) ?_; intro A hA Q hQ; simp [*])
   | ((refine RunQ.call rfl rfl rfl rfl rfl ?_ (hco) ?_ ?_; (focus (simp (maxDischargeDepth := 120) [*]; done))); (focus (simp [*]; done)); refine RunQ.evalH ?_; simp [*])
   | (refine WK.ret Tryz.func101 ?_ ?_ <;> simp (maxDischargeDepth := 120) [Tryz.results101, *])
   | fail)
theorem ilaid_c (k : Int) (b : List (BitVec 8)) (hb : b.length ≤ 1000000) (h8 : 8 ≤ b.length) : FnP Tryz.prog 83 [.int .i64 k, byS b] (.bool (inLaid k b)) := by
  have p5 := iempty_c (b.drop 5) (by rw [List.length_drop]; omega)
  have p4 := iempty_c (b.drop 4) (by rw [List.length_drop]; omega)
  have p44 := iempty_c ((b.drop 4).take 4) (by rw [List.length_take, List.length_drop]; omega)
  have s5 : ((byL b).drop 5).take (b.length - 5) = byL (b.drop 5) := by rw [byL_drop]; exact by_full _ _ (by rw [List.length_drop])
  have s4 : ((byL b).drop 4).take (b.length - 4) = byL (b.drop 4) := by rw [byL_drop]; exact by_full _ _ (by rw [List.length_drop])
  have s44 : ((byL b).drop 4).take 4 = byL ((b.drop 4).take 4) := by rw [byL_drop, byL_take]
  have l44 : ((b.drop 4).take 4).length = 4 := by rw [List.length_take, List.length_drop]; omega
  have u5 : (5 : Int) ≤ b.length := by omega
  have u4 : (4 : Int) ≤ b.length := by omega
  have u8 : (8 : Int) ≤ b.length := by omega
  have z8 : ((b.length : Int) == 8) = (b.length == 8) := by rw [Bool.eq_iff_iff, beq_iff_eq, beq_iff_eq]; omega
  have z24 : ((b.length : Int) == 24) = (b.length == 24) := by rw [Bool.eq_iff_iff, beq_iff_eq, beq_iff_eq]; omega
  obtain ⟨q8, hq8⟩ : ∃ q, (b.length == 8) = q := ⟨_, rfl⟩
  obtain ⟨q24, hq24⟩ : ∃ q, (b.length == 24) = q := ⟨_, rfl⟩
  have hdef : inLaid k b = if k = 1 then q8 && allZ (b.drop 5) else if k = 2 then q24 && allZ ((b.drop 4).take 4) else if k = 5 then q8 && allZ (b.drop 4) else allZ ((b.drop 4).take 4) := by
    unfold inLaid; rw [hq8, hq24]
  rw [hq8] at z8
  rw [hq24] at z24
  simp only [byS, List.length_drop, l44] at p5 p4 p44 ⊢
  obtain ⟨a5, ha5⟩ : ∃ q, allZ (b.drop 5) = q := ⟨_, rfl⟩
  obtain ⟨a4, ha4⟩ : ∃ q, allZ (b.drop 4) = q := ⟨_, rfl⟩
  obtain ⟨a44, ha44⟩ : ∃ q, allZ ((b.drop 4).take 4) = q := ⟨_, rfl⟩
  rw [ha5] at p5 hdef
  rw [ha4] at p4 hdef
  rw [ha44] at p44 hdef
  obtain ⟨B5, hB5⟩ : ∃ q, b.drop 5 = q := ⟨_, rfl⟩
  obtain ⟨B44, hB44⟩ : ∃ q, (b.drop 4).take 4 = q := ⟨_, rfl⟩
  rw [hB44] at p44 s44
  obtain ⟨B4, hB4⟩ : ∃ q, b.drop 4 = q := ⟨_, rfl⟩
  rw [hB5] at p5 s5
  rw [hB4] at p4 s4
  rw [hdef]
  clear ha5 ha4 ha44 hdef l44 hq8 hq24 hB5 hB4 hB44
  refine FnP.intro Tryz.func83 rfl rfl fun G w => ?_
  by_cases k1 : k = 1
  · subst k1
    repeat' (first
     | refine WK.seq ?_
     | refine WK.block ?_
     | refine WK.inBlock ?_
     | refine WK.skip ?_
     | refine WK.label ?_
     | refine WK.scope ?_
     | refine WK.inScope ?_
     | refine WK.exit rfl ?_
     | refine WK.condT rfl ?_
     | refine WK.condF rfl ?_
     | (refine Hid.h hQ _ _ ?_; clear hQ hA)
     | refine WK.condAny rfl ?_ ?_
     | ((first | refine WK.cond2 rfl (fun h => ?_) (fun h => ?_) | refine Fork.mk (fun h => ?_) (fun h => ?_)) <;> (first | (simp [*] at h; done) | (have h2 := h; simp at h2; exfalso; omega) | (have h2 := h; simp at h2; try simp only [Bool.not_eq_true', Bool.not_eq_false'] at h) | skip))
     | (refine WK.regH Tryz.ntmps83 (by kernel_rfl) ?_; intro A hA Q hQ; simp [*])
     | (refine RunQ.gd rfl (by rw [hA.h]; rfl) ?_; simp [*])
     | (((first | refine RunQ.call rfl rfl rfl rfl rfl ?_ (p5) ?_ ?_ | refine RunQW.call rfl rfl rfl rfl ?_ (p5) ?_ ?_); (focus (simp (maxDischargeDepth := 120) [*]; done))); (focus (simp [*]; done)); refine RunQ.evalH ?_; simp [*])
     | (refine WK.ret Tryz.func83 ?_ ?_ <;> simp (maxDischargeDepth := 120) [Tryz.results83, *])
     | fail)
  have j1 : (k == 1) = false := by simpa using k1
  by_cases k2 : k = 2
  · subst k2
    repeat' (first
     | refine WK.seq ?_
     | refine WK.block ?_
     | refine WK.inBlock ?_
     | refine WK.skip ?_
     | refine WK.label ?_
     | refine WK.scope ?_
     | refine WK.inScope ?_
     | refine WK.exit rfl ?_
     | refine WK.condT rfl ?_
     | refine WK.condF rfl ?_
     | (refine Hid.h hQ _ _ ?_; clear hQ hA)
     | refine WK.condAny rfl ?_ ?_
     | ((first | refine WK.cond2 rfl (fun h => ?_) (fun h => ?_) | refine Fork.mk (fun h => ?_) (fun h => ?_)) <;> (first | (simp [*] at h; done) | (have h2 := h; simp at h2; exfalso; omega) | (have h2 := h; simp at h2; try simp only [Bool.not_eq_true', Bool.not_eq_false'] at h) | skip))
     | (refine WK.regH Tryz.ntmps83 (by kernel_rfl) ?_; intro A hA Q hQ; simp [*])
     | (refine RunQ.gd rfl (by rw [hA.h]; rfl) ?_; simp [*])
     | (((first | refine RunQ.call rfl rfl rfl rfl rfl ?_ (p44) ?_ ?_ | refine RunQW.call rfl rfl rfl rfl ?_ (p44) ?_ ?_); (focus (simp (maxDischargeDepth := 120) [*]; done))); (focus (simp [*]; done)); refine RunQ.evalH ?_; simp [*])
     | (refine WK.ret Tryz.func83 ?_ ?_ <;> simp (maxDischargeDepth := 120) [Tryz.results83, *])
     | fail)
  have j2 : (k == 2) = false := by simpa using k2
  by_cases k5 : k = 5
  · subst k5
    repeat' (first
     | refine WK.seq ?_
     | refine WK.block ?_
     | refine WK.inBlock ?_
     | refine WK.skip ?_
     | refine WK.label ?_
     | refine WK.scope ?_
     | refine WK.inScope ?_
     | refine WK.exit rfl ?_
     | refine WK.condT rfl ?_
     | refine WK.condF rfl ?_
     | (refine Hid.h hQ _ _ ?_; clear hQ hA)
     | refine WK.condAny rfl ?_ ?_
     | ((first | refine WK.cond2 rfl (fun h => ?_) (fun h => ?_) | refine Fork.mk (fun h => ?_) (fun h => ?_)) <;> (first | (simp [*] at h; done) | (have h2 := h; simp at h2; exfalso; omega) | (have h2 := h; simp at h2; try simp only [Bool.not_eq_true', Bool.not_eq_false'] at h) | skip))
     | (refine WK.regH Tryz.ntmps83 (by kernel_rfl) ?_; intro A hA Q hQ; simp [*])
     | (refine RunQ.gd rfl (by rw [hA.h]; rfl) ?_; simp [*])
     | (((first | refine RunQ.call rfl rfl rfl rfl rfl ?_ (p4) ?_ ?_ | refine RunQW.call rfl rfl rfl rfl ?_ (p4) ?_ ?_); (focus (simp (maxDischargeDepth := 120) [*]; done))); (focus (simp [*]; done)); refine RunQ.evalH ?_; simp [*])
     | (refine WK.ret Tryz.func83 ?_ ?_ <;> simp (maxDischargeDepth := 120) [Tryz.results83, *])
     | fail)
  have j5 : (k == 5) = false := by simpa using k5
  repeat' (first
   | refine WK.seq ?_
   | refine WK.block ?_
   | refine WK.inBlock ?_
   | refine WK.skip ?_
   | refine WK.label ?_
   | refine WK.scope ?_
   | refine WK.inScope ?_
   | refine WK.exit rfl ?_
   | refine WK.condT rfl ?_
   | refine WK.condF rfl ?_
   | (refine Hid.h hQ _ _ ?_; clear hQ hA)
   | refine WK.condAny rfl ?_ ?_
   | ((first | refine WK.cond2 rfl (fun h => ?_) (fun h => ?_) | refine Fork.mk (fun h => ?_) (fun h => ?_)) <;> (first | (simp [*] at h; done) | (have h2 := h; simp at h2; exfalso; omega) | (have h2 := h; simp at h2; try simp only [Bool.not_eq_true', Bool.not_eq_false'] at h) | skip))
   | (refine WK.regH Tryz.ntmps83 (by kernel_rfl) ?_; intro A hA Q hQ; simp [*])
   | (refine RunQ.gd rfl (by rw [hA.h]; rfl) ?_; simp [*])
   | (((first | refine RunQ.call rfl rfl rfl rfl rfl ?_ (p44) ?_ ?_ | refine RunQW.call rfl rfl rfl rfl ?_ (p44) ?_ ?_); (focus (simp (maxDischargeDepth := 120) [*]; done))); (focus (simp [*]; done)); refine RunQ.evalH ?_; simp [*])
   | (refine WK.ret Tryz.func83 ?_ ?_ <;> simp (maxDischargeDepth := 120) [Tryz.results83, *])
   | fail)
set_option maxHeartbeats 4000000 in
theorem icut_c (b : List (BitVec 8)) (hb : b.length ≤ 1000000) : FnP Tryz.prog 51 [byS b] (.tup [.int .i64 (inCut b).1, byS (b.take (inCut b).2.1), .agg (gFault (inCut b).2.2)]) := by
  have b7 := ibad_c 7
  have b1 := ibad_c 1
  have b0 := ibad_c 0
  have g0 := nget_c b 0 2 Sz2 (by omega) (by omega)
  have g1 := nget_c b 2 2 Sz2 (by omega) (by omega)
  by_cases c0 : b.length < 8
  · have e : inCut b = (0, 0, some (3, 7)) := by unfold inCut; rw [if_pos c0]
    have c0' : (b.length : Int) < 8 := by omega
    obtain ⟨q0, hq0⟩ : ∃ q, getN b 0 2 = q := ⟨_, rfl⟩
    obtain ⟨q1, hq1⟩ : ∃ q, getN b 2 2 = q := ⟨_, rfl⟩
    rw [hq0] at g0
    rw [hq1] at g1
    rw [e]
    simp only [byS, List.take_zero, List.length_nil, byL_nil] at *
    clear b1 b0 hq0 hq1
    refine FnP.intro Tryz.func51 rfl rfl fun G w => ?_
    repeat' (first
     | refine WK.seq ?_
     | refine WK.block ?_
     | refine WK.inBlock ?_
     | refine WK.skip ?_
     | refine WK.label ?_
     | refine WK.scope ?_
     | refine WK.inScope ?_
     | refine WK.exit rfl ?_
     | refine WK.condT rfl ?_
     | refine WK.condF rfl ?_
     | (refine Hid.h hQ _ _ ?_; clear hQ hA)
     | refine WK.condAny rfl ?_ ?_
     | ((first | refine WK.cond2 rfl (fun h => ?_) (fun h => ?_) | refine Fork.mk (fun h => ?_) (fun h => ?_)) <;> (first | (simp [*] at h; done) | (have h2 := h; simp at h2; exfalso; omega) | (have h2 := h; simp at h2; try simp only [Bool.not_eq_true', Bool.not_eq_false'] at h) | skip))
     | ((first | refine WK.regH Tryz.ntmps51 (by kernel_rfl) ?_ | refine WK.regX (by kernel_rfl) Tryz.ntmps51 (by kernel_rfl) ?_); intro A hA Q hQ; simp [gFault, *])
     | (refine Hid.h hQ _ _ _ (by decide +kernel) ?_; clear hQ hA)
     | ((first | refine RunQ.gd rfl (by rw [hA.h]; rfl) ?_ | refine RunX.gd rfl (by rw [hA.h]; rfl) ?_); simp [gFault, *])
     | ((first | ((first | refine RunQ.call rfl rfl rfl rfl rfl ?_ (g0) ?_ ?_ | refine RunQW.call rfl rfl rfl rfl ?_ (g0) ?_ ?_ | refine RunX.call rfl rfl rfl rfl ?_ (g0) ?_ ?_ | refine RunXW.call rfl rfl rfl ?_ (g0) ?_ ?_); (focus (simp (maxDischargeDepth := 120) [gFault, *]; done))) | ((first | refine RunQ.call rfl rfl rfl rfl rfl ?_ (g1) ?_ ?_ | refine RunQW.call rfl rfl rfl rfl ?_ (g1) ?_ ?_ | refine RunX.call rfl rfl rfl rfl ?_ (g1) ?_ ?_ | refine RunXW.call rfl rfl rfl ?_ (g1) ?_ ?_); (focus (simp (maxDischargeDepth := 120) [gFault, *]; done))) | ((first | refine RunQ.call rfl rfl rfl rfl rfl ?_ (b7) ?_ ?_ | refine RunQW.call rfl rfl rfl rfl ?_ (b7) ?_ ?_ | refine RunX.call rfl rfl rfl rfl ?_ (b7) ?_ ?_ | refine RunXW.call rfl rfl rfl ?_ (b7) ?_ ?_); (focus (simp (maxDischargeDepth := 120) [gFault, *]; done)))); (focus (simp [gFault, *]; done)); (first | refine RunQ.evalH ?_ | refine RunX.evalY ?_); simp [gFault, *])
     | (refine WK.ret Tryz.func51 ?_ ?_ <;> simp (maxDischargeDepth := 120) [Tryz.results51, gFault, *])
     | fail)
  have c0' : ¬ (b.length : Int) < 8 := by omega
  have hlt : valN ((b.drop 2).take 2) < 65536 := valN_lt 2 _ (by simp; omega)
  have hlk : valN ((b.drop 0).take 2) < 65536 := valN_lt 2 _ (by simp; omega)
  have hdef : inCut b = if valN ((b.drop 2).take 2) < 8 ∨ ¬ valN ((b.drop 2).take 2) % 8 = 0 ∨ b.length < valN ((b.drop 2).take 2) then (0, 0, some (3, 7))
    else if valN ((b.drop 0).take 2) = 6 then (0, 0, some (3, 1))
    else if valN ((b.drop 0).take 2) < 1 ∨ 5 < valN ((b.drop 0).take 2) then (0, 0, some (3, 0))
    else if inLaid (valN ((b.drop 0).take 2)) (b.take (valN ((b.drop 2).take 2))) = false then (0, 0, some (3, 7))
    else ((valN ((b.drop 0).take 2) : Int), valN ((b.drop 2).take 2), none) := by unfold inCut; rw [if_neg c0]
  rw [getN_val (by omega)] at g0 g1
  obtain ⟨n, hn⟩ : ∃ n, valN ((b.drop 2).take 2) = n := ⟨_, rfl⟩
  obtain ⟨k, hk⟩ : ∃ k, valN ((b.drop 0).take 2) = k := ⟨_, rfl⟩
  rw [hn] at g1 hdef hlt
  rw [hk] at g0 hdef hlk
  clear hn hk
  have m7 := bAnd7 n hlt
  have z7 : (((n % 8 : Nat) : Int) == 0) = (n % 8 == 0) := by rw [Bool.eq_iff_iff, beq_iff_eq, beq_iff_eq]; omega
  by_cases c1 : n < 8
  · have e : inCut b = (0, 0, some (3, 7)) := by rw [hdef, if_pos (.inl (by omega))]
    have d1 : (n : Int) < 8 := by omega
    rw [e]
    simp only [byS, List.take_zero, List.length_nil, byL_nil] at *
    clear hdef b1 b0
    refine FnP.intro Tryz.func51 rfl rfl fun G w => ?_
    repeat' (first
     | refine WK.seq ?_
     | refine WK.block ?_
     | refine WK.inBlock ?_
     | refine WK.skip ?_
     | refine WK.label ?_
     | refine WK.scope ?_
     | refine WK.inScope ?_
     | refine WK.exit rfl ?_
     | refine WK.condT rfl ?_
     | refine WK.condF rfl ?_
     | (refine Hid.h hQ _ _ ?_; clear hQ hA)
     | refine WK.condAny rfl ?_ ?_
     | ((first | refine WK.cond2 rfl (fun h => ?_) (fun h => ?_) | refine Fork.mk (fun h => ?_) (fun h => ?_)) <;> (first | (simp [*] at h; done) | (have h2 := h; simp at h2; exfalso; omega) | (have h2 := h; simp at h2; try simp only [Bool.not_eq_true', Bool.not_eq_false'] at h) | skip))
     | ((first | refine WK.regH Tryz.ntmps51 (by kernel_rfl) ?_ | refine WK.regX (by kernel_rfl) Tryz.ntmps51 (by kernel_rfl) ?_); intro A hA Q hQ; simp [gFault, *])
     | (refine Hid.h hQ _ _ _ (by decide +kernel) ?_; clear hQ hA)
     | ((first | refine RunQ.gd rfl (by rw [hA.h]; rfl) ?_ | refine RunX.gd rfl (by rw [hA.h]; rfl) ?_); simp [gFault, *])
     | ((first | ((first | refine RunQ.call rfl rfl rfl rfl rfl ?_ (g0) ?_ ?_ | refine RunQW.call rfl rfl rfl rfl ?_ (g0) ?_ ?_ | refine RunX.call rfl rfl rfl rfl ?_ (g0) ?_ ?_ | refine RunXW.call rfl rfl rfl ?_ (g0) ?_ ?_); (focus (simp (maxDischargeDepth := 120) [gFault, *]; done))) | ((first | refine RunQ.call rfl rfl rfl rfl rfl ?_ (g1) ?_ ?_ | refine RunQW.call rfl rfl rfl rfl ?_ (g1) ?_ ?_ | refine RunX.call rfl rfl rfl rfl ?_ (g1) ?_ ?_ | refine RunXW.call rfl rfl rfl ?_ (g1) ?_ ?_); (focus (simp (maxDischargeDepth := 120) [gFault, *]; done))) | ((first | refine RunQ.call rfl rfl rfl rfl rfl ?_ (b7) ?_ ?_ | refine RunQW.call rfl rfl rfl rfl ?_ (b7) ?_ ?_ | refine RunX.call rfl rfl rfl rfl ?_ (b7) ?_ ?_ | refine RunXW.call rfl rfl rfl ?_ (b7) ?_ ?_); (focus (simp (maxDischargeDepth := 120) [gFault, *]; done)))); (focus (simp [gFault, *]; done)); (first | refine RunQ.evalH ?_ | refine RunX.evalY ?_); simp [gFault, *])
     | (refine WK.ret Tryz.func51 ?_ ?_ <;> simp (maxDischargeDepth := 120) [Tryz.results51, gFault, *])
     | fail)
  have d1 : ¬ (n : Int) < 8 := by omega
  by_cases c2 : n % 8 = 0
  case neg =>
    have e : inCut b = (0, 0, some (3, 7)) := by rw [hdef, if_pos (.inr (.inl (by omega)))]
    have d2 : (n % 8 == 0) = false := by simpa using c2
    rw [d2] at z7
    rw [e]
    simp only [byS, List.take_zero, List.length_nil, byL_nil] at *
    obtain ⟨r, hr⟩ : ∃ r, n % 8 = r := ⟨_, rfl⟩
    rw [hr] at m7 z7
    clear hdef hr c2 d2 b1 b0
    refine FnP.intro Tryz.func51 rfl rfl fun G w => ?_
    repeat' (first
     | refine WK.seq ?_
     | refine WK.block ?_
     | refine WK.inBlock ?_
     | refine WK.skip ?_
     | refine WK.label ?_
     | refine WK.scope ?_
     | refine WK.inScope ?_
     | refine WK.exit rfl ?_
     | refine WK.condT rfl ?_
     | refine WK.condF rfl ?_
     | (refine Hid.h hQ _ _ ?_; clear hQ hA)
     | refine WK.condAny rfl ?_ ?_
     | ((first | refine WK.cond2 rfl (fun h => ?_) (fun h => ?_) | refine Fork.mk (fun h => ?_) (fun h => ?_)) <;> (first | (simp [*] at h; done) | (have h2 := h; simp at h2; exfalso; omega) | (have h2 := h; simp at h2; try simp only [Bool.not_eq_true', Bool.not_eq_false'] at h) | skip))
     | ((first | refine WK.regH Tryz.ntmps51 (by kernel_rfl) ?_ | refine WK.regX (by kernel_rfl) Tryz.ntmps51 (by kernel_rfl) ?_); intro A hA Q hQ; simp [gFault, bne, *])
     | (refine Hid.h hQ _ _ _ (by decide +kernel) ?_; clear hQ hA)
     | ((first | refine RunQ.gd rfl (by rw [hA.h]; rfl) ?_ | refine RunX.gd rfl (by rw [hA.h]; rfl) ?_); simp [gFault, bne, *])
     | ((first | ((first | refine RunQ.call rfl rfl rfl rfl rfl ?_ (g0) ?_ ?_ | refine RunQW.call rfl rfl rfl rfl ?_ (g0) ?_ ?_ | refine RunX.call rfl rfl rfl rfl ?_ (g0) ?_ ?_ | refine RunXW.call rfl rfl rfl ?_ (g0) ?_ ?_); (focus (simp (maxDischargeDepth := 120) [gFault, bne, *]; done))) | ((first | refine RunQ.call rfl rfl rfl rfl rfl ?_ (g1) ?_ ?_ | refine RunQW.call rfl rfl rfl rfl ?_ (g1) ?_ ?_ | refine RunX.call rfl rfl rfl rfl ?_ (g1) ?_ ?_ | refine RunXW.call rfl rfl rfl ?_ (g1) ?_ ?_); (focus (simp (maxDischargeDepth := 120) [gFault, bne, *]; done))) | ((first | refine RunQ.call rfl rfl rfl rfl rfl ?_ (b7) ?_ ?_ | refine RunQW.call rfl rfl rfl rfl ?_ (b7) ?_ ?_ | refine RunX.call rfl rfl rfl rfl ?_ (b7) ?_ ?_ | refine RunXW.call rfl rfl rfl ?_ (b7) ?_ ?_); (focus (simp (maxDischargeDepth := 120) [gFault, bne, *]; done)))); (focus (simp [gFault, bne, *]; done)); (first | refine RunQ.evalH ?_ | refine RunX.evalY ?_); simp [gFault, bne, *])
     | (refine WK.ret Tryz.func51 ?_ ?_ <;> simp (maxDischargeDepth := 120) [Tryz.results51, gFault, bne, *])
     | fail)
  have d2 : (n % 8 == 0) = true := by simpa using c2
  rw [d2] at z7
  by_cases c3 : b.length < n
  · have e : inCut b = (0, 0, some (3, 7)) := by rw [hdef, if_pos (.inr (.inr (by omega)))]
    have d3 : (b.length : Int) < n := by omega
    rw [e]
    simp only [byS, List.take_zero, List.length_nil, byL_nil] at *
    obtain ⟨r, hr⟩ : ∃ r, n % 8 = r := ⟨_, rfl⟩
    rw [hr] at m7 z7
    clear hdef hr c2 d2 b1 b0
    refine FnP.intro Tryz.func51 rfl rfl fun G w => ?_
    repeat' (first
     | refine WK.seq ?_
     | refine WK.block ?_
     | refine WK.inBlock ?_
     | refine WK.skip ?_
     | refine WK.label ?_
     | refine WK.scope ?_
     | refine WK.inScope ?_
     | refine WK.exit rfl ?_
     | refine WK.condT rfl ?_
     | refine WK.condF rfl ?_
     | (refine Hid.h hQ _ _ ?_; clear hQ hA)
     | refine WK.condAny rfl ?_ ?_
     | ((first | refine WK.cond2 rfl (fun h => ?_) (fun h => ?_) | refine Fork.mk (fun h => ?_) (fun h => ?_)) <;> (first | (simp [*] at h; done) | (have h2 := h; simp at h2; exfalso; omega) | (have h2 := h; simp at h2; try simp only [Bool.not_eq_true', Bool.not_eq_false'] at h) | skip))
     | ((first | refine WK.regH Tryz.ntmps51 (by kernel_rfl) ?_ | refine WK.regX (by kernel_rfl) Tryz.ntmps51 (by kernel_rfl) ?_); intro A hA Q hQ; simp [gFault, bne, *])
     | (refine Hid.h hQ _ _ _ (by decide +kernel) ?_; clear hQ hA)
     | ((first | refine RunQ.gd rfl (by rw [hA.h]; rfl) ?_ | refine RunX.gd rfl (by rw [hA.h]; rfl) ?_); simp [gFault, bne, *])
     | ((first | ((first | refine RunQ.call rfl rfl rfl rfl rfl ?_ (g0) ?_ ?_ | refine RunQW.call rfl rfl rfl rfl ?_ (g0) ?_ ?_ | refine RunX.call rfl rfl rfl rfl ?_ (g0) ?_ ?_ | refine RunXW.call rfl rfl rfl ?_ (g0) ?_ ?_); (focus (simp (maxDischargeDepth := 120) [gFault, bne, *]; done))) | ((first | refine RunQ.call rfl rfl rfl rfl rfl ?_ (g1) ?_ ?_ | refine RunQW.call rfl rfl rfl rfl ?_ (g1) ?_ ?_ | refine RunX.call rfl rfl rfl rfl ?_ (g1) ?_ ?_ | refine RunXW.call rfl rfl rfl ?_ (g1) ?_ ?_); (focus (simp (maxDischargeDepth := 120) [gFault, bne, *]; done))) | ((first | refine RunQ.call rfl rfl rfl rfl rfl ?_ (b7) ?_ ?_ | refine RunQW.call rfl rfl rfl rfl ?_ (b7) ?_ ?_ | refine RunX.call rfl rfl rfl rfl ?_ (b7) ?_ ?_ | refine RunXW.call rfl rfl rfl ?_ (b7) ?_ ?_); (focus (simp (maxDischargeDepth := 120) [gFault, bne, *]; done)))); (focus (simp [gFault, bne, *]; done)); (first | refine RunQ.evalH ?_ | refine RunX.evalY ?_); simp [gFault, bne, *])
     | (refine WK.ret Tryz.func51 ?_ ?_ <;> simp (maxDischargeDepth := 120) [Tryz.results51, gFault, bne, *])
     | fail)
  have d3 : ¬ (b.length : Int) < n := by omega
  rw [if_neg (by rintro (h | h | h); omega; exact h c2; omega)] at hdef
  obtain ⟨r, hr⟩ : ∃ r, n % 8 = r := ⟨_, rfl⟩
  rw [hr] at m7 z7
  clear hr c2 d2
  by_cases k6 : k = 6
  · subst k6
    rw [if_pos rfl] at hdef
    rw [hdef]
    simp only [byS, List.take_zero, List.length_nil, byL_nil] at *
    clear hdef b0 b7
    refine FnP.intro Tryz.func51 rfl rfl fun G w => ?_
    repeat' (first
     | refine WK.seq ?_
     | refine WK.block ?_
     | refine WK.inBlock ?_
     | refine WK.skip ?_
     | refine WK.label ?_
     | refine WK.scope ?_
     | refine WK.inScope ?_
     | refine WK.exit rfl ?_
     | refine WK.condT rfl ?_
     | refine WK.condF rfl ?_
     | (refine Hid.h hQ _ _ ?_; clear hQ hA)
     | refine WK.condAny rfl ?_ ?_
     | ((first | refine WK.cond2 rfl (fun h => ?_) (fun h => ?_) | refine Fork.mk (fun h => ?_) (fun h => ?_)) <;> (first | (simp [*] at h; done) | (have h2 := h; simp at h2; exfalso; omega) | (have h2 := h; simp at h2; try simp only [Bool.not_eq_true', Bool.not_eq_false'] at h) | skip))
     | ((first | refine WK.regH Tryz.ntmps51 (by kernel_rfl) ?_ | refine WK.regX (by kernel_rfl) Tryz.ntmps51 (by kernel_rfl) ?_); intro A hA Q hQ; simp [gFault, bne, *])
     | (refine Hid.h hQ _ _ _ (by decide +kernel) ?_; clear hQ hA)
     | ((first | refine RunQ.gd rfl (by rw [hA.h]; rfl) ?_ | refine RunX.gd rfl (by rw [hA.h]; rfl) ?_); simp [gFault, bne, *])
     | ((first | ((first | refine RunQ.call rfl rfl rfl rfl rfl ?_ (g0) ?_ ?_ | refine RunQW.call rfl rfl rfl rfl ?_ (g0) ?_ ?_ | refine RunX.call rfl rfl rfl rfl ?_ (g0) ?_ ?_ | refine RunXW.call rfl rfl rfl ?_ (g0) ?_ ?_); (focus (simp (maxDischargeDepth := 120) [gFault, bne, *]; done))) | ((first | refine RunQ.call rfl rfl rfl rfl rfl ?_ (g1) ?_ ?_ | refine RunQW.call rfl rfl rfl rfl ?_ (g1) ?_ ?_ | refine RunX.call rfl rfl rfl rfl ?_ (g1) ?_ ?_ | refine RunXW.call rfl rfl rfl ?_ (g1) ?_ ?_); (focus (simp (maxDischargeDepth := 120) [gFault, bne, *]; done))) | ((first | refine RunQ.call rfl rfl rfl rfl rfl ?_ (b1) ?_ ?_ | refine RunQW.call rfl rfl rfl rfl ?_ (b1) ?_ ?_ | refine RunX.call rfl rfl rfl rfl ?_ (b1) ?_ ?_ | refine RunXW.call rfl rfl rfl ?_ (b1) ?_ ?_); (focus (simp (maxDischargeDepth := 120) [gFault, bne, *]; done)))); (focus (simp [gFault, bne, *]; done)); (first | refine RunQ.evalH ?_ | refine RunX.evalY ?_); simp [gFault, bne, *])
     | (refine WK.ret Tryz.func51 ?_ ?_ <;> simp (maxDischargeDepth := 120) [Tryz.results51, gFault, bne, *])
     | fail)
  have j6 : ((k : Int) == 6) = false := by rw [beq_eq_false_iff_ne]; omega
  rw [if_neg k6] at hdef
  by_cases k0 : k < 1
  · rw [if_pos (.inl k0)] at hdef
    have j0 : (k : Int) < 1 := by omega
    rw [hdef]
    simp only [byS, List.take_zero, List.length_nil, byL_nil] at *
    clear hdef b1 b7 k6
    refine FnP.intro Tryz.func51 rfl rfl fun G w => ?_
    repeat' (first
     | refine WK.seq ?_
     | refine WK.block ?_
     | refine WK.inBlock ?_
     | refine WK.skip ?_
     | refine WK.label ?_
     | refine WK.scope ?_
     | refine WK.inScope ?_
     | refine WK.exit rfl ?_
     | refine WK.condT rfl ?_
     | refine WK.condF rfl ?_
     | (refine Hid.h hQ _ _ ?_; clear hQ hA)
     | refine WK.condAny rfl ?_ ?_
     | ((first | refine WK.cond2 rfl (fun h => ?_) (fun h => ?_) | refine Fork.mk (fun h => ?_) (fun h => ?_)) <;> (first | (simp [*] at h; done) | (have h2 := h; simp at h2; exfalso; omega) | (have h2 := h; simp at h2; try simp only [Bool.not_eq_true', Bool.not_eq_false'] at h) | skip))
     | ((first | refine WK.regH Tryz.ntmps51 (by kernel_rfl) ?_ | refine WK.regX (by kernel_rfl) Tryz.ntmps51 (by kernel_rfl) ?_); intro A hA Q hQ; simp [gFault, bne, *])
     | (refine Hid.h hQ _ _ _ (by decide +kernel) ?_; clear hQ hA)
     | ((first | refine RunQ.gd rfl (by rw [hA.h]; rfl) ?_ | refine RunX.gd rfl (by rw [hA.h]; rfl) ?_); simp [gFault, bne, *])
     | ((first | ((first | refine RunQ.call rfl rfl rfl rfl rfl ?_ (g0) ?_ ?_ | refine RunQW.call rfl rfl rfl rfl ?_ (g0) ?_ ?_ | refine RunX.call rfl rfl rfl rfl ?_ (g0) ?_ ?_ | refine RunXW.call rfl rfl rfl ?_ (g0) ?_ ?_); (focus (simp (maxDischargeDepth := 120) [gFault, bne, *]; done))) | ((first | refine RunQ.call rfl rfl rfl rfl rfl ?_ (g1) ?_ ?_ | refine RunQW.call rfl rfl rfl rfl ?_ (g1) ?_ ?_ | refine RunX.call rfl rfl rfl rfl ?_ (g1) ?_ ?_ | refine RunXW.call rfl rfl rfl ?_ (g1) ?_ ?_); (focus (simp (maxDischargeDepth := 120) [gFault, bne, *]; done))) | ((first | refine RunQ.call rfl rfl rfl rfl rfl ?_ (b0) ?_ ?_ | refine RunQW.call rfl rfl rfl rfl ?_ (b0) ?_ ?_ | refine RunX.call rfl rfl rfl rfl ?_ (b0) ?_ ?_ | refine RunXW.call rfl rfl rfl ?_ (b0) ?_ ?_); (focus (simp (maxDischargeDepth := 120) [gFault, bne, *]; done)))); (focus (simp [gFault, bne, *]; done)); (first | refine RunQ.evalH ?_ | refine RunX.evalY ?_); simp [gFault, bne, *])
     | (refine WK.ret Tryz.func51 ?_ ?_ <;> simp (maxDischargeDepth := 120) [Tryz.results51, gFault, bne, *])
     | fail)
  have j0 : ¬ (k : Int) < 1 := by omega
  by_cases k5 : 5 < k
  · rw [if_pos (.inr k5)] at hdef
    have j5 : (5 : Int) < k := by omega
    rw [hdef]
    simp only [byS, List.take_zero, List.length_nil, byL_nil] at *
    clear hdef b1 b7 k6
    refine FnP.intro Tryz.func51 rfl rfl fun G w => ?_
    repeat' (first
     | refine WK.seq ?_
     | refine WK.block ?_
     | refine WK.inBlock ?_
     | refine WK.skip ?_
     | refine WK.label ?_
     | refine WK.scope ?_
     | refine WK.inScope ?_
     | refine WK.exit rfl ?_
     | refine WK.condT rfl ?_
     | refine WK.condF rfl ?_
     | (refine Hid.h hQ _ _ ?_; clear hQ hA)
     | refine WK.condAny rfl ?_ ?_
     | ((first | refine WK.cond2 rfl (fun h => ?_) (fun h => ?_) | refine Fork.mk (fun h => ?_) (fun h => ?_)) <;> (first | (simp [*] at h; done) | (have h2 := h; simp at h2; exfalso; omega) | (have h2 := h; simp at h2; try simp only [Bool.not_eq_true', Bool.not_eq_false'] at h) | skip))
     | ((first | refine WK.regH Tryz.ntmps51 (by kernel_rfl) ?_ | refine WK.regX (by kernel_rfl) Tryz.ntmps51 (by kernel_rfl) ?_); intro A hA Q hQ; simp [gFault, bne, *])
     | (refine Hid.h hQ _ _ _ (by decide +kernel) ?_; clear hQ hA)
     | ((first | refine RunQ.gd rfl (by rw [hA.h]; rfl) ?_ | refine RunX.gd rfl (by rw [hA.h]; rfl) ?_); simp [gFault, bne, *])
     | ((first | ((first | refine RunQ.call rfl rfl rfl rfl rfl ?_ (g0) ?_ ?_ | refine RunQW.call rfl rfl rfl rfl ?_ (g0) ?_ ?_ | refine RunX.call rfl rfl rfl rfl ?_ (g0) ?_ ?_ | refine RunXW.call rfl rfl rfl ?_ (g0) ?_ ?_); (focus (simp (maxDischargeDepth := 120) [gFault, bne, *]; done))) | ((first | refine RunQ.call rfl rfl rfl rfl rfl ?_ (g1) ?_ ?_ | refine RunQW.call rfl rfl rfl rfl ?_ (g1) ?_ ?_ | refine RunX.call rfl rfl rfl rfl ?_ (g1) ?_ ?_ | refine RunXW.call rfl rfl rfl ?_ (g1) ?_ ?_); (focus (simp (maxDischargeDepth := 120) [gFault, bne, *]; done))) | ((first | refine RunQ.call rfl rfl rfl rfl rfl ?_ (b0) ?_ ?_ | refine RunQW.call rfl rfl rfl rfl ?_ (b0) ?_ ?_ | refine RunX.call rfl rfl rfl rfl ?_ (b0) ?_ ?_ | refine RunXW.call rfl rfl rfl ?_ (b0) ?_ ?_); (focus (simp (maxDischargeDepth := 120) [gFault, bne, *]; done)))); (focus (simp [gFault, bne, *]; done)); (first | refine RunQ.evalH ?_ | refine RunX.evalY ?_); simp [gFault, bne, *])
     | (refine WK.ret Tryz.func51 ?_ ?_ <;> simp (maxDischargeDepth := 120) [Tryz.results51, gFault, bne, *])
     | fail)
  have j5 : ¬ (5 : Int) < k := by omega
  rw [if_neg (by omega)] at hdef
  have hl := ilaid_c k (b.take n) (by rw [List.length_take]; omega) (by rw [List.length_take]; omega)
  have hs : (byL b).take n = byL (b.take n) := byL_take _ _
  have hsl : (b.take n).length = n := by rw [List.length_take]; omega
  obtain ⟨q, hq⟩ : ∃ q, inLaid k (b.take n) = q := ⟨_, rfl⟩
  rw [hq] at hl hdef
  have d4 : (n : Int) ≤ b.length := by omega
  cases q
  · rw [if_pos rfl] at hdef
    rw [hdef]
    simp only [byS, List.take_zero, List.length_nil, byL_nil, hsl] at *
    clear hdef b1 b0 k6 hq k0 k5
    refine FnP.intro Tryz.func51 rfl rfl fun G w => ?_
    repeat' (first
     | refine WK.seq ?_
     | refine WK.block ?_
     | refine WK.inBlock ?_
     | refine WK.skip ?_
     | refine WK.label ?_
     | refine WK.scope ?_
     | refine WK.inScope ?_
     | refine WK.exit rfl ?_
     | refine WK.condT rfl ?_
     | refine WK.condF rfl ?_
     | (refine Hid.h hQ _ _ ?_; clear hQ hA)
     | refine WK.condAny rfl ?_ ?_
     | ((first | refine WK.cond2 rfl (fun h => ?_) (fun h => ?_) | refine Fork.mk (fun h => ?_) (fun h => ?_)) <;> (first | (simp [*] at h; done) | (have h2 := h; simp at h2; exfalso; omega) | (have h2 := h; simp at h2; try simp only [Bool.not_eq_true', Bool.not_eq_false'] at h) | skip))
     | ((first | refine WK.regH Tryz.ntmps51 (by kernel_rfl) ?_ | refine WK.regX (by kernel_rfl) Tryz.ntmps51 (by kernel_rfl) ?_); intro A hA Q hQ; simp [gFault, bne, *])
     | (refine Hid.h hQ _ _ _ (by decide +kernel) ?_; clear hQ hA)
     | ((first | refine RunQ.gd rfl (by rw [hA.h]; rfl) ?_ | refine RunX.gd rfl (by rw [hA.h]; rfl) ?_); simp [gFault, bne, *])
     | ((first | ((first | refine RunQ.call rfl rfl rfl rfl rfl ?_ (g0) ?_ ?_ | refine RunQW.call rfl rfl rfl rfl ?_ (g0) ?_ ?_ | refine RunX.call rfl rfl rfl rfl ?_ (g0) ?_ ?_ | refine RunXW.call rfl rfl rfl ?_ (g0) ?_ ?_); (focus (simp (maxDischargeDepth := 120) [gFault, bne, *]; done))) | ((first | refine RunQ.call rfl rfl rfl rfl rfl ?_ (g1) ?_ ?_ | refine RunQW.call rfl rfl rfl rfl ?_ (g1) ?_ ?_ | refine RunX.call rfl rfl rfl rfl ?_ (g1) ?_ ?_ | refine RunXW.call rfl rfl rfl ?_ (g1) ?_ ?_); (focus (simp (maxDischargeDepth := 120) [gFault, bne, *]; done))) | ((first | refine RunQ.call rfl rfl rfl rfl rfl ?_ (hl) ?_ ?_ | refine RunQW.call rfl rfl rfl rfl ?_ (hl) ?_ ?_ | refine RunX.call rfl rfl rfl rfl ?_ (hl) ?_ ?_ | refine RunXW.call rfl rfl rfl ?_ (hl) ?_ ?_); (focus (simp (maxDischargeDepth := 120) [gFault, bne, *]; done))) | ((first | refine RunQ.call rfl rfl rfl rfl rfl ?_ (b7) ?_ ?_ | refine RunQW.call rfl rfl rfl rfl ?_ (b7) ?_ ?_ | refine RunX.call rfl rfl rfl rfl ?_ (b7) ?_ ?_ | refine RunXW.call rfl rfl rfl ?_ (b7) ?_ ?_); (focus (simp (maxDischargeDepth := 120) [gFault, bne, *]; done)))); (focus (simp [gFault, bne, *]; done)); (first | refine RunQ.evalH ?_ | refine RunX.evalY ?_); simp [gFault, bne, *])
     | (refine WK.ret Tryz.func51 ?_ ?_ <;> simp (maxDischargeDepth := 120) [Tryz.results51, gFault, bne, *])
     | fail)
  · rw [if_neg (by simp)] at hdef
    rw [hdef]
    simp only [byS, hsl] at *
    clear hdef b1 b0 k6 hq k0 k5 b7
    refine FnP.intro Tryz.func51 rfl rfl fun G w => ?_
    repeat' (first
     | refine WK.seq ?_
     | refine WK.block ?_
     | refine WK.inBlock ?_
     | refine WK.skip ?_
     | refine WK.label ?_
     | refine WK.scope ?_
     | refine WK.inScope ?_
     | refine WK.exit rfl ?_
     | refine WK.condT rfl ?_
     | refine WK.condF rfl ?_
     | (refine Hid.h hQ _ _ ?_; clear hQ hA)
     | refine WK.condAny rfl ?_ ?_
     | ((first | refine WK.cond2 rfl (fun h => ?_) (fun h => ?_) | refine Fork.mk (fun h => ?_) (fun h => ?_)) <;> (first | (simp [*] at h; done) | (have h2 := h; simp at h2; exfalso; omega) | (have h2 := h; simp at h2; try simp only [Bool.not_eq_true', Bool.not_eq_false'] at h) | skip))
     | ((first | refine WK.regH Tryz.ntmps51 (by kernel_rfl) ?_ | refine WK.regX (by kernel_rfl) Tryz.ntmps51 (by kernel_rfl) ?_); intro A hA Q hQ; simp [gFault, bne, *])
     | (refine Hid.h hQ _ _ _ (by decide +kernel) ?_; clear hQ hA)
     | ((first | refine RunQ.gd rfl (by rw [hA.h]; rfl) ?_ | refine RunX.gd rfl (by rw [hA.h]; rfl) ?_); simp [gFault, bne, *])
     | ((first | ((first | refine RunQ.call rfl rfl rfl rfl rfl ?_ (g0) ?_ ?_ | refine RunQW.call rfl rfl rfl rfl ?_ (g0) ?_ ?_ | refine RunX.call rfl rfl rfl rfl ?_ (g0) ?_ ?_ | refine RunXW.call rfl rfl rfl ?_ (g0) ?_ ?_); (focus (simp (maxDischargeDepth := 120) [gFault, bne, *]; done))) | ((first | refine RunQ.call rfl rfl rfl rfl rfl ?_ (g1) ?_ ?_ | refine RunQW.call rfl rfl rfl rfl ?_ (g1) ?_ ?_ | refine RunX.call rfl rfl rfl rfl ?_ (g1) ?_ ?_ | refine RunXW.call rfl rfl rfl ?_ (g1) ?_ ?_); (focus (simp (maxDischargeDepth := 120) [gFault, bne, *]; done))) | ((first | refine RunQ.call rfl rfl rfl rfl rfl ?_ (hl) ?_ ?_ | refine RunQW.call rfl rfl rfl rfl ?_ (hl) ?_ ?_ | refine RunX.call rfl rfl rfl rfl ?_ (hl) ?_ ?_ | refine RunXW.call rfl rfl rfl ?_ (hl) ?_ ?_); (focus (simp (maxDischargeDepth := 120) [gFault, bne, *]; done)))); (focus (simp [gFault, bne, *]; done)); (first | refine RunQ.evalH ?_ | refine RunX.evalY ?_); simp [gFault, bne, *])
     | (refine WK.ret Tryz.func51 ?_ ?_ <;> simp (maxDischargeDepth := 120) [Tryz.results51, gFault, bne, *])
     | fail)
end Go.Proofs.YteonfhnljphbpaaGreat
end

section
set_option linter.unusedVariables false
set_option linter.unusedSimpArgs false
namespace Go.Proofs.YteonfhnljphbpaaGreat
open Go Go.AI Go.Proofs
attribute [local irreducible] FnP FnO FnB FnT FnSeq WK RunQ RunQW RunX RunXW

theorem u8_i64 (x : BitVec 8) : IntKind.i64.wrap (bI x) = bI x := by
  have := x.isLt
  unfold bI
  exact wrap_i64 (by omega) (by omega)
set_option maxHeartbeats 4000000 in
theorem ione_c (k : Int) (b : List (BitVec 8)) (hb : b.length ≤ 1000000) (h8 : 8 ≤ b.length) (h2 : k = 2 → 24 ≤ b.length) : FnP Tryz.prog 53 [.int .i64 k, byS b] (.tup [.agg (inOf k b).1.enc, .agg (gFault (inOf k b).2)]) := by
  have b2 := ibad_c 2
  have b4 := ibad_c 4
  by_cases k1 : k = 1
  · subst k1
    have x4 := by_get b 4 (by omega)
    have w4 := u8_i64 (nth b 4)
    have u4 : (4 : Int) < b.length := by omega
    have v4 : 4 < b.length := by omega
    have e : inOf 1 b = (⟨1, (nth b 4).toNat, wideZ, wideZ, []⟩, if (nth b 4).toNat = 255 then some (3, 2) else none) := by unfold inOf; rw [if_pos rfl]
    have eb : bI (nth b 4) = ((nth b 4).toNat : Int) := rfl
    rw [e]
    by_cases h255 : (nth b 4).toNat = 255
    · have j : (bI (nth b 4) == 255) = true := by rw [eb, h255]; rfl
      rw [if_pos h255, ← eb]
      obtain ⟨z, hz⟩ : ∃ z, bI (nth b 4) = z := ⟨_, rfl⟩
      rw [hz] at x4 w4 j ⊢
      unfold byS
      clear hz eb e h255 b4
      refine FnP.intro Tryz.func53 rfl rfl fun G w => ?_
      repeat' (first
       | refine WK.seq ?_
       | refine WK.block ?_
       | refine WK.inBlock ?_
       | refine WK.skip ?_
       | refine WK.label ?_
       | refine WK.scope ?_
       | refine WK.inScope ?_
       | refine WK.exit rfl ?_
       | refine WK.condT rfl ?_
       | refine WK.condF rfl ?_
       | (refine Hid.h hQ _ _ ?_; clear hQ hA)
       | refine WK.condAny rfl ?_ ?_
       | ((first | refine WK.cond2 rfl (fun h => ?_) (fun h => ?_)) <;> (first | (simp [*] at h; done) | (have h2 := h; simp at h2; exfalso; omega) | (have h2 := h; simp at h2; try simp only [Bool.not_eq_true', Bool.not_eq_false'] at h) | skip))
       | ((first | refine WK.regH Tryz.ntmps53 (by kernel_rfl) ?_ | refine WK.regX (by kernel_rfl) Tryz.ntmps53 (by kernel_rfl) ?_); intro A hA Q hQ; simp [gFault, Inst.enc, wideZ, uI_zero, *])
       | (refine Hid.h hQ _ _ _ (by decide +kernel) ?_; clear hQ hA)
       | (((first | refine RunQ.call rfl rfl rfl rfl rfl ?_ (b2) ?_ ?_ | refine RunX.call rfl rfl rfl rfl ?_ (b2) ?_ ?_); (focus (simp (maxDischargeDepth := 120) [gFault, Inst.enc, wideZ, uI_zero, *]; done))); (focus (simp [gFault, Inst.enc, wideZ, uI_zero, *]; done)); (first | refine RunQ.evalH ?_ | refine RunX.evalY ?_); simp [gFault, Inst.enc, wideZ, uI_zero, *])
       | (refine WK.ret Tryz.func53 ?_ ?_ <;> simp (maxDischargeDepth := 120) [Tryz.results53, gFault, Inst.enc, wideZ, uI_zero, *])
       | fail)
    · have j : (bI (nth b 4) == 255) = false := by rw [eb, beq_eq_false_iff_ne]; omega
      rw [if_neg h255, ← eb]
      obtain ⟨z, hz⟩ : ∃ z, bI (nth b 4) = z := ⟨_, rfl⟩
      rw [hz] at x4 w4 j ⊢
      unfold byS
      clear hz eb e h255 b4
      refine FnP.intro Tryz.func53 rfl rfl fun G w => ?_
      repeat' (first
       | refine WK.seq ?_
       | refine WK.block ?_
       | refine WK.inBlock ?_
       | refine WK.skip ?_
       | refine WK.label ?_
       | refine WK.scope ?_
       | refine WK.inScope ?_
       | refine WK.exit rfl ?_
       | refine WK.condT rfl ?_
       | refine WK.condF rfl ?_
       | (refine Hid.h hQ _ _ ?_; clear hQ hA)
       | refine WK.condAny rfl ?_ ?_
       | ((first | refine WK.cond2 rfl (fun h => ?_) (fun h => ?_)) <;> (first | (simp [*] at h; done) | (have h2 := h; simp at h2; exfalso; omega) | (have h2 := h; simp at h2; try simp only [Bool.not_eq_true', Bool.not_eq_false'] at h) | skip))
       | ((first | refine WK.regH Tryz.ntmps53 (by kernel_rfl) ?_ | refine WK.regX (by kernel_rfl) Tryz.ntmps53 (by kernel_rfl) ?_); intro A hA Q hQ; simp [gFault, Inst.enc, wideZ, uI_zero, *])
       | (refine Hid.h hQ _ _ _ (by decide +kernel) ?_; clear hQ hA)
       | (refine WK.ret Tryz.func53 ?_ ?_ <;> simp (maxDischargeDepth := 120) [Tryz.results53, gFault, Inst.enc, wideZ, uI_zero, *])
       | fail)
  have j1 : (k == 1) = false := by simpa using k1
  by_cases k2 : k = 2
  · subst k2
    have hb24 := h2 rfl
    have e : inOf 2 b = (⟨2, 0, (wGet (b.drop 8) 8).1, (wGet (b.drop 16) 8).1, []⟩, if inMeta (wGet (b.drop 8) 8).1 (wGet (b.drop 16) 8).1 = true then none else some (3, 4)) := by unfold inOf; rw [if_neg (by decide), if_pos rfl]
    have g1 := wget_c (b.drop 8) 8 (by omega) (by rw [List.length_drop]; omega)
    have g2 := wget_c (b.drop 16) 8 (by omega) (by rw [List.length_drop]; omega)
    have s8 : ((byL b).drop 8).take (b.length - 8) = byL (b.drop 8) := by rw [byL_drop]; exact by_full _ _ (by rw [List.length_drop])
    have s16 : ((byL b).drop 16).take (b.length - 16) = byL (b.drop 16) := by rw [byL_drop]; exact by_full _ _ (by rw [List.length_drop])
    have u8 : (8 : Int) ≤ b.length := by omega
    have u16 : (16 : Int) ≤ b.length := by omega
    obtain ⟨v, hv⟩ : ∃ v, wGet (b.drop 8) 8 = v := ⟨_, rfl⟩
    obtain ⟨m, hm⟩ : ∃ v, wGet (b.drop 16) 8 = v := ⟨_, rfl⟩
    obtain ⟨B8, h8'⟩ : ∃ v, b.drop 8 = v := ⟨_, rfl⟩
    obtain ⟨B16, h16'⟩ : ∃ v, b.drop 16 = v := ⟨_, rfl⟩
    rw [hv] at g1 e
    rw [hm] at g2 e
    rw [h8'] at g1 s8
    rw [h16'] at g2 s16
    have l8 : B8.length = b.length - 8 := by rw [← h8', List.length_drop]
    have l16 : B16.length = b.length - 16 := by rw [← h16', List.length_drop]
    have hme := imeta_c ⟨2, 0, v.1, m.1, []⟩
    rw [e]
    obtain ⟨v, vb⟩ := v
    obtain ⟨m, mb⟩ := m
    simp only at hme g1 g2 ⊢
    obtain ⟨z, hz⟩ : ∃ z, inMeta v m = z := ⟨_, rfl⟩
    rw [hz] at hme ⊢
    unfold Wide.enc at g1 g2
    unfold byS at *
    rw [l8] at g1
    rw [l16] at g2
    simp only [Inst.enc, List.length_nil, actL_nil] at hme
    clear hz hv hm h8' h16' l8 l16 e
    refine FnP.intro Tryz.func53 rfl rfl fun G w => ?_
    cases z
    · repeat' (first
       | refine WK.seq ?_
       | refine WK.block ?_
       | refine WK.inBlock ?_
       | refine WK.skip ?_
       | refine WK.label ?_
       | refine WK.scope ?_
       | refine WK.inScope ?_
       | refine WK.exit rfl ?_
       | refine WK.condT rfl ?_
       | refine WK.condF rfl ?_
       | (refine Hid.h hQ _ _ ?_; clear hQ hA)
       | refine WK.condAny rfl ?_ ?_
       | ((first | refine WK.cond2 rfl (fun h => ?_) (fun h => ?_)) <;> (first | (simp [*] at h; done) | (have h2 := h; simp at h2; exfalso; omega) | (have h2 := h; simp at h2; try simp only [Bool.not_eq_true', Bool.not_eq_false'] at h) | skip))
       | ((first | refine WK.regH Tryz.ntmps53 (by kernel_rfl) ?_ | refine WK.regX (by kernel_rfl) Tryz.ntmps53 (by kernel_rfl) ?_); intro A hA Q hQ; simp [gFault, Inst.enc, *])
       | (refine Hid.h hQ _ _ _ (by decide +kernel) ?_; clear hQ hA)
       | ((first | ((first | refine RunQ.call rfl rfl rfl rfl rfl ?_ (g1) ?_ ?_ | refine RunX.call rfl rfl rfl rfl ?_ (g1) ?_ ?_); (focus (simp (maxDischargeDepth := 120) [gFault, Inst.enc, *]; done))) | ((first | refine RunQ.call rfl rfl rfl rfl rfl ?_ (g2) ?_ ?_ | refine RunX.call rfl rfl rfl rfl ?_ (g2) ?_ ?_); (focus (simp (maxDischargeDepth := 120) [gFault, Inst.enc, *]; done))) | ((first | refine RunQ.call rfl rfl rfl rfl rfl ?_ (hme) ?_ ?_ | refine RunX.call rfl rfl rfl rfl ?_ (hme) ?_ ?_); (focus (simp (maxDischargeDepth := 120) [gFault, Inst.enc, *]; done))) | ((first | refine RunQ.call rfl rfl rfl rfl rfl ?_ (b4) ?_ ?_ | refine RunX.call rfl rfl rfl rfl ?_ (b4) ?_ ?_); (focus (simp (maxDischargeDepth := 120) [gFault, Inst.enc, *]; done)))); (focus (simp [gFault, Inst.enc, *]; done)); (first | refine RunQ.evalH ?_ | refine RunX.evalY ?_); simp [gFault, Inst.enc, *])
       | (refine WK.ret Tryz.func53 ?_ ?_ <;> simp (maxDischargeDepth := 120) [Tryz.results53, gFault, Inst.enc, *])
       | fail)
    · repeat' (first
       | refine WK.seq ?_
       | refine WK.block ?_
       | refine WK.inBlock ?_
       | refine WK.skip ?_
       | refine WK.label ?_
       | refine WK.scope ?_
       | refine WK.inScope ?_
       | refine WK.exit rfl ?_
       | refine WK.condT rfl ?_
       | refine WK.condF rfl ?_
       | (refine Hid.h hQ _ _ ?_; clear hQ hA)
       | refine WK.condAny rfl ?_ ?_
       | ((first | refine WK.cond2 rfl (fun h => ?_) (fun h => ?_)) <;> (first | (simp [*] at h; done) | (have h2 := h; simp at h2; exfalso; omega) | (have h2 := h; simp at h2; try simp only [Bool.not_eq_true', Bool.not_eq_false'] at h) | skip))
       | ((first | refine WK.regH Tryz.ntmps53 (by kernel_rfl) ?_ | refine WK.regX (by kernel_rfl) Tryz.ntmps53 (by kernel_rfl) ?_); intro A hA Q hQ; simp [gFault, Inst.enc, *])
       | (refine Hid.h hQ _ _ _ (by decide +kernel) ?_; clear hQ hA)
       | ((first | ((first | refine RunQ.call rfl rfl rfl rfl rfl ?_ (g1) ?_ ?_ | refine RunX.call rfl rfl rfl rfl ?_ (g1) ?_ ?_); (focus (simp (maxDischargeDepth := 120) [gFault, Inst.enc, *]; done))) | ((first | refine RunQ.call rfl rfl rfl rfl rfl ?_ (g2) ?_ ?_ | refine RunX.call rfl rfl rfl rfl ?_ (g2) ?_ ?_); (focus (simp (maxDischargeDepth := 120) [gFault, Inst.enc, *]; done))) | ((first | refine RunQ.call rfl rfl rfl rfl rfl ?_ (hme) ?_ ?_ | refine RunX.call rfl rfl rfl rfl ?_ (hme) ?_ ?_); (focus (simp (maxDischargeDepth := 120) [gFault, Inst.enc, *]; done)))); (focus (simp [gFault, Inst.enc, *]; done)); (first | refine RunQ.evalH ?_ | refine RunX.evalY ?_); simp [gFault, Inst.enc, *])
       | (refine WK.ret Tryz.func53 ?_ ?_ <;> simp (maxDischargeDepth := 120) [Tryz.results53, gFault, Inst.enc, *])
       | fail)
  have j2 : (k == 2) = false := by simpa using k2
  have ha := acdecP_c (b.drop 8) (by rw [List.length_drop]; omega)
  have s8 : ((byL b).drop 8).take (b.length - 8) = byL (b.drop 8) := by rw [byL_drop]; exact by_full _ _ (by rw [List.length_drop])
  have u8 : (8 : Int) ≤ b.length := by omega
  have l8 : (b.drop 8).length = b.length - 8 := by rw [List.length_drop]
  have e34 : k = 3 ∨ k = 4 → inOf k b = (⟨k, 0, wideZ, wideZ, (acDec (b.drop 8)).1⟩, (acDec (b.drop 8)).2.map fun c => (2, c)) := fun h => by unfold inOf; rw [if_neg k1, if_neg k2, if_pos h]
  have e5 : ¬ (k = 3 ∨ k = 4) → inOf k b = (⟨k, 0, wideZ, wideZ, []⟩, none) := fun h => by unfold inOf; rw [if_neg k1, if_neg k2, if_neg h]
  obtain ⟨B8, h8'⟩ : ∃ v, b.drop 8 = v := ⟨_, rfl⟩
  obtain ⟨R, hR⟩ : ∃ R, acDec (b.drop 8) = R := ⟨_, rfl⟩
  rw [hR] at ha e34
  rw [h8'] at ha s8 l8
  obtain ⟨l, f⟩ := R
  rw [aFault_g] at ha
  simp only [byS, actS, l8] at ha ⊢
  clear hR h8' l8 b2 b4
  by_cases k3 : k = 3
  · subst k3
    rw [e34 (.inl rfl)]
    clear e34 e5
    refine FnP.intro Tryz.func53 rfl rfl fun G w => ?_
    cases f <;>
    · repeat' (first
       | refine WK.seq ?_
       | refine WK.block ?_
       | refine WK.inBlock ?_
       | refine WK.skip ?_
       | refine WK.label ?_
       | refine WK.scope ?_
       | refine WK.inScope ?_
       | refine WK.exit rfl ?_
       | refine WK.condT rfl ?_
       | refine WK.condF rfl ?_
       | (refine Hid.h hQ _ _ ?_; clear hQ hA)
       | refine WK.condAny rfl ?_ ?_
       | ((first | refine WK.cond2 rfl (fun h => ?_) (fun h => ?_)) <;> (first | (simp [*] at h; done) | (have h2 := h; simp at h2; exfalso; omega) | (have h2 := h; simp at h2; try simp only [Bool.not_eq_true', Bool.not_eq_false'] at h) | skip))
       | ((first | refine WK.regH Tryz.ntmps53 (by kernel_rfl) ?_ | refine WK.regX (by kernel_rfl) Tryz.ntmps53 (by kernel_rfl) ?_); intro A hA Q hQ; simp [gFault, Inst.enc, wideZ, uI_zero, *])
       | (refine Hid.h hQ _ _ _ (by decide +kernel) ?_; clear hQ hA)
       | (((first | refine RunQ.call rfl rfl rfl rfl rfl ?_ (ha) ?_ ?_ | refine RunX.call rfl rfl rfl rfl ?_ (ha) ?_ ?_); (focus (simp (maxDischargeDepth := 120) [gFault, Inst.enc, wideZ, uI_zero, *]; done))); (focus (simp [gFault, Inst.enc, wideZ, uI_zero, *]; done)); (first | refine RunQ.evalH ?_ | refine RunX.evalY ?_); simp [gFault, Inst.enc, wideZ, uI_zero, *])
       | (refine WK.ret Tryz.func53 ?_ ?_ <;> simp (maxDischargeDepth := 120) [Tryz.results53, gFault, Inst.enc, wideZ, uI_zero, *])
       | fail)
  have j3 : (k == 3) = false := by simpa using k3
  by_cases k4 : k = 4
  · subst k4
    rw [e34 (.inr rfl)]
    clear e34 e5
    refine FnP.intro Tryz.func53 rfl rfl fun G w => ?_
    cases f <;>
    · repeat' (first
       | refine WK.seq ?_
       | refine WK.block ?_
       | refine WK.inBlock ?_
       | refine WK.skip ?_
       | refine WK.label ?_
       | refine WK.scope ?_
       | refine WK.inScope ?_
       | refine WK.exit rfl ?_
       | refine WK.condT rfl ?_
       | refine WK.condF rfl ?_
       | (refine Hid.h hQ _ _ ?_; clear hQ hA)
       | refine WK.condAny rfl ?_ ?_
       | ((first | refine WK.cond2 rfl (fun h => ?_) (fun h => ?_)) <;> (first | (simp [*] at h; done) | (have h2 := h; simp at h2; exfalso; omega) | (have h2 := h; simp at h2; try simp only [Bool.not_eq_true', Bool.not_eq_false'] at h) | skip))
       | ((first | refine WK.regH Tryz.ntmps53 (by kernel_rfl) ?_ | refine WK.regX (by kernel_rfl) Tryz.ntmps53 (by kernel_rfl) ?_); intro A hA Q hQ; simp [gFault, Inst.enc, wideZ, uI_zero, *])
       | (refine Hid.h hQ _ _ _ (by decide +kernel) ?_; clear hQ hA)
       | (((first | refine RunQ.call rfl rfl rfl rfl rfl ?_ (ha) ?_ ?_ | refine RunX.call rfl rfl rfl rfl ?_ (ha) ?_ ?_); (focus (simp (maxDischargeDepth := 120) [gFault, Inst.enc, wideZ, uI_zero, *]; done))); (focus (simp [gFault, Inst.enc, wideZ, uI_zero, *]; done)); (first | refine RunQ.evalH ?_ | refine RunX.evalY ?_); simp [gFault, Inst.enc, wideZ, uI_zero, *])
       | (refine WK.ret Tryz.func53 ?_ ?_ <;> simp (maxDischargeDepth := 120) [Tryz.results53, gFault, Inst.enc, wideZ, uI_zero, *])
       | fail)
  have j4 : (k == 4) = false := by simpa using k4
  rw [e5 (by omega)]
  clear e34 e5 ha s8
  refine FnP.intro Tryz.func53 rfl rfl fun G w => ?_
  repeat' (first
   | refine WK.seq ?_
   | refine WK.block ?_
   | refine WK.inBlock ?_
   | refine WK.skip ?_
   | refine WK.label ?_
   | refine WK.scope ?_
   | refine WK.inScope ?_
   | refine WK.exit rfl ?_
   | refine WK.condT rfl ?_
   | refine WK.condF rfl ?_
   | (refine Hid.h hQ _ _ ?_; clear hQ hA)
   | refine WK.condAny rfl ?_ ?_
   | ((first | refine WK.cond2 rfl (fun h => ?_) (fun h => ?_)) <;> (first | (simp [*] at h; done) | (have h2 := h; simp at h2; exfalso; omega) | (have h2 := h; simp at h2; try simp only [Bool.not_eq_true', Bool.not_eq_false'] at h) | skip))
   | ((first | refine WK.regH Tryz.ntmps53 (by kernel_rfl) ?_ | refine WK.regX (by kernel_rfl) Tryz.ntmps53 (by kernel_rfl) ?_); intro A hA Q hQ; simp [gFault, Inst.enc, wideZ, uI_zero, *])
   | (refine Hid.h hQ _ _ _ (by decide +kernel) ?_; clear hQ hA)
   | (refine WK.ret Tryz.func53 ?_ ?_ <;> simp (maxDischargeDepth := 120) [Tryz.results53, gFault, Inst.enc, wideZ, uI_zero, *])
   | fail)
set_option maxHeartbeats 4000000 in
theorem iright_c (i : Inst) (hi : i.acts.length ≤ 1000000) : FnP Tryz.prog 31 [.agg i.enc] (.bool (inRight i)) := by
  have p := acencP_c i.acts hi
  have s := isame_c i (inBare i) hi
  have m := imeta_c i
  have e : inRight i = (inOk i && Inst.same i (inBare i)) := rfl
  obtain ⟨z, hz⟩ : ∃ z, Inst.same i (inBare i) = z := ⟨_, rfl⟩
  rw [hz] at s e
  clear hz
  unfold inBare at s
  unfold inOk at e
  obtain ⟨R, hR⟩ : ∃ R, acEnc i.acts = R := ⟨_, rfl⟩
  rw [hR] at p e
  simp only [byS, actS] at p
  clear hR
  obtain ⟨kk, t, v, mm, l⟩ := i
  simp only at hi p s m e
  by_cases k1 : kk = 1
  · subst k1
    rw [if_pos rfl] at s e
    simp only [Inst.enc, wideZ, uI_zero, List.length_nil, actL_nil] at s
    refine FnP.intro Tryz.func31 rfl rfl fun G w => ?_
    repeat' (first
     | refine WK.seq ?_
     | refine WK.block ?_
     | refine WK.inBlock ?_
     | refine WK.skip ?_
     | refine WK.label ?_
     | refine WK.scope ?_
     | refine WK.inScope ?_
     | refine WK.exit rfl ?_
     | refine WK.condT rfl ?_
     | refine WK.condF rfl ?_
     | (refine Hid.h hQ _ _ ?_; clear hQ hA)
     | refine WK.condAny rfl ?_ ?_
     | ((first | refine WK.cond2 rfl (fun h => ?_) (fun h => ?_) | refine Fork.mk (fun h => ?_) (fun h => ?_)) <;> (first | (simp [*] at h; done) | (have h2 := h; simp at h2; exfalso; omega) | (have h2 := h; simp at h2; try simp only [Bool.not_eq_true', Bool.not_eq_false'] at h) | skip))
     | ((first | refine WK.regH Tryz.ntmps31 (by kernel_rfl) ?_ | refine WK.regX (by kernel_rfl) Tryz.ntmps31 (by kernel_rfl) ?_); intro A hA Q hQ; simp [Inst.enc, wideZ, uI_zero, *])
     | (refine Hid.h hQ _ _ _ (by decide +kernel) ?_; clear hQ hA)
     | ((first | refine RunQ.gd rfl (by rw [hA.h]; rfl) ?_ | refine RunX.gd rfl (by rw [hA.h]; rfl) ?_); simp [Inst.enc, wideZ, uI_zero, *])
     | ((first | ((first | refine RunQ.call rfl rfl rfl rfl rfl ?_ (p) ?_ ?_ | refine RunQW.call rfl rfl rfl rfl ?_ (p) ?_ ?_ | refine RunX.call rfl rfl rfl rfl ?_ (p) ?_ ?_ | refine RunXW.call rfl rfl rfl ?_ (p) ?_ ?_); (focus (simp (maxDischargeDepth := 120) [Inst.enc, wideZ, uI_zero, *]; done))) | ((first | refine RunQ.call rfl rfl rfl rfl rfl ?_ (s) ?_ ?_ | refine RunQW.call rfl rfl rfl rfl ?_ (s) ?_ ?_ | refine RunX.call rfl rfl rfl rfl ?_ (s) ?_ ?_ | refine RunXW.call rfl rfl rfl ?_ (s) ?_ ?_); (focus (simp (maxDischargeDepth := 120) [Inst.enc, wideZ, uI_zero, *]; done)))); (focus (simp [Inst.enc, wideZ, uI_zero, *]; done)); (first | refine RunQ.evalH ?_ | refine RunX.evalY ?_); simp [Inst.enc, wideZ, uI_zero, *])
     | (refine WK.ret Tryz.func31 ?_ ?_ <;> simp (maxDischargeDepth := 120) [Tryz.results31, Inst.enc, wideZ, uI_zero, *])
     | fail)
  have j1 : (kk == 1) = false := by simpa using k1
  by_cases k2 : kk = 2
  · subst k2
    rw [if_neg (by decide), if_pos rfl] at s e
    simp only [Inst.enc, wideZ, uI_zero, List.length_nil, actL_nil] at s m
    refine FnP.intro Tryz.func31 rfl rfl fun G w => ?_
    repeat' (first
     | refine WK.seq ?_
     | refine WK.block ?_
     | refine WK.inBlock ?_
     | refine WK.skip ?_
     | refine WK.label ?_
     | refine WK.scope ?_
     | refine WK.inScope ?_
     | refine WK.exit rfl ?_
     | refine WK.condT rfl ?_
     | refine WK.condF rfl ?_
     | (refine Hid.h hQ _ _ ?_; clear hQ hA)
     | refine WK.condAny rfl ?_ ?_
     | ((first | refine WK.cond2 rfl (fun h => ?_) (fun h => ?_) | refine Fork.mk (fun h => ?_) (fun h => ?_)) <;> (first | (simp [*] at h; done) | (have h2 := h; simp at h2; exfalso; omega) | (have h2 := h; simp at h2; try simp only [Bool.not_eq_true', Bool.not_eq_false'] at h) | skip))
     | ((first | refine WK.regH Tryz.ntmps31 (by kernel_rfl) ?_ | refine WK.regX (by kernel_rfl) Tryz.ntmps31 (by kernel_rfl) ?_); intro A hA Q hQ; simp [Inst.enc, wideZ, uI_zero, *])
     | (refine Hid.h hQ _ _ _ (by decide +kernel) ?_; clear hQ hA)
     | ((first | refine RunQ.gd rfl (by rw [hA.h]; rfl) ?_ | refine RunX.gd rfl (by rw [hA.h]; rfl) ?_); simp [Inst.enc, wideZ, uI_zero, *])
     | ((first | ((first | refine RunQ.call rfl rfl rfl rfl rfl ?_ (p) ?_ ?_ | refine RunQW.call rfl rfl rfl rfl ?_ (p) ?_ ?_ | refine RunX.call rfl rfl rfl rfl ?_ (p) ?_ ?_ | refine RunXW.call rfl rfl rfl ?_ (p) ?_ ?_); (focus (simp (maxDischargeDepth := 120) [Inst.enc, wideZ, uI_zero, *]; done))) | ((first | refine RunQ.call rfl rfl rfl rfl rfl ?_ (s) ?_ ?_ | refine RunQW.call rfl rfl rfl rfl ?_ (s) ?_ ?_ | refine RunX.call rfl rfl rfl rfl ?_ (s) ?_ ?_ | refine RunXW.call rfl rfl rfl ?_ (s) ?_ ?_); (focus (simp (maxDischargeDepth := 120) [Inst.enc, wideZ, uI_zero, *]; done))) | ((first | refine RunQ.call rfl rfl rfl rfl rfl ?_ (m) ?_ ?_ | refine RunQW.call rfl rfl rfl rfl ?_ (m) ?_ ?_ | refine RunX.call rfl rfl rfl rfl ?_ (m) ?_ ?_ | refine RunXW.call rfl rfl rfl ?_ (m) ?_ ?_); (focus (simp (maxDischargeDepth := 120) [Inst.enc, wideZ, uI_zero, *]; done)))); (focus (simp [Inst.enc, wideZ, uI_zero, *]; done)); (first | refine RunQ.evalH ?_ | refine RunX.evalY ?_); simp [Inst.enc, wideZ, uI_zero, *])
     | (refine WK.ret Tryz.func31 ?_ ?_ <;> simp (maxDischargeDepth := 120) [Tryz.results31, Inst.enc, wideZ, uI_zero, *])
     | fail)
  have j2 : (kk == 2) = false := by simpa using k2
  by_cases k3 : kk = 3
  · subst k3
    rw [if_neg (by decide), if_neg (by decide), if_pos (.inl rfl)] at s e
    simp only [Inst.enc, wideZ, uI_zero] at s
    refine FnP.intro Tryz.func31 rfl rfl fun G w => ?_
    repeat' (first
     | refine WK.seq ?_
     | refine WK.block ?_
     | refine WK.inBlock ?_
     | refine WK.skip ?_
     | refine WK.label ?_
     | refine WK.scope ?_
     | refine WK.inScope ?_
     | refine WK.exit rfl ?_
     | refine WK.condT rfl ?_
     | refine WK.condF rfl ?_
     | (refine Hid.h hQ _ _ ?_; clear hQ hA)
     | refine WK.condAny rfl ?_ ?_
     | ((first | refine WK.cond2 rfl (fun h => ?_) (fun h => ?_) | refine Fork.mk (fun h => ?_) (fun h => ?_)) <;> (first | (simp [*] at h; done) | (have h2 := h; simp at h2; exfalso; omega) | (have h2 := h; simp at h2; try simp only [Bool.not_eq_true', Bool.not_eq_false'] at h) | skip))
     | ((first | refine WK.regH Tryz.ntmps31 (by kernel_rfl) ?_ | refine WK.regX (by kernel_rfl) Tryz.ntmps31 (by kernel_rfl) ?_); intro A hA Q hQ; simp [Inst.enc, wideZ, uI_zero, *])
     | (refine Hid.h hQ _ _ _ (by decide +kernel) ?_; clear hQ hA)
     | ((first | refine RunQ.gd rfl (by rw [hA.h]; rfl) ?_ | refine RunX.gd rfl (by rw [hA.h]; rfl) ?_); simp [Inst.enc, wideZ, uI_zero, *])
     | ((first | ((first | refine RunQ.call rfl rfl rfl rfl rfl ?_ (p) ?_ ?_ | refine RunQW.call rfl rfl rfl rfl ?_ (p) ?_ ?_ | refine RunX.call rfl rfl rfl rfl ?_ (p) ?_ ?_ | refine RunXW.call rfl rfl rfl ?_ (p) ?_ ?_); (focus (simp (maxDischargeDepth := 120) [Inst.enc, wideZ, uI_zero, *]; done))) | ((first | refine RunQ.call rfl rfl rfl rfl rfl ?_ (s) ?_ ?_ | refine RunQW.call rfl rfl rfl rfl ?_ (s) ?_ ?_ | refine RunX.call rfl rfl rfl rfl ?_ (s) ?_ ?_ | refine RunXW.call rfl rfl rfl ?_ (s) ?_ ?_); (focus (simp (maxDischargeDepth := 120) [Inst.enc, wideZ, uI_zero, *]; done)))); (focus (simp [Inst.enc, wideZ, uI_zero, *]; done)); (first | refine RunQ.evalH ?_ | refine RunX.evalY ?_); simp [Inst.enc, wideZ, uI_zero, *])
     | (refine WK.ret Tryz.func31 ?_ ?_ <;> simp (maxDischargeDepth := 120) [Tryz.results31, Inst.enc, wideZ, uI_zero, *])
     | fail)
  have j3 : (kk == 3) = false := by simpa using k3
  by_cases k4 : kk = 4
  · subst k4
    rw [if_neg (by decide), if_neg (by decide), if_pos (.inr rfl)] at s e
    simp only [Inst.enc, wideZ, uI_zero] at s
    refine FnP.intro Tryz.func31 rfl rfl fun G w => ?_
    repeat' (first
     | refine WK.seq ?_
     | refine WK.block ?_
     | refine WK.inBlock ?_
     | refine WK.skip ?_
     | refine WK.label ?_
     | refine WK.scope ?_
     | refine WK.inScope ?_
     | refine WK.exit rfl ?_
     | refine WK.condT rfl ?_
     | refine WK.condF rfl ?_
     | (refine Hid.h hQ _ _ ?_; clear hQ hA)
     | refine WK.condAny rfl ?_ ?_
     | ((first | refine WK.cond2 rfl (fun h => ?_) (fun h => ?_) | refine Fork.mk (fun h => ?_) (fun h => ?_)) <;> (first | (simp [*] at h; done) | (have h2 := h; simp at h2; exfalso; omega) | (have h2 := h; simp at h2; try simp only [Bool.not_eq_true', Bool.not_eq_false'] at h) | skip))
     | ((first | refine WK.regH Tryz.ntmps31 (by kernel_rfl) ?_ | refine WK.regX (by kernel_rfl) Tryz.ntmps31 (by kernel_rfl) ?_); intro A hA Q hQ; simp [Inst.enc, wideZ, uI_zero, *])
     | (refine Hid.h hQ _ _ _ (by decide +kernel) ?_; clear hQ hA)
     | ((first | refine RunQ.gd rfl (by rw [hA.h]; rfl) ?_ | refine RunX.gd rfl (by rw [hA.h]; rfl) ?_); simp [Inst.enc, wideZ, uI_zero, *])
     | ((first | ((first | refine RunQ.call rfl rfl rfl rfl rfl ?_ (p) ?_ ?_ | refine RunQW.call rfl rfl rfl rfl ?_ (p) ?_ ?_ | refine RunX.call rfl rfl rfl rfl ?_ (p) ?_ ?_ | refine RunXW.call rfl rfl rfl ?_ (p) ?_ ?_); (focus (simp (maxDischargeDepth := 120) [Inst.enc, wideZ, uI_zero, *]; done))) | ((first | refine RunQ.call rfl rfl rfl rfl rfl ?_ (s) ?_ ?_ | refine RunQW.call rfl rfl rfl rfl ?_ (s) ?_ ?_ | refine RunX.call rfl rfl rfl rfl ?_ (s) ?_ ?_ | refine RunXW.call rfl rfl rfl ?_ (s) ?_ ?_); (focus (simp (maxDischargeDepth := 120) [Inst.enc, wideZ, uI_zero, *]; done)))); (focus (simp [Inst.enc, wideZ, uI_zero, *]; done)); (first | refine RunQ.evalH ?_ | refine RunX.evalY ?_); simp [Inst.enc, wideZ, uI_zero, *])
     | (refine WK.ret Tryz.func31 ?_ ?_ <;> simp (maxDischargeDepth := 120) [Tryz.results31, Inst.enc, wideZ, uI_zero, *])
     | fail)
  have j4 : (kk == 4) = false := by simpa using k4
  rw [if_neg k1, if_neg k2, if_neg (by omega)] at s e
  by_cases k5 : kk = 5
  · subst k5
    simp only [Inst.enc, wideZ, uI_zero, List.length_nil, actL_nil] at s
    refine FnP.intro Tryz.func31 rfl rfl fun G w => ?_
    repeat' (first
     | refine WK.seq ?_
     | refine WK.block ?_
     | refine WK.inBlock ?_
     | refine WK.skip ?_
     | refine WK.label ?_
     | refine WK.scope ?_
     | refine WK.inScope ?_
     | refine WK.exit rfl ?_
     | refine WK.condT rfl ?_
     | refine WK.condF rfl ?_
     | (refine Hid.h hQ _ _ ?_; clear hQ hA)
     | refine WK.condAny rfl ?_ ?_
     | ((first | refine WK.cond2 rfl (fun h => ?_) (fun h => ?_) | refine Fork.mk (fun h => ?_) (fun h => ?_)) <;> (first | (simp [*] at h; done) | (have h2 := h; simp at h2; exfalso; omega) | (have h2 := h; simp at h2; try simp only [Bool.not_eq_true', Bool.not_eq_false'] at h) | skip))
     | ((first | refine WK.regH Tryz.ntmps31 (by kernel_rfl) ?_ | refine WK.regX (by kernel_rfl) Tryz.ntmps31 (by kernel_rfl) ?_); intro A hA Q hQ; simp [Inst.enc, wideZ, uI_zero, *])
     | (refine Hid.h hQ _ _ _ (by decide +kernel) ?_; clear hQ hA)
     | ((first | refine RunQ.gd rfl (by rw [hA.h]; rfl) ?_ | refine RunX.gd rfl (by rw [hA.h]; rfl) ?_); simp [Inst.enc, wideZ, uI_zero, *])
     | ((first | ((first | refine RunQ.call rfl rfl rfl rfl rfl ?_ (p) ?_ ?_ | refine RunQW.call rfl rfl rfl rfl ?_ (p) ?_ ?_ | refine RunX.call rfl rfl rfl rfl ?_ (p) ?_ ?_ | refine RunXW.call rfl rfl rfl ?_ (p) ?_ ?_); (focus (simp (maxDischargeDepth := 120) [Inst.enc, wideZ, uI_zero, *]; done))) | ((first | refine RunQ.call rfl rfl rfl rfl rfl ?_ (s) ?_ ?_ | refine RunQW.call rfl rfl rfl rfl ?_ (s) ?_ ?_ | refine RunX.call rfl rfl rfl rfl ?_ (s) ?_ ?_ | refine RunXW.call rfl rfl rfl ?_ (s) ?_ ?_); (focus (simp (maxDischargeDepth := 120) [Inst.enc, wideZ, uI_zero, *]; done)))); (focus (simp [Inst.enc, wideZ, uI_zero, *]; done)); (first | refine RunQ.evalH ?_ | refine RunX.evalY ?_); simp [Inst.enc, wideZ, uI_zero, *])
     | (refine WK.ret Tryz.func31 ?_ ?_ <;> simp (maxDischargeDepth := 120) [Tryz.results31, Inst.enc, wideZ, uI_zero, *])
     | fail)
  have j5 : (kk == 5) = false := by simpa using k5
  refine FnP.intro Tryz.func31 rfl rfl fun G w => ?_
  repeat' (first
   | refine WK.seq ?_
   | refine WK.block ?_
   | refine WK.inBlock ?_
   | refine WK.skip ?_
   | refine WK.label ?_
   | refine WK.scope ?_
   | refine WK.inScope ?_
   | refine WK.exit rfl ?_
   | refine WK.condT rfl ?_
   | refine WK.condF rfl ?_
   | (refine Hid.h hQ _ _ ?_; clear hQ hA)
   | refine WK.condAny rfl ?_ ?_
   | ((first | refine WK.cond2 rfl (fun h => ?_) (fun h => ?_) | refine Fork.mk (fun h => ?_) (fun h => ?_)) <;> (first | (simp [*] at h; done) | (have h2 := h; simp at h2; exfalso; omega) | (have h2 := h; simp at h2; try simp only [Bool.not_eq_true', Bool.not_eq_false'] at h) | skip))
   | ((first | refine WK.regH Tryz.ntmps31 (by kernel_rfl) ?_ | refine WK.regX (by kernel_rfl) Tryz.ntmps31 (by kernel_rfl) ?_); intro A hA Q hQ; simp [Inst.enc, wideZ, uI_zero, *])
   | (refine Hid.h hQ _ _ _ (by decide +kernel) ?_; clear hQ hA)
   | ((first | refine RunQ.gd rfl (by rw [hA.h]; rfl) ?_ | refine RunX.gd rfl (by rw [hA.h]; rfl) ?_); simp [Inst.enc, wideZ, uI_zero, *])
   | (((first | refine RunQ.call rfl rfl rfl rfl rfl ?_ (p) ?_ ?_ | refine RunQW.call rfl rfl rfl rfl ?_ (p) ?_ ?_ | refine RunX.call rfl rfl rfl rfl ?_ (p) ?_ ?_ | refine RunXW.call rfl rfl rfl ?_ (p) ?_ ?_); (focus (simp (maxDischargeDepth := 120) [Inst.enc, wideZ, uI_zero, *]; done))); (focus (simp [Inst.enc, wideZ, uI_zero, *]; done)); (first | refine RunQ.evalH ?_ | refine RunX.evalY ?_); simp [Inst.enc, wideZ, uI_zero, *])
   | (refine WK.ret Tryz.func31 ?_ ?_ <;> simp (maxDischargeDepth := 120) [Tryz.results31, Inst.enc, wideZ, uI_zero, *])
   | fail)
def inFind (l : List Inst) (k : Int) : Inst × Bool := match l.find? (fun i => i.kind == k) with | some i => (i, true) | none => (inst0, false)
theorem idxI_find {α : Type} [Inhabited α] (p : α → Bool) (l : List α) : (∃ i : Nat, i < l.length ∧ idxI p l = i ∧ l.find? p = some (nth l i)) ∨ (idxI p l = -1 ∧ l.find? p = none) := by
  by_cases h : ∃ i, i < l.length ∧ p (nth l i) = true
  · left
    obtain ⟨i, hi, hp, hmin⟩ : ∃ i, i < l.length ∧ p (nth l i) = true ∧ ∀ j, j < i → p (nth l j) = false := by
      have : ∀ n, (∃ i, i < n ∧ i < l.length ∧ p (nth l i) = true) → ∃ i, i < l.length ∧ p (nth l i) = true ∧ ∀ j, j < i → p (nth l j) = false := by
        intro n
        induction n with
        | zero => rintro ⟨i, h1, _⟩; omega
        | succ n ih =>
          rintro ⟨i, h1, h2, h3⟩
          by_cases hh : ∃ j, j < n ∧ j < l.length ∧ p (nth l j) = true
          · exact ih hh
          · exact ⟨i, h2, h3, fun j hj => by
              cases hpj : p (nth l j)
              · rfl
              · exact absurd ⟨j, by omega, by omega, hpj⟩ hh⟩
      obtain ⟨i, hi, hp⟩ := h
      exact this (i + 1) ⟨i, by omega, hi, hp⟩
    refine ⟨i, hi, idxI_some hi hp hmin, ?_⟩
    rw [List.find?_eq_some_iff_getElem]
    refine ⟨hp, i, hi, by rw [nth_eq hi], fun j hj => ?_⟩
    have := hmin j hj
    rw [nth_eq (by omega)] at this
    simp [this]
  · right
    have hn : ∀ j, j < l.length → p (nth l j) = false := fun j hj => by
      cases hpj : p (nth l j)
      · rfl
      · exact absurd ⟨j, hj, hpj⟩ h
    refine ⟨idxI_none hn, ?_⟩
    rw [List.find?_eq_none]
    intro x hx
    obtain ⟨j, hj, rfl⟩ := mem_nth hx
    simp [hn j hj]
theorem iof1_c (i : Inst) (k : Int) : FnP Tryz.prog 64 [.agg i.enc, .iptr [.int .i64 k]] (.bool (i.kind == k)) := by
  refine FnP.intro Tryz.func64 rfl rfl fun G w => ?_
  repeat' (first
   | refine WK.seq ?_
   | refine WK.block ?_
   | refine WK.inBlock ?_
   | refine WK.skip ?_
   | refine WK.label ?_
   | refine WK.scope ?_
   | refine WK.inScope ?_
   | refine WK.exit rfl ?_
   | refine WK.condT rfl ?_
   | refine WK.condF rfl ?_
   | (refine Hid.h hQ _ _ ?_; clear hQ hA)
   | refine WK.condAny rfl ?_ ?_
   | ((first | refine WK.cond2 rfl (fun h => ?_) (fun h => ?_)) <;> (first | (simp [*] at h; done) | (have h2 := h; simp at h2; exfalso; omega) | (have h2 := h; simp at h2; try simp only [Bool.not_eq_true', Bool.not_eq_false'] at h) | skip))
   | (refine WK.regH Tryz.ntmps64 (by kernel_rfl) ?_; intro A hA Q hQ; simp [Inst.enc, *])
   | (refine WK.ret Tryz.func64 ?_ ?_ <;> simp (maxDischargeDepth := 120) [Tryz.results64, Inst.enc, *])
   | fail)
theorem clone_actP (l : List Action) (hl : l.length ≤ 1000000) : FnP Tryz.prog 65 [actS l] (actS l) := by
  have h := (clone_actO l hl).toP (by simp)
  rwa [actL_take] at h
theorem iof_c (l : List Inst) (k : Int) (hl : l.length ≤ 1000000) (ha : ∀ x, x ∈ l → x.acts.length ≤ 1000000) : FnP Tryz.prog 25 [instS l, .int .i64 k] (.tup [.agg (inFind l k).1.enc, .bool (inFind l k).2]) := by
  have hx := indexf_inst 64 [.iptr [.int .i64 k]] (fun i => i.kind == k) l rfl hl (fun x _ => iof1_c x k)
  unfold instS at *
  rcases idxI_find (fun i : Inst => i.kind == k) l with ⟨i, h1, h2, h3⟩ | ⟨h2, h3⟩
  · have e : inFind l k = (nth l i, true) := by unfold inFind; rw [h3]
    rw [h2] at hx
    have h4 := inst_sub l i h1
    have h5 : 7 ≤ l.length * 7 - i * 7 := by omega
    have hc := clone_actP (nth l i).acts (ha _ (nth_mem h1))
    have hn : ¬ (i : Int) < 0 := by omega
    rw [e]
    obtain ⟨x, hxx⟩ : ∃ x, nth l i = x := ⟨_, rfl⟩
    rw [hxx] at h4 hc ⊢
    simp only [Inst.enc] at h4
    unfold actS at hc
    clear hxx h3 e h2
    refine FnP.intro Tryz.func25 rfl rfl fun G w => ?_
    repeat' (first
     | refine WK.seq ?_
     | refine WK.block ?_
     | refine WK.inBlock ?_
     | refine WK.skip ?_
     | refine WK.label ?_
     | refine WK.scope ?_
     | refine WK.inScope ?_
     | refine WK.exit rfl ?_
     | refine WK.condT rfl ?_
     | refine WK.condF rfl ?_
     | (refine Hid.h hQ _ _ ?_; clear hQ hA)
     | refine WK.condAny rfl ?_ ?_
     | ((first | refine WK.cond2 rfl (fun h => ?_) (fun h => ?_)) <;> (first | (simp [*] at h; done) | (have h2 := h; simp at h2; exfalso; omega) | (have h2 := h; simp at h2; try simp only [Bool.not_eq_true', Bool.not_eq_false'] at h) | skip))
     | (refine WK.regH (id := 0) Tryz.ntmps25 (by kernel_rfl) ?_; intro A hA Q hQ; simp [*])
     | fail)
    repeat (first | refine WK.seq ?_ | refine WK.block ?_ | refine WK.inBlock ?_ | refine WK.skip ?_ | refine WK.label ?_ | refine WK.scope ?_ | refine WK.inScope ?_ | refine WK.exit rfl ?_)
    refine WK.ghost (Ghost.frzVar 3 rfl rfl) ?_
    repeat' (first
     | refine WK.seq ?_
     | refine WK.block ?_
     | refine WK.inBlock ?_
     | refine WK.skip ?_
     | refine WK.label ?_
     | refine WK.scope ?_
     | refine WK.inScope ?_
     | refine WK.exit rfl ?_
     | refine WK.condT rfl ?_
     | refine WK.condF rfl ?_
     | (refine Hid.h hQ _ _ ?_; clear hQ hA)
     | refine WK.condAny rfl ?_ ?_
     | ((first | refine WK.cond2 rfl (fun h => ?_) (fun h => ?_)) <;> (first | (simp [*] at h; done) | (have h2 := h; simp at h2; exfalso; omega) | (have h2 := h; simp at h2; try simp only [Bool.not_eq_true', Bool.not_eq_false'] at h) | skip))
     | (refine WK.regH Tryz.ntmps25 (by kernel_rfl) ?_; intro A hA Q hQ; simp [Inst.enc, *])
     | ((first | (refine RunQ.call rfl rfl rfl rfl rfl ?_ (hx) ?_ ?_; (focus (simp (maxDischargeDepth := 120) [Inst.enc, *]; done))) | (refine RunQ.call rfl rfl rfl rfl rfl ?_ (hc) ?_ ?_; (focus (simp (maxDischargeDepth := 120) [Inst.enc, *]; done)))); (focus (simp [Inst.enc, *]; done)); refine RunQ.evalH ?_; simp [Inst.enc, *])
     | (refine WK.ret Tryz.func25 ?_ ?_ <;> simp (maxDischargeDepth := 120) [Tryz.results25, Inst.enc, *])
     | fail)
  · have e : inFind l k = (inst0, false) := by unfold inFind; rw [h3]
    rw [h2] at hx
    rw [e]
    clear h3 e h2
    refine FnP.intro Tryz.func25 rfl rfl fun G w => ?_
    repeat' (first
     | refine WK.seq ?_
     | refine WK.block ?_
     | refine WK.inBlock ?_
     | refine WK.skip ?_
     | refine WK.label ?_
     | refine WK.scope ?_
     | refine WK.inScope ?_
     | refine WK.exit rfl ?_
     | refine WK.condT rfl ?_
     | refine WK.condF rfl ?_
     | (refine Hid.h hQ _ _ ?_; clear hQ hA)
     | refine WK.condAny rfl ?_ ?_
     | ((first | refine WK.cond2 rfl (fun h => ?_) (fun h => ?_)) <;> (first | (simp [*] at h; done) | (have h2 := h; simp at h2; exfalso; omega) | (have h2 := h; simp at h2; try simp only [Bool.not_eq_true', Bool.not_eq_false'] at h) | skip))
     | (refine WK.regH (id := 0) Tryz.ntmps25 (by kernel_rfl) ?_; intro A hA Q hQ; simp [*])
     | fail)
    repeat (first | refine WK.seq ?_ | refine WK.block ?_ | refine WK.inBlock ?_ | refine WK.skip ?_ | refine WK.label ?_ | refine WK.scope ?_ | refine WK.inScope ?_ | refine WK.exit rfl ?_)
    refine WK.ghost (Ghost.frzVar 3 rfl rfl) ?_
    repeat' (first
     | refine WK.seq ?_
     | refine WK.block ?_
     | refine WK.inBlock ?_
     | refine WK.skip ?_
     | refine WK.label ?_
     | refine WK.scope ?_
     | refine WK.inScope ?_
     | refine WK.exit rfl ?_
     | refine WK.condT rfl ?_
     | refine WK.condF rfl ?_
     | (refine Hid.h hQ _ _ ?_; clear hQ hA)
     | refine WK.condAny rfl ?_ ?_
     | ((first | refine WK.cond2 rfl (fun h => ?_) (fun h => ?_)) <;> (first | (simp [*] at h; done) | (have h2 := h; simp at h2; exfalso; omega) | (have h2 := h; simp at h2; try simp only [Bool.not_eq_true', Bool.not_eq_false'] at h) | skip))
     | (refine WK.regH Tryz.ntmps25 (by kernel_rfl) ?_; intro A hA Q hQ; simp [Inst.enc, inst0, wideZ, uI_zero, *])
     | ((refine RunQ.call rfl rfl rfl rfl rfl ?_ (hx) ?_ ?_; (focus (simp (maxDischargeDepth := 120) [Inst.enc, inst0, wideZ, uI_zero, *]; done))); (focus (simp [Inst.enc, inst0, wideZ, uI_zero, *]; done)); refine RunQ.evalH ?_; simp [Inst.enc, inst0, wideZ, uI_zero, *])
     | (refine WK.ret Tryz.func25 ?_ ?_ <;> simp (maxDischargeDepth := 120) [Tryz.results25, Inst.enc, inst0, wideZ, uI_zero, *])
     | fail)
end Go.Proofs.YteonfhnljphbpaaGreat
end
