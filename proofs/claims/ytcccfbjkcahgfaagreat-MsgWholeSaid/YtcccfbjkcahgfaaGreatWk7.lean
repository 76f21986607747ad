/- Instructions and their bytes, plain. -/
import Derived.Test.YtcccfbjkcahgfaaGreatWk6
import Derived.Test.YtcccfbjkcahgfaaGreatAf
set_option linter.all false
set_option linter.unnecessarySimpa false
section
set_option linter.unusedVariables false
set_option linter.unusedSimpArgs false
namespace Go.Proofs.YtcccfbjkcahgfaaGreat
open Go Go.AI Go.Proofs

theorem eqBy_iff {l m : List Action} : eqBy (fun x y : Action => x == y) l m = true ↔ l = m := by
  constructor
  · intro h
    unfold eqBy at h
    rw [Bool.and_eq_true, beq_iff_eq, List.all_eq_true] at h
    refine List.ext_getElem h.1 fun i h1 h2 => ?_
    have := h.2 i (by simpa using h1)
    rw [beq_iff_eq, nth_eq h1, nth_eq h2] at this
    exact this
  · intro h; subst h; exact eqBy_selfA l
theorem instSame_iff {a b : Inst} : Inst.same a b = true ↔ a = b := by
  obtain ⟨k, t, v, m, l⟩ := a
  obtain ⟨k', t', v', m', l'⟩ := b
  unfold Inst.same
  simp only [Bool.and_eq_true, beq_iff_eq, Inst.mk.injEq]
  rw [show (eqBy (fun x1 x2 => x1 == x2) l l' = true) ↔ l = l' from eqBy_iff]
  simp only [and_assoc]
theorem instSelf (i : Inst) : Inst.same i i = true := instSame_iff.2 rfl
def inst0 : Inst := ⟨0, 0, wideZ, wideZ, []⟩
def inMeta (v m : Wide) : Bool := v.hi == 0#64 && (m.hi == 0#64 && (v.less m).zero)
def inBare (i : Inst) : Inst := if i.kind = 1 then ⟨1, i.table, wideZ, wideZ, []⟩ else if i.kind = 2 then ⟨2, 0, i.value, i.mask, []⟩ else if i.kind = 3 ∨ i.kind = 4 then ⟨i.kind, 0, wideZ, wideZ, i.acts⟩ else ⟨i.kind, 0, wideZ, wideZ, []⟩
def inOk (i : Inst) : Bool := if i.kind = 1 then decide (0 ≤ i.table) && decide (i.table < 255) else if i.kind = 2 then inMeta i.value i.mask else if i.kind = 3 ∨ i.kind = 4 then (acEnc i.acts).2 == 0 else i.kind == 5
def inRight (i : Inst) : Bool := inOk i && Inst.same i (inBare i)
def inBody (i : Inst) : List (BitVec 8) := if i.kind = 1 then BitVec.ofInt 8 i.table :: List.replicate 3 0#8 else if i.kind = 2 then List.replicate 4 0#8 ++ (beN (wN i.value) 8 ++ beN (wN i.mask) 8) else if i.kind = 3 ∨ i.kind = 4 then List.replicate 4 0#8 ++ (acEnc i.acts).1 else List.replicate 4 0#8
def inOne (i : Inst) : List (BitVec 8) := beN i.kind 2 ++ (beN (4 + (inBody i).length : Nat) 2 ++ inBody i)
def inKinds (l : List Inst) : List Int := l.map (·.kind)
def inFit (l : List Inst) : Bool := l.all inRight && decide (inKinds l).Nodup
def inEnc (l : List Inst) : List (BitVec 8) × Int := if inFit l = true ∧ (rwFlat inOne l).length ≤ 60000 then (rwFlat inOne l, 0) else ([], 1)
def inLaid (k : Int) (b : List (BitVec 8)) : Bool := if k = 1 then b.length == 8 && allZ (b.drop 5) else if k = 2 then b.length == 24 && allZ ((b.drop 4).take 4) else if k = 5 then b.length == 8 && allZ (b.drop 4) else allZ ((b.drop 4).take 4)
/-- the kind and how many bytes; or the fault -/
def inCut (b : List (BitVec 8)) : Int × Nat × Option (Int × Int) :=
  if b.length < 8 then (0, 0, some (3, 7))
  else if valN ((b.drop 2).take 2) < 8 ∨ ¬ valN ((b.drop 2).take 2) % 8 = 0 ∨ b.length < valN ((b.drop 2).take 2) then (0, 0, some (3, 7))
  else if valN ((b.drop 0).take 2) = 6 then (0, 0, some (3, 1))
  else if valN ((b.drop 0).take 2) < 1 ∨ 5 < valN ((b.drop 0).take 2) then (0, 0, some (3, 0))
  else if inLaid (valN ((b.drop 0).take 2)) (b.take (valN ((b.drop 2).take 2))) = false then (0, 0, some (3, 7))
  else (valN ((b.drop 0).take 2), valN ((b.drop 2).take 2), none)
def inOf (k : Int) (b : List (BitVec 8)) : Inst × Option (Int × Int) :=
  if k = 1 then (⟨1, (nth b 4).toNat, wideZ, wideZ, []⟩, if (nth b 4).toNat = 255 then some (3, 2) else none)
  else if k = 2 then (⟨2, 0, (wGet (b.drop 8) 8).1, (wGet (b.drop 16) 8).1, []⟩, if inMeta (wGet (b.drop 8) 8).1 (wGet (b.drop 16) 8).1 = true then none else some (3, 4))
  else if k = 3 ∨ k = 4 then (⟨k, 0, wideZ, wideZ, (acDec (b.drop 8)).1⟩, (acDec (b.drop 8)).2.map fun c => (2, c))
  else (⟨k, 0, wideZ, wideZ, []⟩, none)
def inStep (ks : List Int) (b : List (BitVec 8)) : Inst × Nat × Option (Int × Int) :=
  match (inCut b).2.2 with
  | some c => (inst0, 0, some c)
  | none => if (inCut b).1 ∈ ks then (inst0, 0, some (3, 9)) else
    match (inOf (inCut b).1 (b.take (inCut b).2.1)).2 with
    | some c => (inst0, 0, some c)
    | none => ((inOf (inCut b).1 (b.take (inCut b).2.1)).1, (inCut b).2.1, none)
def inF : Nat → List Inst → List (BitVec 8) → List Inst × Option (Int × Int)
  | 0, acc, _ => (acc, none)
  | f + 1, acc, b => if b.length = 0 then (acc, none) else match (inStep (inKinds acc) b).2.2 with
    | some c => ([], some c)
    | none => inF f (acc ++ [(inStep (inKinds acc) b).1]) (b.drop (inStep (inKinds acc) b).2.1)
def inDec (b : List (BitVec 8)) : List Inst × Option (Int × Int) := inF b.length [] b
theorem inF_stop {f : Nat} {acc : List Inst} {b : List (BitVec 8)} (h : b.length = 0) : inF f acc b = (acc, none) := by
  cases f with
  | zero => rfl
  | succ f => rw [inF, if_pos h]
theorem inF_bad : ∀ (f : Nat) (acc : List Inst) (b : List (BitVec 8)) (c : Int × Int), (inF f acc b).2 = some c → (inF f acc b).1 = []
  | 0, acc, b, c, h => by simp [inF] at h
  | f + 1, acc, b, c, h => by
    rw [inF] at h ⊢
    split
    · rename_i h0; rw [if_pos h0] at h; cases h
    rename_i h0
    rw [if_neg h0] at h
    split
    · rfl
    · rename_i hd
      rw [hd] at h
      exact inF_bad f _ _ c h
theorem inDec_bad {b : List (BitVec 8)} {l : List Inst} {c : Int × Int} (h : inDec b = (l, some c)) : l = [] := by
  have := inF_bad b.length [] b c (by show (inDec b).2 = some c; rw [h])
  change (inDec b).1 = [] at this
  rw [h] at this
  exact this
theorem inBody_len (i : Inst) : (inBody i).length ≤ 6004 := by
  have := acEnc_len i.acts
  unfold inBody
  split
  · simp
  split
  · simp [beN_len]
  split
  · simp; omega
  · simp
theorem inOne_len (i : Inst) : (inOne i).length = 4 + (inBody i).length := by unfold inOne; simp [beN_len]; omega
theorem inRight_facts {i : Inst} (h : inRight i = true) : inOk i = true ∧ i = inBare i := by
  unfold inRight at h
  rw [Bool.and_eq_true] at h
  exact ⟨h.1, instSame_iff.1 h.2⟩
theorem inKind_of {i : Inst} (h : inOk i = true) : i.kind = 1 ∨ i.kind = 2 ∨ i.kind = 3 ∨ i.kind = 4 ∨ i.kind = 5 := by
  unfold inOk at h
  split at h
  · exact .inl ‹_›
  split at h
  · exact .inr (.inl ‹_›)
  split at h
  · rename_i h3; rcases h3 with h3 | h3
    · exact .inr (.inr (.inl h3))
    · exact .inr (.inr (.inr (.inl h3)))
  · exact .inr (.inr (.inr (.inr (by simpa using h))))
theorem inFit_facts {l : List Inst} (h : inFit l = true) : (∀ a, a ∈ l → inRight a = true) ∧ (inKinds l).Nodup := by
  unfold inFit at h
  rw [Bool.and_eq_true, List.all_eq_true, decide_eq_true_eq] at h
  exact h
theorem inEnc_bad1 {l : List Inst} (h : ¬ (inFit l = true ∧ (rwFlat inOne l).length ≤ 60000)) : inEnc l = ([], 1) := by unfold inEnc; rw [if_neg h]
theorem inEnc_len (l : List Inst) : (inEnc l).1.length ≤ 60000 := by
  unfold inEnc
  split
  · rename_i h; exact h.2
  · simp
end Go.Proofs.YtcccfbjkcahgfaaGreat
end

section
set_option linter.unusedVariables false
set_option linter.unusedSimpArgs false
namespace Go.Proofs.YtcccfbjkcahgfaaGreat
open Go Go.AI Go.Proofs

theorem inCut_facts {b : List (BitVec 8)} {k : Int} {n : Nat} (h : inCut b = (k, n, none)) : 8 ≤ n ∧ n ≤ b.length ∧ n % 8 = 0 ∧ n < 65536 ∧ (∃ kn : Nat, k = kn ∧ 1 ≤ kn ∧ kn ≤ 5 ∧ beN (kn : Int) 2 = b.take 2) ∧ beN (n : Int) 2 = (b.drop 2).take 2 ∧ inLaid k (b.take n) = true := by
  unfold inCut at h
  split at h
  · cases h
  rename_i c0
  split at h
  · cases h
  rename_i c1
  split at h
  · cases h
  rename_i c2
  split at h
  · cases h
  rename_i c3
  split at h
  · cases h
  rename_i c4
  simp only [Prod.mk.injEq, and_true] at h
  obtain ⟨rfl, rfl⟩ := h
  have l0 : ((b.drop 0).take 2).length = 2 := by simp; omega
  have l1 : ((b.drop 2).take 2).length = 2 := by simp; omega
  have e0 := beN_valN 2 _ l0
  have e1 := beN_valN 2 _ l1
  have lt : valN ((b.drop 2).take 2) < 65536 := valN_lt 2 _ l1
  rw [List.drop_zero] at e0 c3
  rw [Bool.not_eq_false] at c4
  exact ⟨by omega, by omega, by omega, lt, ⟨_, by rw [List.drop_zero], by omega, by omega, e0⟩, e1, c4⟩
theorem wide_back (b : List (BitVec 8)) (h : 8 ≤ b.length) : beN (wN (wGet b 8).1) 8 = b.take 8 := by
  have h1 := wPut_wGet b [] 8 (by omega) h
  rw [wPut_beN _ _ _ (by omega), List.nil_append, List.nil_append] at h1
  exact h1
theorem take_take_drop (b : List (BitVec 8)) (p q r : Nat) (h : r = p + q) : (b.drop p).take q ++ b.drop r = b.drop p := by
  subst h
  rw [← List.drop_drop, List.take_append_drop]
theorem inStep_back {ks : List Int} {b : List (BitVec 8)} {y : Inst} {n : Nat} (h : inStep ks b = (y, n, none)) : inRight y = true ∧ y.kind ∉ ks ∧ 8 ≤ n ∧ n ≤ b.length ∧ inOne y = b.take n ∧ y.acts.length * 8 ≤ b.length := by
  unfold inStep at h
  obtain ⟨k, m, c, hc⟩ : ∃ k m c, inCut b = (k, m, c) := ⟨_, _, _, rfl⟩
  rw [hc] at h
  cases c with
  | some c => simp at h
  | none =>
  simp only at h
  split at h
  · cases h
  rename_i hks
  obtain ⟨z, c, hz⟩ : ∃ z c, inOf k (b.take m) = (z, c) := ⟨_, _, rfl⟩
  rw [hz] at h
  cases c with
  | some c => simp at h
  | none =>
  simp only [Prod.mk.injEq, and_true] at h
  obtain ⟨rfl, rfl⟩ := h
  obtain ⟨f1, f2, f3, f4, ⟨kn, rfl, f5, f6, f7⟩, f8, f9⟩ := inCut_facts hc
  obtain ⟨B, hB⟩ : ∃ B, b.take m = B := ⟨_, rfl⟩
  have hBl : B.length = m := by rw [← hB, List.length_take]; omega
  have t2 : b.take 2 = B.take 2 := by rw [← hB, List.take_take, Nat.min_eq_left (by omega)]
  have t4 : (b.drop 2).take 2 = (B.drop 2).take 2 := by
    rw [← hB, List.drop_take, List.take_take, Nat.min_eq_left (by omega)]
  have glue : ∀ body : List (BitVec 8), z.kind = kn → inBody z = body → body = B.drop 4 → inOne z = B := fun body h1 h2 h3 => by
    have hl : 4 + (B.drop 4).length = m := by rw [List.length_drop]; omega
    unfold inOne
    rw [h1, h2, h3, hl, f7, f8, t2, t4, take_take_drop B 2 2 4 rfl, List.take_append_drop]
  rw [hB] at hz f9 ⊢
  have z4 : ∀ p q, allZ ((B.drop p).take q) = true → p + q ≤ m → List.replicate q 0#8 = (B.drop p).take q := fun p q h1 h2 => by
    rw [allZ_iff] at h1
    rw [h1, List.length_take, List.length_drop, Nat.min_eq_left (by omega)]
  unfold inOf at hz
  unfold inLaid at f9
  by_cases k1 : kn = 1
  · subst k1
    rw [if_pos (by decide)] at hz f9
    simp only [Bool.and_eq_true, beq_iff_eq] at f9
    simp only [Prod.mk.injEq] at hz
    obtain ⟨rfl, hc⟩ := hz
    have hne : ¬ (nth B 4).toNat = 255 := fun e => by rw [if_pos e] at hc; cases hc
    have hlt := (nth B 4).isLt
    have h5 : List.replicate 3 0#8 = B.drop 5 := by
      have := f9.2; rw [allZ_iff] at this; rw [this, List.length_drop]; congr 1; omega
    have h4 : B.drop 4 = nth B 4 :: B.drop 5 := by rw [nth_eq (by omega), List.drop_eq_getElem_cons (by omega)]
    refine ⟨?_, hks, f1, f2, ?_, by simp⟩
    · unfold inRight inOk inBare
      simp only [if_pos, instSelf]
      simp
      omega
    · refine glue _ rfl rfl ?_
      unfold inBody
      rw [if_pos rfl, h4, ← h5]
      simp only [ofInt8_nat]
  by_cases k2 : kn = 2
  · subst k2
    rw [if_neg (by decide), if_pos (by decide)] at hz f9
    simp only [Bool.and_eq_true, beq_iff_eq] at f9
    simp only [Prod.mk.injEq] at hz
    obtain ⟨rfl, hc⟩ := hz
    have hm : inMeta (wGet (B.drop 8) 8).1 (wGet (B.drop 16) 8).1 = true := Decidable.byContradiction fun e => by rw [if_neg e] at hc; cases hc
    refine ⟨?_, hks, f1, f2, ?_, by simp⟩
    · unfold inRight inOk inBare
      simp only [if_neg (show ¬ (2 : Int) = 1 by decide), if_pos, instSelf]
      simpa using hm
    · refine glue _ rfl rfl ?_
      unfold inBody
      simp only
      rw [if_neg (by decide), if_pos (by decide)]
      rw [wide_back _ (by rw [List.length_drop]; omega), wide_back _ (by rw [List.length_drop]; omega), z4 4 4 f9.2 (by omega)]
      have h16 : (B.drop 16).take 8 = B.drop 16 := List.take_of_length_le (by rw [List.length_drop]; omega)
      rw [h16, take_take_drop B 8 8 16 rfl, take_take_drop B 4 4 8 rfl]
  by_cases k5 : kn = 5
  · subst k5
    rw [if_neg (by decide), if_neg (by decide), if_pos (by decide)] at f9
    rw [if_neg (by decide), if_neg (by decide), if_neg (by decide)] at hz
    simp only [Bool.and_eq_true, beq_iff_eq] at f9
    simp only [Prod.mk.injEq, and_true] at hz
    subst hz
    have h4 : List.replicate 4 0#8 = B.drop 4 := by
      have := f9.2; rw [allZ_iff] at this; rw [this, List.length_drop]; congr 1; omega
    refine ⟨?_, hks, f1, f2, ?_, by simp⟩
    · show (true && Inst.same _ _) = true
      rw [Bool.true_and]
      exact instSelf _
    · exact glue _ rfl rfl h4
  · have k34 : kn = 3 ∨ kn = 4 := by omega
    rw [if_neg (by omega), if_neg (by omega), if_neg (by omega)] at f9
    rw [if_neg (by omega), if_neg (by omega), if_pos (by omega)] at hz
    obtain ⟨R, hR⟩ : ∃ R, acDec (B.drop 8) = R := ⟨_, rfl⟩
    rw [hR] at hz
    obtain ⟨l, c⟩ := R
    cases c with
    | some c => simp at hz
    | none =>
    simp only [Option.map_none, Prod.mk.injEq, and_true] at hz
    subst hz
    have hb := acDec_back hR
    have hsm := acDec_small hR
    rw [List.length_drop] at hsm
    refine ⟨?_, hks, f1, f2, ?_, by simp only; omega⟩
    · unfold inRight inOk inBare
      simp only [if_neg (show ¬ (kn : Int) = 1 by omega), if_neg (show ¬ (kn : Int) = 2 by omega), if_pos (show (kn : Int) = 3 ∨ (kn : Int) = 4 by omega), instSelf, hb]
      rfl
    · refine glue _ rfl rfl ?_
      unfold inBody
      simp only [if_neg (show ¬ (kn : Int) = 1 by omega), if_neg (show ¬ (kn : Int) = 2 by omega), if_pos (show (kn : Int) = 3 ∨ (kn : Int) = 4 by omega), hb]
      rw [z4 4 4 f9 (by omega), take_take_drop B 4 4 8 rfl]
structure InAt (b : List (BitVec 8)) (x : Nat × Nat × List Inst) : Prop where
  le : x.2.1 ≤ b.length
  fuel : b.length - x.2.1 ≤ x.1
  eq : inDec b = inF x.1 x.2.2 (b.drop x.2.1)
  small : x.2.2.length * 8 ≤ x.2.1
  right : ∀ y, y ∈ x.2.2 → inRight y = true ∧ y.acts.length * 8 ≤ b.length
  once : (inKinds x.2.2).Nodup
  flat : rwFlat inOne x.2.2 = b.take x.2.1
theorem InAt.start (b : List (BitVec 8)) : InAt b (b.length, 0, []) := ⟨Nat.zero_le _, Nat.le_refl _, rfl, Nat.le_refl _, fun y hy => (by cases hy), List.nodup_nil, (by simp [rwFlat])⟩
theorem InAt.bad {b : List (BitVec 8)} {x : Nat × Nat × List Inst} (h : InAt b x) (hp : x.2.1 < b.length) {y : Inst} {n : Nat} {c : Int × Int} (hd : inStep (inKinds x.2.2) (b.drop x.2.1) = (y, n, some c)) : inDec b = ([], some c) := by
  rw [h.eq]
  obtain ⟨f, hf⟩ : ∃ f, x.1 = f + 1 := ⟨x.1 - 1, by have := h.fuel; omega⟩
  rw [hf, inF, if_neg (by rw [List.length_drop]; omega), hd]
theorem InAt.next {b : List (BitVec 8)} {x : Nat × Nat × List Inst} (h : InAt b x) (hp : x.2.1 < b.length) {y : Inst} {n : Nat} (hd : inStep (inKinds x.2.2) (b.drop x.2.1) = (y, n, none)) : x.2.1 + n ≤ b.length ∧ 8 ≤ n ∧ InAt b (x.1 - 1, x.2.1 + n, x.2.2 ++ [y]) := by
  obtain ⟨g1, g2, g3, g4, g5, g6⟩ := inStep_back hd
  rw [List.length_drop] at g4 g6
  obtain ⟨f, hf⟩ : ∃ f, x.1 = f + 1 := ⟨x.1 - 1, by have := h.fuel; omega⟩
  refine ⟨by omega, g3, ⟨by simp only; omega, by have := h.fuel; simp only; omega, ?_, by have := h.small; simp only [List.length_append, List.length_singleton]; omega, ?_, ?_, ?_⟩⟩
  · rw [h.eq, hf, inF, if_neg (by rw [List.length_drop]; omega), hd]
    simp only [Nat.add_sub_cancel]
    rw [List.drop_drop]
  · intro z hz
    simp only [List.mem_append, List.mem_singleton] at hz
    rcases hz with hz | rfl
    · exact h.right z hz
    · exact ⟨g1, by omega⟩
  · unfold inKinds at *
    simp only [List.map_append, List.map_cons, List.map_nil]
    rw [List.nodup_append]
    exact ⟨h.once, by simp, fun a ha b hb => by simp at hb; subst hb; exact fun e => g2 (e ▸ ha)⟩
  · simp only
    rw [rwFlat_app, h.flat, List.take_add]
    congr 1
    unfold rwFlat
    rw [List.flatMap_cons, List.flatMap_nil, List.append_nil, g5]
theorem InAt.stop {b : List (BitVec 8)} {x : Nat × Nat × List Inst} (h : InAt b x) (hp : ¬ x.2.1 < b.length) : inDec b = (x.2.2, none) := by
  rw [h.eq, inF_stop (by rw [List.length_drop]; omega)]
theorem inAt_end : ∀ (f : Nat) (b : List (BitVec 8)) (p : Nat) (acc l : List Inst), InAt b (f, p, acc) → inDec b = (l, none) → ∃ f' p', InAt b (f', p', l) ∧ p' = b.length
  | 0, b, p, acc, l, h, he => by
    have hp : ¬ p < b.length := by have := h.fuel; simp only at this; omega
    have := h.stop hp
    rw [he] at this
    simp only [Prod.mk.injEq, and_true] at this
    subst this
    exact ⟨0, p, h, by have := h.le; simp only at this; omega⟩
  | f + 1, b, p, acc, l, h, he => by
    by_cases hp : p < b.length
    · obtain ⟨y, n, c, hd⟩ : ∃ y n c, inStep (inKinds acc) (b.drop p) = (y, n, c) := ⟨_, _, _, rfl⟩
      cases c with
      | some c => have := h.bad hp hd; rw [he] at this; cases this
      | none =>
        have := (h.next hp hd).2.2
        exact inAt_end f b (p + n) (acc ++ [y]) l this he
    · have := h.stop hp
      rw [he] at this
      simp only [Prod.mk.injEq, and_true] at this
      subst this
      exact ⟨f + 1, p, h, by have := h.le; simp only at this; omega⟩
structure InDone (b : List (BitVec 8)) (l : List Inst) : Prop where
  right : ∀ y, y ∈ l → inRight y = true ∧ y.acts.length * 8 ≤ b.length
  once : (inKinds l).Nodup
  flat : rwFlat inOne l = b
  small : l.length * 8 ≤ b.length
theorem inDec_done {b : List (BitVec 8)} {l : List Inst} (h : inDec b = (l, none)) : InDone b l := by
  obtain ⟨f, p, hat, rfl⟩ := inAt_end b.length b 0 [] l (InAt.start b) h
  exact ⟨hat.right, hat.once, by have := hat.flat; simpa using this, hat.small⟩
end Go.Proofs.YtcccfbjkcahgfaaGreat
end

section
set_option linter.unusedVariables false
set_option linter.unusedSimpArgs false
namespace Go.Proofs.YtcccfbjkcahgfaaGreat
open Go Go.AI Go.Proofs

/-- numbers, one behind the other -/
def nsEnc (l : List (Int × Nat)) : List (BitVec 8) := l.flatMap fun x => beN x.1 x.2
def nsRead : List Nat → List (BitVec 8) → Nat → List Int
  | [], _, _ => []
  | s :: r, b, p => (getN b p s).1 :: nsRead r b (p + s)
theorem nsEnc_len (l : List (Int × Nat)) : (nsEnc l).length = (l.map (·.2)).sum := by
  induction l with
  | nil => rfl
  | cons x l ih =>
    have e : nsEnc (x :: l) = beN x.1 x.2 ++ nsEnc l := rfl
    rw [e, List.length_append, ih, beN_len]; simp
theorem nsRead_len : ∀ (ss : List Nat) (b : List (BitVec 8)) (p : Nat), (nsRead ss b p).length = ss.length
  | [], _, _ => rfl
  | s :: ss, b, p => by rw [nsRead, List.length_cons, nsRead_len ss, List.length_cons]
def fmSizes : List Nat := [1, 1, 2, 2, 2, 4, 4, 4, 2]
def fmNums (m : FlowMod) : List Int := [m.table, m.command, m.idle, m.hard, m.prio, m.buffer, m.outPort, m.outGroup, m.flags]
def fmZip (m : FlowMod) : List (Int × Nat) := (fmNums m).zip fmSizes
def fmWrong (m : FlowMod) : Bool := m.insts.any fun i => i.acts.any fun a => a.kind == 25 && !mMet m.mat a.oxm.field
def fmCheck (m : FlowMod) : Option (Int × Int) :=
  if m.command < 0 ∨ 4 < m.command then some (5, 6) else if 31 < m.flags then some (5, 7) else if 2 < m.command then none else if fmWrong m = true then some (2, 10) else none
def fmRight (m : FlowMod) : Bool := (fmZip m).all (fun x => numOk x.1 x.2) && ((mEnc m.mat).2 == 0 && ((inEnc m.insts).2 == 0 && (fmCheck m).isNone))
def fmHead (m : FlowMod) : List (BitVec 8) := beN m.cookie.toNat 8 ++ (beN m.cookieMask.toNat 8 ++ (nsEnc (fmZip m) ++ List.replicate 2 0#8))
def fmEnc (m : FlowMod) : List (BitVec 8) × Int := if fmRight m = true then (fmHead m ++ ((mEnc m.mat).1 ++ (inEnc m.insts).1), 0) else ([], 1)
def flowMod0 : FlowMod := ⟨0#64, 0#64, 0, 0, 0, 0, 0, 0, 0, 0, 0, [], []⟩
/-- a change with numbers -/
def fmTake (c k : BitVec 64) (n : List Int) (l : List Oxm) (i : List Inst) : FlowMod := ⟨c, k, nth n 0, nth n 1, nth n 2, nth n 3, nth n 4, nth n 5, nth n 6, nth n 7, nth n 8, l, i⟩
def fmDec (b : List (BitVec 8)) : FlowMod × Option (Int × Int) :=
  if b.length < 40 then (flowMod0, some (1, 6)) else if allZ ((b.drop 38).take 2) = false then (flowMod0, some (1, 6)) else
  match (mDec (b.drop 40)).2.2 with
  | some c => (flowMod0, some c)
  | none => match (inDec (b.drop (40 + (mDec (b.drop 40)).2.1))).2 with
    | some c => (flowMod0, some c)
    | none => match fmCheck (fmTake (wGet b 8).1.lo (wGet (b.drop 8) 8).1.lo (nsRead fmSizes b 16) (mDec (b.drop 40)).1 (inDec (b.drop (40 + (mDec (b.drop 40)).2.1))).1) with
      | some c => (flowMod0, some c)
      | none => (fmTake (wGet b 8).1.lo (wGet (b.drop 8) 8).1.lo (nsRead fmSizes b 16) (mDec (b.drop 40)).1 (inDec (b.drop (40 + (mDec (b.drop 40)).2.1))).1, none)
theorem fmZip_sizes (m : FlowMod) : (fmZip m).map (·.2) = fmSizes := rfl
theorem fmHead_len (m : FlowMod) : (fmHead m).length = 40 := by
  have h := nsEnc_len (fmZip m)
  rw [fmZip_sizes] at h
  have : fmSizes.sum = 22 := rfl
  unfold fmHead; simp [beN_len, h, this]
structure FmFit (m : FlowMod) : Prop where
  nums : ∀ x, x ∈ fmZip m → numOk x.1 x.2 = true
  mat : (mEnc m.mat).2 = 0
  ins : (inEnc m.insts).2 = 0
  chk : fmCheck m = none
theorem fmRight_facts {m : FlowMod} (h : fmRight m = true) : FmFit m := by
  unfold fmRight at h
  rw [Bool.and_eq_true, Bool.and_eq_true, Bool.and_eq_true, beq_iff_eq, beq_iff_eq, List.all_eq_true] at h
  exact ⟨h.1, h.2.1, h.2.2.1, by simpa using h.2.2.2⟩
theorem fmEnc_bad {m : FlowMod} (h : fmRight m = false) : fmEnc m = ([], 1) := by unfold fmEnc; rw [if_neg (by rw [h]; exact Bool.false_ne_true)]
theorem fmEnc_len (m : FlowMod) : (fmEnc m).1.length ≤ 61052 := by
  unfold fmEnc
  split
  · have h1 := fmHead_len m
    have h2 := mEnc_len m.mat
    have h3 := inEnc_len m.insts
    simp only [List.length_append]; omega
  · simp
end Go.Proofs.YtcccfbjkcahgfaaGreat
end

section
set_option linter.unusedVariables false
set_option linter.unusedSimpArgs false
namespace Go.Proofs.YtcccfbjkcahgfaaGreat
open Go Go.AI Go.Proofs
attribute [local irreducible] FnP FnO FnB FnT FnSeq WK RunQ RunQW RunX RunXW

theorem ibad_c (c : Int) : FnP Tryz.prog 136 [.int .i64 c] (.agg (gFault (some (3, c)))) := by
  refine FnP.intro Tryz.func136 rfl rfl fun G w => ?_
  repeat' (first
   | refine WK.seq ?_
   | (refine Hid.h hQ _ _ ?_; clear hQ hA)
   | (refine WK.regH Tryz.ntmps136 (by kernel_rfl) ?_; intro A hA Q hQ; simp [*])
   | (refine WK.ret Tryz.func136 ?_ ?_ <;> simp (maxDischargeDepth := 120) [Tryz.results136, gFault, *])
   | fail)
theorem or_zero64 (x y : BitVec 64) : ((x ||| y) == 0#64) = (x == 0#64 && y == 0#64) := by
  rw [Bool.eq_iff_iff, Bool.and_eq_true, beq_iff_eq, beq_iff_eq, beq_iff_eq]
  exact BitVec.or_eq_zero_iff
theorem imeta_c (i : Inst) : FnP Tryz.prog 167 [.agg i.enc] (.bool (inMeta i.value i.mask)) := by
  have l := less_c i.value i.mask
  have z := zero_c (i.value.less i.mask)
  have e : inMeta i.value i.mask = ((i.value.hi ||| i.mask.hi) == 0#64 && (i.value.less i.mask).zero) := by
    unfold inMeta; rw [or_zero64, Bool.and_assoc]
  obtain ⟨r, hr⟩ : ∃ r, (i.value.less i.mask).zero = r := ⟨_, rfl⟩
  rw [hr] at z e
  obtain ⟨q, hq⟩ : ∃ q, ((i.value.hi ||| i.mask.hi) == 0#64) = q := ⟨_, rfl⟩
  rw [hq] at e
  unfold Wide.enc at l z
  refine FnP.intro Tryz.func167 rfl rfl fun G w => ?_
  repeat' (first
   | refine WK.seq ?_
   | (refine Hid.h hQ _ _ ?_; clear hQ hA)
   | (refine Fork.mk (fun h => ?_) (fun h => ?_) <;> (first | (simp [*] at h; done) | (have h2 := h; simp at h2; exfalso; omega) | (have h2 := h; simp at h2; try simp only [Bool.not_eq_true', Bool.not_eq_false'] at h) | skip))
   | (refine WK.regH Tryz.ntmps167 (by kernel_rfl) ?_; intro A hA Q hQ; simp [Inst.enc, *])
   | (refine RunQ.gd rfl (by rw [hA.h]; rfl) ?_; simp [Inst.enc, *])
   | (refine RunQW.call rfl rfl rfl rfl ?_ (l) ?_ ?_; (focus (simp (maxDischargeDepth := 120) [Inst.enc, *]; done)); (focus (simp [Inst.enc, *]; done)); refine RunQ.evalH ?_; simp [Inst.enc, *])
   | (refine RunQW.call rfl rfl rfl rfl ?_ (z) ?_ ?_; (focus (simp (maxDischargeDepth := 120) [Inst.enc, *]; done)); (focus (simp [Inst.enc, *]; done)); refine RunQ.evalH ?_; simp [Inst.enc, *])
   | (refine WK.ret Tryz.func167 ?_ ?_ <;> simp (maxDischargeDepth := 120) [Tryz.results167, Inst.enc, *])
   | fail)
theorem iempty1_c (x : BitVec 8) : FnP Tryz.prog 200 [.int .u8 (bI x)] (.bool (!(x == 0#8))) := by
  have e := bI_zero x
  refine FnP.intro Tryz.func200 rfl rfl fun G w => ?_
  repeat' (first
   | refine WK.seq ?_
   | (refine Hid.h hQ _ _ ?_; clear hQ hA)
   | (refine WK.regH Tryz.ntmps200 (by kernel_rfl) ?_; intro A hA Q hQ; simp [bne, *])
   | (refine WK.ret Tryz.func200 ?_ ?_ <;> simp (maxDischargeDepth := 120) [Tryz.results200, bne, *])
   | fail)
theorem iempty_c (b : List (BitVec 8)) (hb : b.length ≤ 9223372036854775807) : FnP Tryz.prog 192 [byS b] (.bool (allZ b)) := by
  have hco := containsf_by 200 [] (fun x => !(x == 0#8)) b rfl hb (fun x _ => iempty1_c x)
  have e : allZ b = !(b.any fun x => !(x == 0#8)) := by rw [any_allZ]; simp
  rw [e]
  refine FnP.intro Tryz.func192 rfl rfl fun G w => ?_
  repeat' (first
   | refine WK.seq ?_
   | (refine Hid.h hQ _ _ ?_; clear hQ hA)
   | (refine WK.regH Tryz.ntmps192 (by kernel_rfl) ?_; intro A hA Q hQ; simp [*])
   | (refine RunQ.call rfl rfl rfl rfl rfl ?_ (hco) ?_ ?_; (focus (simp (maxDischargeDepth := 120) [*]; done)); (focus (simp [*]; done)); refine RunQ.evalH ?_; simp [*])
   | (refine WK.ret Tryz.func192 ?_ ?_ <;> simp (maxDischargeDepth := 120) [Tryz.results192, *])
   | fail)
theorem ilaid_c (k : Int) (b : List (BitVec 8)) (hb : b.length ≤ 1000000) (h8 : 8 ≤ b.length) : FnP Tryz.prog 166 [.int .i64 k, byS b] (.bool (inLaid k b)) := by
  have p5 := iempty_c (b.drop 5) (by rw [List.length_drop]; omega)
  have p4 := iempty_c (b.drop 4) (by rw [List.length_drop]; omega)
  have p44 := iempty_c ((b.drop 4).take 4) (by rw [List.length_take, List.length_drop]; omega)
  have s5 : ((byL b).drop 5).take (b.length - 5) = byL (b.drop 5) := by rw [byL_drop]; exact by_full _ _ (by rw [List.length_drop])
  have s4 : ((byL b).drop 4).take (b.length - 4) = byL (b.drop 4) := by rw [byL_drop]; exact by_full _ _ (by rw [List.length_drop])
  have s44 : ((byL b).drop 4).take 4 = byL ((b.drop 4).take 4) := by rw [byL_drop, byL_take]
  have l44 : ((b.drop 4).take 4).length = 4 := by rw [List.length_take, List.length_drop]; omega
  have u5 : (5 : Int) ≤ b.length := by omega
  have u4 : (4 : Int) ≤ b.length := by omega
  have u8 : (8 : Int) ≤ b.length := by omega
  have z8 : ((b.length : Int) == 8) = (b.length == 8) := by rw [Bool.eq_iff_iff, beq_iff_eq, beq_iff_eq]; omega
  have z24 : ((b.length : Int) == 24) = (b.length == 24) := by rw [Bool.eq_iff_iff, beq_iff_eq, beq_iff_eq]; omega
  obtain ⟨q8, hq8⟩ : ∃ q, (b.length == 8) = q := ⟨_, rfl⟩
  obtain ⟨q24, hq24⟩ : ∃ q, (b.length == 24) = q := ⟨_, rfl⟩
  have hdef : inLaid k b = if k = 1 then q8 && allZ (b.drop 5) else if k = 2 then q24 && allZ ((b.drop 4).take 4) else if k = 5 then q8 && allZ (b.drop 4) else allZ ((b.drop 4).take 4) := by
    unfold inLaid; rw [hq8, hq24]
  rw [hq8] at z8
  rw [hq24] at z24
  simp only [byS, List.length_drop, l44] at p5 p4 p44 ⊢
  obtain ⟨a5, ha5⟩ : ∃ q, allZ (b.drop 5) = q := ⟨_, rfl⟩
  obtain ⟨a4, ha4⟩ : ∃ q, allZ (b.drop 4) = q := ⟨_, rfl⟩
  obtain ⟨a44, ha44⟩ : ∃ q, allZ ((b.drop 4).take 4) = q := ⟨_, rfl⟩
  rw [ha5] at p5 hdef
  rw [ha4] at p4 hdef
  rw [ha44] at p44 hdef
  obtain ⟨B5, hB5⟩ : ∃ q, b.drop 5 = q := ⟨_, rfl⟩
  obtain ⟨B44, hB44⟩ : ∃ q, (b.drop 4).take 4 = q := ⟨_, rfl⟩
  rw [hB44] at p44 s44
  obtain ⟨B4, hB4⟩ : ∃ q, b.drop 4 = q := ⟨_, rfl⟩
  rw [hB5] at p5 s5
  rw [hB4] at p4 s4
  rw [hdef]
  clear ha5 ha4 ha44 hdef l44 hq8 hq24 hB5 hB4 hB44
  refine FnP.intro Tryz.func166 rfl rfl fun G w => ?_
  by_cases k1 : k = 1
  · subst k1
    repeat' (first
     | refine WK.seq ?_
     | refine WK.block ?_
     | refine WK.condT rfl ?_
     | (refine Hid.h hQ _ _ ?_; clear hQ hA)
     | (refine Fork.mk (fun h => ?_) (fun h => ?_) <;> (first | (simp [*] at h; done) | (have h2 := h; simp at h2; exfalso; omega) | (have h2 := h; simp at h2; try simp only [Bool.not_eq_true', Bool.not_eq_false'] at h) | skip))
     | (refine WK.regH Tryz.ntmps166 (by kernel_rfl) ?_; intro A hA Q hQ; simp [*])
     | (refine RunQ.gd rfl (by rw [hA.h]; rfl) ?_; simp [*])
     | (refine RunQW.call rfl rfl rfl rfl ?_ (p5) ?_ ?_; (focus (simp (maxDischargeDepth := 120) [*]; done)); (focus (simp [*]; done)); refine RunQ.evalH ?_; simp [*])
     | (refine WK.ret Tryz.func166 ?_ ?_ <;> simp (maxDischargeDepth := 120) [Tryz.results166, *])
     | fail)
  have j1 : (k == 1) = false := by simpa using k1
  by_cases k2 : k = 2
  · subst k2
    repeat' (first
     | refine WK.seq ?_
     | refine WK.block ?_
     | refine WK.condT rfl ?_
     | refine WK.condF rfl ?_
     | (refine Hid.h hQ _ _ ?_; clear hQ hA)
     | (refine Fork.mk (fun h => ?_) (fun h => ?_) <;> (first | (simp [*] at h; done) | (have h2 := h; simp at h2; exfalso; omega) | (have h2 := h; simp at h2; try simp only [Bool.not_eq_true', Bool.not_eq_false'] at h) | skip))
     | (refine WK.regH Tryz.ntmps166 (by kernel_rfl) ?_; intro A hA Q hQ; simp [*])
     | (refine RunQ.gd rfl (by rw [hA.h]; rfl) ?_; simp [*])
     | (refine RunQW.call rfl rfl rfl rfl ?_ (p44) ?_ ?_; (focus (simp (maxDischargeDepth := 120) [*]; done)); (focus (simp [*]; done)); refine RunQ.evalH ?_; simp [*])
     | (refine WK.ret Tryz.func166 ?_ ?_ <;> simp (maxDischargeDepth := 120) [Tryz.results166, *])
     | fail)
  have j2 : (k == 2) = false := by simpa using k2
  by_cases k5 : k = 5
  · subst k5
    repeat' (first
     | refine WK.seq ?_
     | refine WK.block ?_
     | refine WK.condT rfl ?_
     | refine WK.condF rfl ?_
     | (refine Hid.h hQ _ _ ?_; clear hQ hA)
     | (refine Fork.mk (fun h => ?_) (fun h => ?_) <;> (first | (simp [*] at h; done) | (have h2 := h; simp at h2; exfalso; omega) | (have h2 := h; simp at h2; try simp only [Bool.not_eq_true', Bool.not_eq_false'] at h) | skip))
     | (refine WK.regH Tryz.ntmps166 (by kernel_rfl) ?_; intro A hA Q hQ; simp [*])
     | (refine RunQ.gd rfl (by rw [hA.h]; rfl) ?_; simp [*])
     | (refine RunQW.call rfl rfl rfl rfl ?_ (p4) ?_ ?_; (focus (simp (maxDischargeDepth := 120) [*]; done)); (focus (simp [*]; done)); refine RunQ.evalH ?_; simp [*])
     | (refine WK.ret Tryz.func166 ?_ ?_ <;> simp (maxDischargeDepth := 120) [Tryz.results166, *])
     | fail)
  have j5 : (k == 5) = false := by simpa using k5
  repeat' (first
   | refine WK.seq ?_
   | refine WK.block ?_
   | refine WK.inBlock ?_
   | refine WK.skip ?_
   | refine WK.condF rfl ?_
   | (refine Hid.h hQ _ _ ?_; clear hQ hA)
   | (refine WK.regH Tryz.ntmps166 (by kernel_rfl) ?_; intro A hA Q hQ; simp [*])
   | (refine RunQ.call rfl rfl rfl rfl rfl ?_ (p44) ?_ ?_; (focus (simp (maxDischargeDepth := 120) [*]; done)); (focus (simp [*]; done)); refine RunQ.evalH ?_; simp [*])
   | (refine WK.ret Tryz.func166 ?_ ?_ <;> simp (maxDischargeDepth := 120) [Tryz.results166, *])
   | fail)
set_option maxHeartbeats 4000000 in
theorem icut_c (b : List (BitVec 8)) (hb : b.length ≤ 1000000) : FnP Tryz.prog 135 [byS b] (.tup [.int .i64 (inCut b).1, byS (b.take (inCut b).2.1), .agg (gFault (inCut b).2.2)]) := by
  have b7 := ibad_c 7
  have b1 := ibad_c 1
  have b0 := ibad_c 0
  have g0 := nget_c b 0 2 Sz2 (by omega) (by omega)
  have g1 := nget_c b 2 2 Sz2 (by omega) (by omega)
  by_cases c0 : b.length < 8
  · have e : inCut b = (0, 0, some (3, 7)) := by unfold inCut; rw [if_pos c0]
    have c0' : (b.length : Int) < 8 := by omega
    obtain ⟨q0, hq0⟩ : ∃ q, getN b 0 2 = q := ⟨_, rfl⟩
    obtain ⟨q1, hq1⟩ : ∃ q, getN b 2 2 = q := ⟨_, rfl⟩
    rw [hq0] at g0
    rw [hq1] at g1
    rw [e]
    simp only [byS, List.take_zero, List.length_nil, byL_nil] at *
    clear b1 b0 hq0 hq1
    refine FnP.intro Tryz.func135 rfl rfl fun G w => ?_
    repeat' (first
     | refine WK.seq ?_
     | refine WK.block ?_
     | refine WK.condT rfl ?_
     | (refine Hid.h hQ _ _ ?_; clear hQ hA)
     | (refine WK.regH Tryz.ntmps135 (by kernel_rfl) ?_; intro A hA Q hQ; simp [gFault, *])
     | (refine RunQ.gd rfl (by rw [hA.h]; rfl) ?_; simp [gFault, *])
     | (refine RunQ.call rfl rfl rfl rfl rfl ?_ (g0) ?_ ?_; (focus (simp (maxDischargeDepth := 120) [gFault, *]; done)); (focus (simp [gFault, *]; done)); refine RunQ.evalH ?_; simp [gFault, *])
     | (refine RunQ.call rfl rfl rfl rfl rfl ?_ (g1) ?_ ?_; (focus (simp (maxDischargeDepth := 120) [gFault, *]; done)); (focus (simp [gFault, *]; done)); refine RunQ.evalH ?_; simp [gFault, *])
     | (refine RunQ.call rfl rfl rfl rfl rfl ?_ (b7) ?_ ?_; (focus (simp (maxDischargeDepth := 120) [gFault, *]; done)); (focus (simp [gFault, *]; done)); refine RunQ.evalH ?_; simp [gFault, *])
     | (refine WK.ret Tryz.func135 ?_ ?_ <;> simp (maxDischargeDepth := 120) [Tryz.results135, gFault, *])
     | fail)
  have c0' : ¬ (b.length : Int) < 8 := by omega
  have hlt : valN ((b.drop 2).take 2) < 65536 := valN_lt 2 _ (by simp; omega)
  have hlk : valN ((b.drop 0).take 2) < 65536 := valN_lt 2 _ (by simp; omega)
  have hdef : inCut b = if valN ((b.drop 2).take 2) < 8 ∨ ¬ valN ((b.drop 2).take 2) % 8 = 0 ∨ b.length < valN ((b.drop 2).take 2) then (0, 0, some (3, 7))
    else if valN ((b.drop 0).take 2) = 6 then (0, 0, some (3, 1))
    else if valN ((b.drop 0).take 2) < 1 ∨ 5 < valN ((b.drop 0).take 2) then (0, 0, some (3, 0))
    else if inLaid (valN ((b.drop 0).take 2)) (b.take (valN ((b.drop 2).take 2))) = false then (0, 0, some (3, 7))
    else ((valN ((b.drop 0).take 2) : Int), valN ((b.drop 2).take 2), none) := by unfold inCut; rw [if_neg c0]
  rw [getN_val (by omega)] at g0 g1
  obtain ⟨n, hn⟩ : ∃ n, valN ((b.drop 2).take 2) = n := ⟨_, rfl⟩
  obtain ⟨k, hk⟩ : ∃ k, valN ((b.drop 0).take 2) = k := ⟨_, rfl⟩
  rw [hn] at g1 hdef hlt
  rw [hk] at g0 hdef hlk
  clear hn hk
  have m7 := bAnd7 n hlt
  have z7 : (((n % 8 : Nat) : Int) == 0) = (n % 8 == 0) := by rw [Bool.eq_iff_iff, beq_iff_eq, beq_iff_eq]; omega
  by_cases c1 : n < 8
  · have e : inCut b = (0, 0, some (3, 7)) := by rw [hdef, if_pos (.inl (by omega))]
    have d1 : (n : Int) < 8 := by omega
    rw [e]
    simp only [byS, List.take_zero, List.length_nil, byL_nil] at *
    clear hdef b1 b0
    refine FnP.intro Tryz.func135 rfl rfl fun G w => ?_
    repeat' (first
     | refine WK.seq ?_
     | refine WK.block ?_
     | refine WK.condT rfl ?_
     | (refine Hid.h hQ _ _ ?_; clear hQ hA)
     | (refine WK.regH Tryz.ntmps135 (by kernel_rfl) ?_; intro A hA Q hQ; simp [gFault, *])
     | (refine RunQ.gd rfl (by rw [hA.h]; rfl) ?_; simp [gFault, *])
     | (refine RunQ.call rfl rfl rfl rfl rfl ?_ (g0) ?_ ?_; (focus (simp (maxDischargeDepth := 120) [gFault, *]; done)); (focus (simp [gFault, *]; done)); refine RunQ.evalH ?_; simp [gFault, *])
     | (refine RunQ.call rfl rfl rfl rfl rfl ?_ (g1) ?_ ?_; (focus (simp (maxDischargeDepth := 120) [gFault, *]; done)); (focus (simp [gFault, *]; done)); refine RunQ.evalH ?_; simp [gFault, *])
     | (refine RunQ.call rfl rfl rfl rfl rfl ?_ (b7) ?_ ?_; (focus (simp (maxDischargeDepth := 120) [gFault, *]; done)); (focus (simp [gFault, *]; done)); refine RunQ.evalH ?_; simp [gFault, *])
     | (refine WK.ret Tryz.func135 ?_ ?_ <;> simp (maxDischargeDepth := 120) [Tryz.results135, gFault, *])
     | fail)
  have d1 : ¬ (n : Int) < 8 := by omega
  by_cases c2 : n % 8 = 0
  case neg =>
    have e : inCut b = (0, 0, some (3, 7)) := by rw [hdef, if_pos (.inr (.inl (by omega)))]
    have d2 : (n % 8 == 0) = false := by simpa using c2
    rw [d2] at z7
    rw [e]
    simp only [byS, List.take_zero, List.length_nil, byL_nil] at *
    obtain ⟨r, hr⟩ : ∃ r, n % 8 = r := ⟨_, rfl⟩
    rw [hr] at m7 z7
    clear hdef hr c2 d2 b1 b0
    refine FnP.intro Tryz.func135 rfl rfl fun G w => ?_
    repeat' (first
     | refine WK.seq ?_
     | refine WK.block ?_
     | refine WK.condT rfl ?_
     | (refine Hid.h hQ _ _ ?_; clear hQ hA)
     | (refine WK.regH Tryz.ntmps135 (by kernel_rfl) ?_; intro A hA Q hQ; simp [gFault, bne, *])
     | (refine RunQ.gd rfl (by rw [hA.h]; rfl) ?_; simp [gFault, bne, *])
     | (refine RunQ.call rfl rfl rfl rfl rfl ?_ (g0) ?_ ?_; (focus (simp (maxDischargeDepth := 120) [gFault, bne, *]; done)); (focus (simp [gFault, bne, *]; done)); refine RunQ.evalH ?_; simp [gFault, bne, *])
     | (refine RunQ.call rfl rfl rfl rfl rfl ?_ (g1) ?_ ?_; (focus (simp (maxDischargeDepth := 120) [gFault, bne, *]; done)); (focus (simp [gFault, bne, *]; done)); refine RunQ.evalH ?_; simp [gFault, bne, *])
     | (refine RunQ.call rfl rfl rfl rfl rfl ?_ (b7) ?_ ?_; (focus (simp (maxDischargeDepth := 120) [gFault, bne, *]; done)); (focus (simp [gFault, bne, *]; done)); refine RunQ.evalH ?_; simp [gFault, bne, *])
     | (refine WK.ret Tryz.func135 ?_ ?_ <;> simp (maxDischargeDepth := 120) [Tryz.results135, gFault, bne, *])
     | fail)
  have d2 : (n % 8 == 0) = true := by simpa using c2
  rw [d2] at z7
  by_cases c3 : b.length < n
  · have e : inCut b = (0, 0, some (3, 7)) := by rw [hdef, if_pos (.inr (.inr (by omega)))]
    have d3 : (b.length : Int) < n := by omega
    rw [e]
    simp only [byS, List.take_zero, List.length_nil, byL_nil] at *
    obtain ⟨r, hr⟩ : ∃ r, n % 8 = r := ⟨_, rfl⟩
    rw [hr] at m7 z7
    clear hdef hr c2 d2 b1 b0
    refine FnP.intro Tryz.func135 rfl rfl fun G w => ?_
    repeat' (first
     | refine WK.seq ?_
     | refine WK.block ?_
     | refine WK.condT rfl ?_
     | (refine Hid.h hQ _ _ ?_; clear hQ hA)
     | (refine WK.regH Tryz.ntmps135 (by kernel_rfl) ?_; intro A hA Q hQ; simp [gFault, bne, *])
     | (refine RunQ.gd rfl (by rw [hA.h]; rfl) ?_; simp [gFault, bne, *])
     | (refine RunQ.call rfl rfl rfl rfl rfl ?_ (g0) ?_ ?_; (focus (simp (maxDischargeDepth := 120) [gFault, bne, *]; done)); (focus (simp [gFault, bne, *]; done)); refine RunQ.evalH ?_; simp [gFault, bne, *])
     | (refine RunQ.call rfl rfl rfl rfl rfl ?_ (g1) ?_ ?_; (focus (simp (maxDischargeDepth := 120) [gFault, bne, *]; done)); (focus (simp [gFault, bne, *]; done)); refine RunQ.evalH ?_; simp [gFault, bne, *])
     | (refine RunQ.call rfl rfl rfl rfl rfl ?_ (b7) ?_ ?_; (focus (simp (maxDischargeDepth := 120) [gFault, bne, *]; done)); (focus (simp [gFault, bne, *]; done)); refine RunQ.evalH ?_; simp [gFault, bne, *])
     | (refine WK.ret Tryz.func135 ?_ ?_ <;> simp (maxDischargeDepth := 120) [Tryz.results135, gFault, bne, *])
     | fail)
  have d3 : ¬ (b.length : Int) < n := by omega
  rw [if_neg (by rintro (h | h | h); omega; exact h c2; omega)] at hdef
  obtain ⟨r, hr⟩ : ∃ r, n % 8 = r := ⟨_, rfl⟩
  rw [hr] at m7 z7
  clear hr c2 d2
  by_cases k6 : k = 6
  · subst k6
    rw [if_pos rfl] at hdef
    rw [hdef]
    simp only [byS, List.take_zero, List.length_nil, byL_nil] at *
    clear hdef b0 b7
    refine FnP.intro Tryz.func135 rfl rfl fun G w => ?_
    repeat' (first
     | refine WK.seq ?_
     | refine WK.block ?_
     | refine WK.condT rfl ?_
     | refine WK.condF rfl ?_
     | (refine Hid.h hQ _ _ ?_; clear hQ hA)
     | (refine WK.regH Tryz.ntmps135 (by kernel_rfl) ?_; intro A hA Q hQ; simp [gFault, bne, *])
     | (refine RunQ.gd rfl (by rw [hA.h]; rfl) ?_; simp [gFault, bne, *])
     | (refine RunQ.call rfl rfl rfl rfl rfl ?_ (g0) ?_ ?_; (focus (simp (maxDischargeDepth := 120) [gFault, bne, *]; done)); (focus (simp [gFault, bne, *]; done)); refine RunQ.evalH ?_; simp [gFault, bne, *])
     | (refine RunQ.call rfl rfl rfl rfl rfl ?_ (g1) ?_ ?_; (focus (simp (maxDischargeDepth := 120) [gFault, bne, *]; done)); (focus (simp [gFault, bne, *]; done)); refine RunQ.evalH ?_; simp [gFault, bne, *])
     | (refine RunQ.call rfl rfl rfl rfl rfl ?_ (b1) ?_ ?_; (focus (simp (maxDischargeDepth := 120) [gFault, bne, *]; done)); (focus (simp [gFault, bne, *]; done)); refine RunQ.evalH ?_; simp [gFault, bne, *])
     | (refine WK.ret Tryz.func135 ?_ ?_ <;> simp (maxDischargeDepth := 120) [Tryz.results135, gFault, bne, *])
     | fail)
  have j6 : ((k : Int) == 6) = false := by rw [beq_eq_false_iff_ne]; omega
  rw [if_neg k6] at hdef
  by_cases k0 : k < 1
  · rw [if_pos (.inl k0)] at hdef
    have j0 : (k : Int) < 1 := by omega
    rw [hdef]
    simp only [byS, List.take_zero, List.length_nil, byL_nil] at *
    clear hdef b1 b7 k6
    refine FnP.intro Tryz.func135 rfl rfl fun G w => ?_
    repeat' (first
     | refine WK.seq ?_
     | refine WK.block ?_
     | refine WK.condT rfl ?_
     | refine WK.condF rfl ?_
     | (refine Hid.h hQ _ _ ?_; clear hQ hA)
     | (refine WK.regH Tryz.ntmps135 (by kernel_rfl) ?_; intro A hA Q hQ; simp [gFault, bne, *])
     | (refine RunQ.gd rfl (by rw [hA.h]; rfl) ?_; simp [gFault, bne, *])
     | (refine RunQ.call rfl rfl rfl rfl rfl ?_ (g0) ?_ ?_; (focus (simp (maxDischargeDepth := 120) [gFault, bne, *]; done)); (focus (simp [gFault, bne, *]; done)); refine RunQ.evalH ?_; simp [gFault, bne, *])
     | (refine RunQ.call rfl rfl rfl rfl rfl ?_ (g1) ?_ ?_; (focus (simp (maxDischargeDepth := 120) [gFault, bne, *]; done)); (focus (simp [gFault, bne, *]; done)); refine RunQ.evalH ?_; simp [gFault, bne, *])
     | (refine RunQ.call rfl rfl rfl rfl rfl ?_ (b0) ?_ ?_; (focus (simp (maxDischargeDepth := 120) [gFault, bne, *]; done)); (focus (simp [gFault, bne, *]; done)); refine RunQ.evalH ?_; simp [gFault, bne, *])
     | (refine WK.ret Tryz.func135 ?_ ?_ <;> simp (maxDischargeDepth := 120) [Tryz.results135, gFault, bne, *])
     | fail)
  have j0 : ¬ (k : Int) < 1 := by omega
  by_cases k5 : 5 < k
  · rw [if_pos (.inr k5)] at hdef
    have j5 : (5 : Int) < k := by omega
    rw [hdef]
    simp only [byS, List.take_zero, List.length_nil, byL_nil] at *
    clear hdef b1 b7 k6
    refine FnP.intro Tryz.func135 rfl rfl fun G w => ?_
    repeat' (first
     | refine WK.seq ?_
     | refine WK.block ?_
     | refine WK.condT rfl ?_
     | refine WK.condF rfl ?_
     | (refine Hid.h hQ _ _ ?_; clear hQ hA)
     | (refine WK.regH Tryz.ntmps135 (by kernel_rfl) ?_; intro A hA Q hQ; simp [gFault, bne, *])
     | (refine RunQ.gd rfl (by rw [hA.h]; rfl) ?_; simp [gFault, bne, *])
     | (refine RunQ.call rfl rfl rfl rfl rfl ?_ (g0) ?_ ?_; (focus (simp (maxDischargeDepth := 120) [gFault, bne, *]; done)); (focus (simp [gFault, bne, *]; done)); refine RunQ.evalH ?_; simp [gFault, bne, *])
     | (refine RunQ.call rfl rfl rfl rfl rfl ?_ (g1) ?_ ?_; (focus (simp (maxDischargeDepth := 120) [gFault, bne, *]; done)); (focus (simp [gFault, bne, *]; done)); refine RunQ.evalH ?_; simp [gFault, bne, *])
     | (refine RunQ.call rfl rfl rfl rfl rfl ?_ (b0) ?_ ?_; (focus (simp (maxDischargeDepth := 120) [gFault, bne, *]; done)); (focus (simp [gFault, bne, *]; done)); refine RunQ.evalH ?_; simp [gFault, bne, *])
     | (refine WK.ret Tryz.func135 ?_ ?_ <;> simp (maxDischargeDepth := 120) [Tryz.results135, gFault, bne, *])
     | fail)
  have j5 : ¬ (5 : Int) < k := by omega
  rw [if_neg (by omega)] at hdef
  have hl := ilaid_c k (b.take n) (by rw [List.length_take]; omega) (by rw [List.length_take]; omega)
  have hs : (byL b).take n = byL (b.take n) := byL_take _ _
  have hsl : (b.take n).length = n := by rw [List.length_take]; omega
  obtain ⟨q, hq⟩ : ∃ q, inLaid k (b.take n) = q := ⟨_, rfl⟩
  rw [hq] at hl hdef
  have d4 : (n : Int) ≤ b.length := by omega
  cases q
  · rw [if_pos rfl] at hdef
    rw [hdef]
    simp only [byS, List.take_zero, List.length_nil, byL_nil, hsl] at *
    clear hdef b1 b0 k6 hq k0 k5
    refine FnP.intro Tryz.func135 rfl rfl fun G w => ?_
    repeat' (first
     | refine WK.seq ?_
     | refine WK.block ?_
     | refine WK.condT rfl ?_
     | refine WK.condF rfl ?_
     | (refine Hid.h hQ _ _ ?_; clear hQ hA)
     | (refine WK.regH Tryz.ntmps135 (by kernel_rfl) ?_; intro A hA Q hQ; simp [gFault, bne, *])
     | (refine RunQ.gd rfl (by rw [hA.h]; rfl) ?_; simp [gFault, bne, *])
     | (refine RunQ.call rfl rfl rfl rfl rfl ?_ (g0) ?_ ?_; (focus (simp (maxDischargeDepth := 120) [gFault, bne, *]; done)); (focus (simp [gFault, bne, *]; done)); refine RunQ.evalH ?_; simp [gFault, bne, *])
     | (refine RunQ.call rfl rfl rfl rfl rfl ?_ (g1) ?_ ?_; (focus (simp (maxDischargeDepth := 120) [gFault, bne, *]; done)); (focus (simp [gFault, bne, *]; done)); refine RunQ.evalH ?_; simp [gFault, bne, *])
     | (refine RunQ.call rfl rfl rfl rfl rfl ?_ (hl) ?_ ?_; (focus (simp (maxDischargeDepth := 120) [gFault, bne, *]; done)); (focus (simp [gFault, bne, *]; done)); refine RunQ.evalH ?_; simp [gFault, bne, *])
     | (refine RunQ.call rfl rfl rfl rfl rfl ?_ (b7) ?_ ?_; (focus (simp (maxDischargeDepth := 120) [gFault, bne, *]; done)); (focus (simp [gFault, bne, *]; done)); refine RunQ.evalH ?_; simp [gFault, bne, *])
     | (refine WK.ret Tryz.func135 ?_ ?_ <;> simp (maxDischargeDepth := 120) [Tryz.results135, gFault, bne, *])
     | fail)
  · rw [if_neg (by simp)] at hdef
    rw [hdef]
    simp only [byS, hsl] at *
    clear hdef b1 b0 k6 hq k0 k5 b7
    refine FnP.intro Tryz.func135 rfl rfl fun G w => ?_
    repeat' (first
     | refine WK.seq ?_
     | refine WK.block ?_
     | refine WK.inBlock ?_
     | refine WK.skip ?_
     | refine WK.condF rfl ?_
     | (refine Hid.h hQ _ _ ?_; clear hQ hA)
     | (refine WK.regH Tryz.ntmps135 (by kernel_rfl) ?_; intro A hA Q hQ; simp [gFault, bne, *])
     | (refine WK.regX (by kernel_rfl) Tryz.ntmps135 (by kernel_rfl) ?_; intro A hA Q hQ; simp [gFault, bne, *])
     | (refine Hid.h hQ _ _ _ (by decide +kernel) ?_; clear hQ hA)
     | (refine RunQ.gd rfl (by rw [hA.h]; rfl) ?_; simp [gFault, bne, *])
     | (refine RunQ.call rfl rfl rfl rfl rfl ?_ (g0) ?_ ?_; (focus (simp (maxDischargeDepth := 120) [gFault, bne, *]; done)); (focus (simp [gFault, bne, *]; done)); refine RunQ.evalH ?_; simp [gFault, bne, *])
     | (refine RunQ.call rfl rfl rfl rfl rfl ?_ (g1) ?_ ?_; (focus (simp (maxDischargeDepth := 120) [gFault, bne, *]; done)); (focus (simp [gFault, bne, *]; done)); refine RunQ.evalH ?_; simp [gFault, bne, *])
     | (refine RunQ.call rfl rfl rfl rfl rfl ?_ (hl) ?_ ?_; (focus (simp (maxDischargeDepth := 120) [gFault, bne, *]; done)); (focus (simp [gFault, bne, *]; done)); refine RunQ.evalH ?_; simp [gFault, bne, *])
     | (refine WK.ret Tryz.func135 ?_ ?_ <;> simp (maxDischargeDepth := 120) [Tryz.results135, gFault, bne, *])
     | fail)
end Go.Proofs.YtcccfbjkcahgfaaGreat
end

section
set_option linter.unusedVariables false
set_option linter.unusedSimpArgs false
namespace Go.Proofs.YtcccfbjkcahgfaaGreat
open Go Go.AI Go.Proofs
attribute [local irreducible] FnP FnO FnB FnT FnSeq WK RunQ RunQW RunX RunXW

theorem u8_i64 (x : BitVec 8) : IntKind.i64.wrap (bI x) = bI x := by
  have := x.isLt
  unfold bI
  exact wrap_i64 (by omega) (by omega)
set_option maxHeartbeats 4000000 in
theorem ione_c (k : Int) (b : List (BitVec 8)) (hb : b.length ≤ 1000000) (h8 : 8 ≤ b.length) (h2 : k = 2 → 24 ≤ b.length) : FnP Tryz.prog 137 [.int .i64 k, byS b] (.tup [.agg (inOf k b).1.enc, .agg (gFault (inOf k b).2)]) := by
  have b2 := ibad_c 2
  have b4 := ibad_c 4
  by_cases k1 : k = 1
  · subst k1
    have x4 := by_get b 4 (by omega)
    have w4 := u8_i64 (nth b 4)
    have u4 : (4 : Int) < b.length := by omega
    have v4 : 4 < b.length := by omega
    have e : inOf 1 b = (⟨1, (nth b 4).toNat, wideZ, wideZ, []⟩, if (nth b 4).toNat = 255 then some (3, 2) else none) := by unfold inOf; rw [if_pos rfl]
    have eb : bI (nth b 4) = ((nth b 4).toNat : Int) := rfl
    rw [e]
    by_cases h255 : (nth b 4).toNat = 255
    · have j : (bI (nth b 4) == 255) = true := by rw [eb, h255]; rfl
      rw [if_pos h255, ← eb]
      obtain ⟨z, hz⟩ : ∃ z, bI (nth b 4) = z := ⟨_, rfl⟩
      rw [hz] at x4 w4 j ⊢
      unfold byS
      clear hz eb e h255 b4
      refine FnP.intro Tryz.func137 rfl rfl fun G w => ?_
      repeat' (first
       | refine WK.seq ?_
       | refine WK.block ?_
       | refine WK.inBlock ?_
       | refine WK.condT rfl ?_
       | (refine Hid.h hQ _ _ ?_; clear hQ hA)
       | (refine WK.regH Tryz.ntmps137 (by kernel_rfl) ?_; intro A hA Q hQ; simp [gFault, Inst.enc, wideZ, uI_zero, *])
       | (refine WK.regX (by kernel_rfl) Tryz.ntmps137 (by kernel_rfl) ?_; intro A hA Q hQ; simp [gFault, Inst.enc, wideZ, uI_zero, *])
       | (refine Hid.h hQ _ _ _ (by decide +kernel) ?_; clear hQ hA)
       | (refine RunQ.call rfl rfl rfl rfl rfl ?_ (b2) ?_ ?_; (focus (simp (maxDischargeDepth := 120) [gFault, Inst.enc, wideZ, uI_zero, *]; done)); (focus (simp [gFault, Inst.enc, wideZ, uI_zero, *]; done)); refine RunQ.evalH ?_; simp [gFault, Inst.enc, wideZ, uI_zero, *])
       | (refine WK.ret Tryz.func137 ?_ ?_ <;> simp (maxDischargeDepth := 120) [Tryz.results137, gFault, Inst.enc, wideZ, uI_zero, *])
       | fail)
    · have j : (bI (nth b 4) == 255) = false := by rw [eb, beq_eq_false_iff_ne]; omega
      rw [if_neg h255, ← eb]
      obtain ⟨z, hz⟩ : ∃ z, bI (nth b 4) = z := ⟨_, rfl⟩
      rw [hz] at x4 w4 j ⊢
      unfold byS
      clear hz eb e h255 b4
      refine FnP.intro Tryz.func137 rfl rfl fun G w => ?_
      repeat' (first
       | refine WK.seq ?_
       | refine WK.block ?_
       | refine WK.inBlock ?_
       | refine WK.skip ?_
       | refine WK.condT rfl ?_
       | refine WK.condF rfl ?_
       | (refine Hid.h hQ _ _ ?_; clear hQ hA)
       | (refine WK.regH Tryz.ntmps137 (by kernel_rfl) ?_; intro A hA Q hQ; simp [gFault, Inst.enc, wideZ, uI_zero, *])
       | (refine WK.regX (by kernel_rfl) Tryz.ntmps137 (by kernel_rfl) ?_; intro A hA Q hQ; simp [gFault, Inst.enc, wideZ, uI_zero, *])
       | (refine Hid.h hQ _ _ _ (by decide +kernel) ?_; clear hQ hA)
       | (refine WK.ret Tryz.func137 ?_ ?_ <;> simp (maxDischargeDepth := 120) [Tryz.results137, gFault, Inst.enc, wideZ, uI_zero, *])
       | fail)
  have j1 : (k == 1) = false := by simpa using k1
  by_cases k2 : k = 2
  · subst k2
    have hb24 := h2 rfl
    have e : inOf 2 b = (⟨2, 0, (wGet (b.drop 8) 8).1, (wGet (b.drop 16) 8).1, []⟩, if inMeta (wGet (b.drop 8) 8).1 (wGet (b.drop 16) 8).1 = true then none else some (3, 4)) := by unfold inOf; rw [if_neg (by decide), if_pos rfl]
    have g1 := wget_c (b.drop 8) 8 (by omega) (by rw [List.length_drop]; omega)
    have g2 := wget_c (b.drop 16) 8 (by omega) (by rw [List.length_drop]; omega)
    have s8 : ((byL b).drop 8).take (b.length - 8) = byL (b.drop 8) := by rw [byL_drop]; exact by_full _ _ (by rw [List.length_drop])
    have s16 : ((byL b).drop 16).take (b.length - 16) = byL (b.drop 16) := by rw [byL_drop]; exact by_full _ _ (by rw [List.length_drop])
    have u8 : (8 : Int) ≤ b.length := by omega
    have u16 : (16 : Int) ≤ b.length := by omega
    obtain ⟨v, hv⟩ : ∃ v, wGet (b.drop 8) 8 = v := ⟨_, rfl⟩
    obtain ⟨m, hm⟩ : ∃ v, wGet (b.drop 16) 8 = v := ⟨_, rfl⟩
    obtain ⟨B8, h8'⟩ : ∃ v, b.drop 8 = v := ⟨_, rfl⟩
    obtain ⟨B16, h16'⟩ : ∃ v, b.drop 16 = v := ⟨_, rfl⟩
    rw [hv] at g1 e
    rw [hm] at g2 e
    rw [h8'] at g1 s8
    rw [h16'] at g2 s16
    have l8 : B8.length = b.length - 8 := by rw [← h8', List.length_drop]
    have l16 : B16.length = b.length - 16 := by rw [← h16', List.length_drop]
    have hme := imeta_c ⟨2, 0, v.1, m.1, []⟩
    rw [e]
    obtain ⟨v, vb⟩ := v
    obtain ⟨m, mb⟩ := m
    simp only at hme g1 g2 ⊢
    obtain ⟨z, hz⟩ : ∃ z, inMeta v m = z := ⟨_, rfl⟩
    rw [hz] at hme ⊢
    unfold Wide.enc at g1 g2
    unfold byS at *
    rw [l8] at g1
    rw [l16] at g2
    simp only [Inst.enc, List.length_nil, actL_nil] at hme
    clear hz hv hm h8' h16' l8 l16 e
    refine FnP.intro Tryz.func137 rfl rfl fun G w => ?_
    cases z
    · repeat' (first
       | refine WK.seq ?_
       | refine WK.block ?_
       | refine WK.inBlock ?_
       | refine WK.condT rfl ?_
       | refine WK.condF rfl ?_
       | (refine Hid.h hQ _ _ ?_; clear hQ hA)
       | (refine WK.regH Tryz.ntmps137 (by kernel_rfl) ?_; intro A hA Q hQ; simp [gFault, Inst.enc, *])
       | (refine WK.regX (by kernel_rfl) Tryz.ntmps137 (by kernel_rfl) ?_; intro A hA Q hQ; simp [gFault, Inst.enc, *])
       | (refine Hid.h hQ _ _ _ (by decide +kernel) ?_; clear hQ hA)
       | (refine RunQ.call rfl rfl rfl rfl rfl ?_ (g1) ?_ ?_; (focus (simp (maxDischargeDepth := 120) [gFault, Inst.enc, *]; done)); (focus (simp [gFault, Inst.enc, *]; done)); refine RunQ.evalH ?_; simp [gFault, Inst.enc, *])
       | (refine RunQ.call rfl rfl rfl rfl rfl ?_ (g2) ?_ ?_; (focus (simp (maxDischargeDepth := 120) [gFault, Inst.enc, *]; done)); (focus (simp [gFault, Inst.enc, *]; done)); refine RunQ.evalH ?_; simp [gFault, Inst.enc, *])
       | (refine RunQ.call rfl rfl rfl rfl rfl ?_ (hme) ?_ ?_; (focus (simp (maxDischargeDepth := 120) [gFault, Inst.enc, *]; done)); (focus (simp [gFault, Inst.enc, *]; done)); refine RunQ.evalH ?_; simp [gFault, Inst.enc, *])
       | (refine RunQ.call rfl rfl rfl rfl rfl ?_ (b4) ?_ ?_; (focus (simp (maxDischargeDepth := 120) [gFault, Inst.enc, *]; done)); (focus (simp [gFault, Inst.enc, *]; done)); refine RunQ.evalH ?_; simp [gFault, Inst.enc, *])
       | (refine WK.ret Tryz.func137 ?_ ?_ <;> simp (maxDischargeDepth := 120) [Tryz.results137, gFault, Inst.enc, *])
       | fail)
    · repeat' (first
       | refine WK.seq ?_
       | refine WK.block ?_
       | refine WK.inBlock ?_
       | refine WK.skip ?_
       | refine WK.condT rfl ?_
       | refine WK.condF rfl ?_
       | (refine Hid.h hQ _ _ ?_; clear hQ hA)
       | (refine WK.regH Tryz.ntmps137 (by kernel_rfl) ?_; intro A hA Q hQ; simp [gFault, Inst.enc, *])
       | (refine WK.regX (by kernel_rfl) Tryz.ntmps137 (by kernel_rfl) ?_; intro A hA Q hQ; simp [gFault, Inst.enc, *])
       | (refine Hid.h hQ _ _ _ (by decide +kernel) ?_; clear hQ hA)
       | (refine RunQ.call rfl rfl rfl rfl rfl ?_ (g1) ?_ ?_; (focus (simp (maxDischargeDepth := 120) [gFault, Inst.enc, *]; done)); (focus (simp [gFault, Inst.enc, *]; done)); refine RunQ.evalH ?_; simp [gFault, Inst.enc, *])
       | (refine RunQ.call rfl rfl rfl rfl rfl ?_ (g2) ?_ ?_; (focus (simp (maxDischargeDepth := 120) [gFault, Inst.enc, *]; done)); (focus (simp [gFault, Inst.enc, *]; done)); refine RunQ.evalH ?_; simp [gFault, Inst.enc, *])
       | (refine RunQ.call rfl rfl rfl rfl rfl ?_ (hme) ?_ ?_; (focus (simp (maxDischargeDepth := 120) [gFault, Inst.enc, *]; done)); (focus (simp [gFault, Inst.enc, *]; done)); refine RunQ.evalH ?_; simp [gFault, Inst.enc, *])
       | (refine WK.ret Tryz.func137 ?_ ?_ <;> simp (maxDischargeDepth := 120) [Tryz.results137, gFault, Inst.enc, *])
       | fail)
  have j2 : (k == 2) = false := by simpa using k2
  have ha := acdecP_c (b.drop 8) (by rw [List.length_drop]; omega)
  have s8 : ((byL b).drop 8).take (b.length - 8) = byL (b.drop 8) := by rw [byL_drop]; exact by_full _ _ (by rw [List.length_drop])
  have u8 : (8 : Int) ≤ b.length := by omega
  have l8 : (b.drop 8).length = b.length - 8 := by rw [List.length_drop]
  have e34 : k = 3 ∨ k = 4 → inOf k b = (⟨k, 0, wideZ, wideZ, (acDec (b.drop 8)).1⟩, (acDec (b.drop 8)).2.map fun c => (2, c)) := fun h => by unfold inOf; rw [if_neg k1, if_neg k2, if_pos h]
  have e5 : ¬ (k = 3 ∨ k = 4) → inOf k b = (⟨k, 0, wideZ, wideZ, []⟩, none) := fun h => by unfold inOf; rw [if_neg k1, if_neg k2, if_neg h]
  obtain ⟨B8, h8'⟩ : ∃ v, b.drop 8 = v := ⟨_, rfl⟩
  obtain ⟨R, hR⟩ : ∃ R, acDec (b.drop 8) = R := ⟨_, rfl⟩
  rw [hR] at ha e34
  rw [h8'] at ha s8 l8
  obtain ⟨l, f⟩ := R
  rw [aFault_g] at ha
  simp only [byS, actS, l8] at ha ⊢
  clear hR h8' l8 b2 b4
  by_cases k3 : k = 3
  · subst k3
    rw [e34 (.inl rfl)]
    clear e34 e5
    refine FnP.intro Tryz.func137 rfl rfl fun G w => ?_
    cases f <;>
    · repeat' (first
       | refine WK.seq ?_
       | refine WK.block ?_
       | refine WK.inBlock ?_
       | refine WK.skip ?_
       | refine WK.condT rfl ?_
       | refine WK.condF rfl ?_
       | (refine Hid.h hQ _ _ ?_; clear hQ hA)
       | (refine WK.regH Tryz.ntmps137 (by kernel_rfl) ?_; intro A hA Q hQ; simp [gFault, Inst.enc, wideZ, uI_zero, *])
       | (refine WK.regX (by kernel_rfl) Tryz.ntmps137 (by kernel_rfl) ?_; intro A hA Q hQ; simp [gFault, Inst.enc, wideZ, uI_zero, *])
       | (refine Hid.h hQ _ _ _ (by decide +kernel) ?_; clear hQ hA)
       | (refine RunQ.call rfl rfl rfl rfl rfl ?_ (ha) ?_ ?_; (focus (simp (maxDischargeDepth := 120) [gFault, Inst.enc, wideZ, uI_zero, *]; done)); (focus (simp [gFault, Inst.enc, wideZ, uI_zero, *]; done)); refine RunQ.evalH ?_; simp [gFault, Inst.enc, wideZ, uI_zero, *])
       | (refine WK.ret Tryz.func137 ?_ ?_ <;> simp (maxDischargeDepth := 120) [Tryz.results137, gFault, Inst.enc, wideZ, uI_zero, *])
       | fail)
  have j3 : (k == 3) = false := by simpa using k3
  by_cases k4 : k = 4
  · subst k4
    rw [e34 (.inr rfl)]
    clear e34 e5
    refine FnP.intro Tryz.func137 rfl rfl fun G w => ?_
    cases f <;>
    · repeat' (first
       | refine WK.seq ?_
       | refine WK.block ?_
       | refine WK.inBlock ?_
       | refine WK.condT rfl ?_
       | refine WK.condF rfl ?_
       | (refine Hid.h hQ _ _ ?_; clear hQ hA)
       | (refine WK.regH Tryz.ntmps137 (by kernel_rfl) ?_; intro A hA Q hQ; simp [gFault, Inst.enc, wideZ, uI_zero, *])
       | (refine WK.regX (by kernel_rfl) Tryz.ntmps137 (by kernel_rfl) ?_; intro A hA Q hQ; simp [gFault, Inst.enc, wideZ, uI_zero, *])
       | (refine Hid.h hQ _ _ _ (by decide +kernel) ?_; clear hQ hA)
       | (refine RunQ.call rfl rfl rfl rfl rfl ?_ (ha) ?_ ?_; (focus (simp (maxDischargeDepth := 120) [gFault, Inst.enc, wideZ, uI_zero, *]; done)); (focus (simp [gFault, Inst.enc, wideZ, uI_zero, *]; done)); refine RunQ.evalH ?_; simp [gFault, Inst.enc, wideZ, uI_zero, *])
       | (refine WK.ret Tryz.func137 ?_ ?_ <;> simp (maxDischargeDepth := 120) [Tryz.results137, gFault, Inst.enc, wideZ, uI_zero, *])
       | fail)
  have j4 : (k == 4) = false := by simpa using k4
  rw [e5 (by omega)]
  clear e34 e5 ha s8
  refine FnP.intro Tryz.func137 rfl rfl fun G w => ?_
  repeat' (first
   | refine WK.seq ?_
   | refine WK.block ?_
   | refine WK.inBlock ?_
   | refine WK.skip ?_
   | refine WK.condF rfl ?_
   | (refine Hid.h hQ _ _ ?_; clear hQ hA)
   | (refine WK.regH Tryz.ntmps137 (by kernel_rfl) ?_; intro A hA Q hQ; simp [gFault, Inst.enc, wideZ, uI_zero, *])
   | (refine WK.regX (by kernel_rfl) Tryz.ntmps137 (by kernel_rfl) ?_; intro A hA Q hQ; simp [gFault, Inst.enc, wideZ, uI_zero, *])
   | (refine Hid.h hQ _ _ _ (by decide +kernel) ?_; clear hQ hA)
   | (refine WK.ret Tryz.func137 ?_ ?_ <;> simp (maxDischargeDepth := 120) [Tryz.results137, gFault, Inst.enc, wideZ, uI_zero, *])
   | fail)
set_option maxHeartbeats 4000000 in
theorem iright_c (i : Inst) (hi : i.acts.length ≤ 1000000) : FnP Tryz.prog 239 [.agg i.enc] (.bool (inRight i)) := by
  have p := acencP_c i.acts hi
  have s := isame_c i (inBare i) hi
  have m := imeta_c i
  have e : inRight i = (inOk i && Inst.same i (inBare i)) := rfl
  obtain ⟨z, hz⟩ : ∃ z, Inst.same i (inBare i) = z := ⟨_, rfl⟩
  rw [hz] at s e
  clear hz
  unfold inBare at s
  unfold inOk at e
  obtain ⟨R, hR⟩ : ∃ R, acEnc i.acts = R := ⟨_, rfl⟩
  rw [hR] at p e
  simp only [byS, actS] at p
  clear hR
  obtain ⟨kk, t, v, mm, l⟩ := i
  simp only at hi p s m e
  by_cases k1 : kk = 1
  · subst k1
    rw [if_pos rfl] at s e
    simp only [Inst.enc, wideZ, uI_zero, List.length_nil, actL_nil] at s
    refine FnP.intro Tryz.func239 rfl rfl fun G w => ?_
    repeat' (first
     | refine WK.seq ?_
     | refine WK.block ?_
     | refine WK.inBlock ?_
     | refine WK.condT rfl ?_
     | (refine Hid.h hQ _ _ ?_; clear hQ hA)
     | (refine Fork.mk (fun h => ?_) (fun h => ?_) <;> (first | (simp [*] at h; done) | (have h2 := h; simp at h2; exfalso; omega) | (have h2 := h; simp at h2; try simp only [Bool.not_eq_true', Bool.not_eq_false'] at h) | skip))
     | (refine WK.regH Tryz.ntmps239 (by kernel_rfl) ?_; intro A hA Q hQ; simp [Inst.enc, wideZ, uI_zero, *])
     | (refine WK.regX (by kernel_rfl) Tryz.ntmps239 (by kernel_rfl) ?_; intro A hA Q hQ; simp [Inst.enc, wideZ, uI_zero, *])
     | (refine Hid.h hQ _ _ _ (by decide +kernel) ?_; clear hQ hA)
     | (refine RunQ.gd rfl (by rw [hA.h]; rfl) ?_; simp [Inst.enc, wideZ, uI_zero, *])
     | (refine RunX.gd rfl (by rw [hA.h]; rfl) ?_; simp [Inst.enc, wideZ, uI_zero, *])
     | (refine RunQ.call rfl rfl rfl rfl rfl ?_ (p) ?_ ?_; (focus (simp (maxDischargeDepth := 120) [Inst.enc, wideZ, uI_zero, *]; done)); (focus (simp [Inst.enc, wideZ, uI_zero, *]; done)); refine RunQ.evalH ?_; simp [Inst.enc, wideZ, uI_zero, *])
     | (refine RunQW.call rfl rfl rfl rfl ?_ (s) ?_ ?_; (focus (simp (maxDischargeDepth := 120) [Inst.enc, wideZ, uI_zero, *]; done)); (focus (simp [Inst.enc, wideZ, uI_zero, *]; done)); refine RunQ.evalH ?_; simp [Inst.enc, wideZ, uI_zero, *])
     | (refine WK.ret Tryz.func239 ?_ ?_ <;> simp (maxDischargeDepth := 120) [Tryz.results239, Inst.enc, wideZ, uI_zero, *])
     | fail)
  have j1 : (kk == 1) = false := by simpa using k1
  by_cases k2 : kk = 2
  · subst k2
    rw [if_neg (by decide), if_pos rfl] at s e
    simp only [Inst.enc, wideZ, uI_zero, List.length_nil, actL_nil] at s m
    refine FnP.intro Tryz.func239 rfl rfl fun G w => ?_
    repeat' (first
     | refine WK.seq ?_
     | refine WK.block ?_
     | refine WK.inBlock ?_
     | refine WK.condT rfl ?_
     | refine WK.condF rfl ?_
     | (refine Hid.h hQ _ _ ?_; clear hQ hA)
     | (refine Fork.mk (fun h => ?_) (fun h => ?_) <;> (first | (simp [*] at h; done) | (have h2 := h; simp at h2; exfalso; omega) | (have h2 := h; simp at h2; try simp only [Bool.not_eq_true', Bool.not_eq_false'] at h) | skip))
     | (refine WK.regH Tryz.ntmps239 (by kernel_rfl) ?_; intro A hA Q hQ; simp [Inst.enc, wideZ, uI_zero, *])
     | (refine WK.regX (by kernel_rfl) Tryz.ntmps239 (by kernel_rfl) ?_; intro A hA Q hQ; simp [Inst.enc, wideZ, uI_zero, *])
     | (refine Hid.h hQ _ _ _ (by decide +kernel) ?_; clear hQ hA)
     | (refine RunQ.gd rfl (by rw [hA.h]; rfl) ?_; simp [Inst.enc, wideZ, uI_zero, *])
     | (refine RunQ.call rfl rfl rfl rfl rfl ?_ (p) ?_ ?_; (focus (simp (maxDischargeDepth := 120) [Inst.enc, wideZ, uI_zero, *]; done)); (focus (simp [Inst.enc, wideZ, uI_zero, *]; done)); refine RunQ.evalH ?_; simp [Inst.enc, wideZ, uI_zero, *])
     | (refine RunQW.call rfl rfl rfl rfl ?_ (s) ?_ ?_; (focus (simp (maxDischargeDepth := 120) [Inst.enc, wideZ, uI_zero, *]; done)); (focus (simp [Inst.enc, wideZ, uI_zero, *]; done)); refine RunQ.evalH ?_; simp [Inst.enc, wideZ, uI_zero, *])
     | (refine RunX.call rfl rfl rfl rfl ?_ (m) ?_ ?_; (focus (simp (maxDischargeDepth := 120) [Inst.enc, wideZ, uI_zero, *]; done)); (focus (simp [Inst.enc, wideZ, uI_zero, *]; done)); refine RunX.evalY ?_; simp [Inst.enc, wideZ, uI_zero, *])
     | (refine WK.ret Tryz.func239 ?_ ?_ <;> simp (maxDischargeDepth := 120) [Tryz.results239, Inst.enc, wideZ, uI_zero, *])
     | fail)
  have j2 : (kk == 2) = false := by simpa using k2
  by_cases k3 : kk = 3
  · subst k3
    rw [if_neg (by decide), if_neg (by decide), if_pos (.inl rfl)] at s e
    simp only [Inst.enc, wideZ, uI_zero] at s
    refine FnP.intro Tryz.func239 rfl rfl fun G w => ?_
    repeat' (first
     | refine WK.seq ?_
     | refine WK.block ?_
     | refine WK.inBlock ?_
     | refine WK.skip ?_
     | refine WK.condT rfl ?_
     | refine WK.condF rfl ?_
     | (refine Hid.h hQ _ _ ?_; clear hQ hA)
     | (refine Fork.mk (fun h => ?_) (fun h => ?_) <;> (first | (simp [*] at h; done) | (have h2 := h; simp at h2; exfalso; omega) | (have h2 := h; simp at h2; try simp only [Bool.not_eq_true', Bool.not_eq_false'] at h) | skip))
     | (refine WK.regH Tryz.ntmps239 (by kernel_rfl) ?_; intro A hA Q hQ; simp [Inst.enc, wideZ, uI_zero, *])
     | (refine RunQ.gd rfl (by rw [hA.h]; rfl) ?_; simp [Inst.enc, wideZ, uI_zero, *])
     | (refine RunQ.call rfl rfl rfl rfl rfl ?_ (p) ?_ ?_; (focus (simp (maxDischargeDepth := 120) [Inst.enc, wideZ, uI_zero, *]; done)); (focus (simp [Inst.enc, wideZ, uI_zero, *]; done)); refine RunQ.evalH ?_; simp [Inst.enc, wideZ, uI_zero, *])
     | (refine RunQW.call rfl rfl rfl rfl ?_ (s) ?_ ?_; (focus (simp (maxDischargeDepth := 120) [Inst.enc, wideZ, uI_zero, *]; done)); (focus (simp [Inst.enc, wideZ, uI_zero, *]; done)); refine RunQ.evalH ?_; simp [Inst.enc, wideZ, uI_zero, *])
     | (refine WK.ret Tryz.func239 ?_ ?_ <;> simp (maxDischargeDepth := 120) [Tryz.results239, Inst.enc, wideZ, uI_zero, *])
     | fail)
  have j3 : (kk == 3) = false := by simpa using k3
  by_cases k4 : kk = 4
  · subst k4
    rw [if_neg (by decide), if_neg (by decide), if_pos (.inr rfl)] at s e
    simp only [Inst.enc, wideZ, uI_zero] at s
    refine FnP.intro Tryz.func239 rfl rfl fun G w => ?_
    repeat' (first
     | refine WK.seq ?_
     | refine WK.block ?_
     | refine WK.inBlock ?_
     | refine WK.condT rfl ?_
     | refine WK.condF rfl ?_
     | (refine Hid.h hQ _ _ ?_; clear hQ hA)
     | (refine Fork.mk (fun h => ?_) (fun h => ?_) <;> (first | (simp [*] at h; done) | (have h2 := h; simp at h2; exfalso; omega) | (have h2 := h; simp at h2; try simp only [Bool.not_eq_true', Bool.not_eq_false'] at h) | skip))
     | (refine WK.regH Tryz.ntmps239 (by kernel_rfl) ?_; intro A hA Q hQ; simp [Inst.enc, wideZ, uI_zero, *])
     | (refine RunQ.gd rfl (by rw [hA.h]; rfl) ?_; simp [Inst.enc, wideZ, uI_zero, *])
     | (refine RunQ.call rfl rfl rfl rfl rfl ?_ (p) ?_ ?_; (focus (simp (maxDischargeDepth := 120) [Inst.enc, wideZ, uI_zero, *]; done)); (focus (simp [Inst.enc, wideZ, uI_zero, *]; done)); refine RunQ.evalH ?_; simp [Inst.enc, wideZ, uI_zero, *])
     | (refine RunQW.call rfl rfl rfl rfl ?_ (s) ?_ ?_; (focus (simp (maxDischargeDepth := 120) [Inst.enc, wideZ, uI_zero, *]; done)); (focus (simp [Inst.enc, wideZ, uI_zero, *]; done)); refine RunQ.evalH ?_; simp [Inst.enc, wideZ, uI_zero, *])
     | (refine WK.ret Tryz.func239 ?_ ?_ <;> simp (maxDischargeDepth := 120) [Tryz.results239, Inst.enc, wideZ, uI_zero, *])
     | fail)
  have j4 : (kk == 4) = false := by simpa using k4
  rw [if_neg k1, if_neg k2, if_neg (by omega)] at s e
  by_cases k5 : kk = 5
  · subst k5
    simp only [Inst.enc, wideZ, uI_zero, List.length_nil, actL_nil] at s
    refine FnP.intro Tryz.func239 rfl rfl fun G w => ?_
    repeat' (first
     | refine WK.seq ?_
     | refine WK.block ?_
     | refine WK.inBlock ?_
     | refine WK.skip ?_
     | refine WK.condT rfl ?_
     | refine WK.condF rfl ?_
     | (refine Hid.h hQ _ _ ?_; clear hQ hA)
     | (refine WK.regH Tryz.ntmps239 (by kernel_rfl) ?_; intro A hA Q hQ; simp [Inst.enc, wideZ, uI_zero, *])
     | (refine RunQ.gd rfl (by rw [hA.h]; rfl) ?_; simp [Inst.enc, wideZ, uI_zero, *])
     | (refine RunQ.call rfl rfl rfl rfl rfl ?_ (p) ?_ ?_; (focus (simp (maxDischargeDepth := 120) [Inst.enc, wideZ, uI_zero, *]; done)); (focus (simp [Inst.enc, wideZ, uI_zero, *]; done)); refine RunQ.evalH ?_; simp [Inst.enc, wideZ, uI_zero, *])
     | (refine RunQW.call rfl rfl rfl rfl ?_ (s) ?_ ?_; (focus (simp (maxDischargeDepth := 120) [Inst.enc, wideZ, uI_zero, *]; done)); (focus (simp [Inst.enc, wideZ, uI_zero, *]; done)); refine RunQ.evalH ?_; simp [Inst.enc, wideZ, uI_zero, *])
     | (refine WK.ret Tryz.func239 ?_ ?_ <;> simp (maxDischargeDepth := 120) [Tryz.results239, Inst.enc, wideZ, uI_zero, *])
     | fail)
  have j5 : (kk == 5) = false := by simpa using k5
  refine FnP.intro Tryz.func239 rfl rfl fun G w => ?_
  repeat' (first
   | refine WK.seq ?_
   | refine WK.block ?_
   | refine WK.condF rfl ?_
   | (refine Hid.h hQ _ _ ?_; clear hQ hA)
   | (refine WK.regH Tryz.ntmps239 (by kernel_rfl) ?_; intro A hA Q hQ; simp [Inst.enc, wideZ, uI_zero, *])
   | (refine RunQ.call rfl rfl rfl rfl rfl ?_ (p) ?_ ?_; (focus (simp (maxDischargeDepth := 120) [Inst.enc, wideZ, uI_zero, *]; done)); (focus (simp [Inst.enc, wideZ, uI_zero, *]; done)); refine RunQ.evalH ?_; simp [Inst.enc, wideZ, uI_zero, *])
   | (refine WK.ret Tryz.func239 ?_ ?_ <;> simp (maxDischargeDepth := 120) [Tryz.results239, Inst.enc, wideZ, uI_zero, *])
   | fail)
end Go.Proofs.YtcccfbjkcahgfaaGreat
end
