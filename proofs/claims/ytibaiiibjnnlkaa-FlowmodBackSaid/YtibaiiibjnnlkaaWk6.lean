/- Instructions: from the bytes back, plain; the rows as they are read. -/
import Derived.Test.YtibaiiibjnnlkaaWk5
set_option linter.all false
set_option linter.unnecessarySimpa false
section
set_option linter.unusedVariables false
set_option linter.unusedSimpArgs false
namespace Go.Proofs.Ytibaiiibjnnlkaa
open Go Go.AI Go.Proofs

theorem inCut_facts {b : List (BitVec 8)} {k : Int} {n : Nat} (h : inCut b = (k, n, none)) : 8 ≤ n ∧ n ≤ b.length ∧ n % 8 = 0 ∧ n < 65536 ∧ (∃ kn : Nat, k = kn ∧ 1 ≤ kn ∧ kn ≤ 5 ∧ beN (kn : Int) 2 = b.take 2) ∧ beN (n : Int) 2 = (b.drop 2).take 2 ∧ inLaid k (b.take n) = true := by
  unfold inCut at h
  split at h
  · cases h
  rename_i c0
  split at h
  · cases h
  rename_i c1
  split at h
  · cases h
  rename_i c2
  split at h
  · cases h
  rename_i c3
  split at h
  · cases h
  rename_i c4
  simp only [Prod.mk.injEq, and_true] at h
  obtain ⟨rfl, rfl⟩ := h
  have l0 : ((b.drop 0).take 2).length = 2 := by simp; omega
  have l1 : ((b.drop 2).take 2).length = 2 := by simp; omega
  have e0 := beN_valN 2 _ l0
  have e1 := beN_valN 2 _ l1
  have lt : valN ((b.drop 2).take 2) < 65536 := valN_lt 2 _ l1
  rw [List.drop_zero] at e0 c3
  rw [Bool.not_eq_false] at c4
  exact ⟨by omega, by omega, by omega, lt, ⟨_, by rw [List.drop_zero], by omega, by omega, e0⟩, e1, c4⟩
theorem wide_back (b : List (BitVec 8)) (h : 8 ≤ b.length) : beN (wN (wGet b 8).1) 8 = b.take 8 := by
  have h1 := wPut_wGet b [] 8 (by omega) h
  rw [wPut_beN _ _ _ (by omega), List.nil_append, List.nil_append] at h1
  exact h1
theorem take_take_drop (b : List (BitVec 8)) (p q r : Nat) (h : r = p + q) : (b.drop p).take q ++ b.drop r = b.drop p := by
  subst h
  rw [← List.drop_drop, List.take_append_drop]
theorem inStep_back {ks : List Int} {b : List (BitVec 8)} {y : Inst} {n : Nat} (h : inStep ks b = (y, n, none)) : inRight y = true ∧ y.kind ∉ ks ∧ 8 ≤ n ∧ n ≤ b.length ∧ inOne y = b.take n ∧ y.acts.length * 8 ≤ b.length := by
  unfold inStep at h
  obtain ⟨k, m, c, hc⟩ : ∃ k m c, inCut b = (k, m, c) := ⟨_, _, _, rfl⟩
  rw [hc] at h
  cases c with
  | some c => simp at h
  | none =>
  simp only at h
  split at h
  · cases h
  rename_i hks
  obtain ⟨z, c, hz⟩ : ∃ z c, inOf k (b.take m) = (z, c) := ⟨_, _, rfl⟩
  rw [hz] at h
  cases c with
  | some c => simp at h
  | none =>
  simp only [Prod.mk.injEq, and_true] at h
  obtain ⟨rfl, rfl⟩ := h
  obtain ⟨f1, f2, f3, f4, ⟨kn, rfl, f5, f6, f7⟩, f8, f9⟩ := inCut_facts hc
  obtain ⟨B, hB⟩ : ∃ B, b.take m = B := ⟨_, rfl⟩
  have hBl : B.length = m := by rw [← hB, List.length_take]; omega
  have t2 : b.take 2 = B.take 2 := by rw [← hB, List.take_take, Nat.min_eq_left (by omega)]
  have t4 : (b.drop 2).take 2 = (B.drop 2).take 2 := by
    rw [← hB, List.drop_take, List.take_take, Nat.min_eq_left (by omega)]
  have glue : ∀ body : List (BitVec 8), z.kind = kn → inBody z = body → body = B.drop 4 → inOne z = B := fun body h1 h2 h3 => by
    have hl : 4 + (B.drop 4).length = m := by rw [List.length_drop]; omega
    unfold inOne
    rw [h1, h2, h3, hl, f7, f8, t2, t4, take_take_drop B 2 2 4 rfl, List.take_append_drop]
  rw [hB] at hz f9 ⊢
  have z4 : ∀ p q, allZ ((B.drop p).take q) = true → p + q ≤ m → List.replicate q 0#8 = (B.drop p).take q := fun p q h1 h2 => by
    rw [allZ_iff] at h1
    rw [h1, List.length_take, List.length_drop, Nat.min_eq_left (by omega)]
  unfold inOf at hz
  unfold inLaid at f9
  by_cases k1 : kn = 1
  · subst k1
    rw [if_pos (by decide)] at hz f9
    simp only [Bool.and_eq_true, beq_iff_eq] at f9
    simp only [Prod.mk.injEq] at hz
    obtain ⟨rfl, hc⟩ := hz
    have hne : ¬ (nth B 4).toNat = 255 := fun e => by rw [if_pos e] at hc; cases hc
    have hlt := (nth B 4).isLt
    have h5 : List.replicate 3 0#8 = B.drop 5 := by
      have := f9.2; rw [allZ_iff] at this; rw [this, List.length_drop]; congr 1; omega
    have h4 : B.drop 4 = nth B 4 :: B.drop 5 := by rw [nth_eq (by omega), List.drop_eq_getElem_cons (by omega)]
    refine ⟨?_, hks, f1, f2, ?_, by simp⟩
    · unfold inRight inOk inBare
      simp only [if_pos, instSelf]
      simp
      omega
    · refine glue _ rfl rfl ?_
      unfold inBody
      rw [if_pos rfl, h4, ← h5]
      simp only [ofInt8_nat]
  by_cases k2 : kn = 2
  · subst k2
    rw [if_neg (by decide), if_pos (by decide)] at hz f9
    simp only [Bool.and_eq_true, beq_iff_eq] at f9
    simp only [Prod.mk.injEq] at hz
    obtain ⟨rfl, hc⟩ := hz
    have hm : inMeta (wGet (B.drop 8) 8).1 (wGet (B.drop 16) 8).1 = true := Decidable.byContradiction fun e => by rw [if_neg e] at hc; cases hc
    refine ⟨?_, hks, f1, f2, ?_, by simp⟩
    · unfold inRight inOk inBare
      simp only [if_neg (show ¬ (2 : Int) = 1 by decide), if_pos, instSelf]
      simpa using hm
    · refine glue _ rfl rfl ?_
      unfold inBody
      simp only
      rw [if_neg (by decide), if_pos (by decide)]
      rw [wide_back _ (by rw [List.length_drop]; omega), wide_back _ (by rw [List.length_drop]; omega), z4 4 4 f9.2 (by omega)]
      have h16 : (B.drop 16).take 8 = B.drop 16 := List.take_of_length_le (by rw [List.length_drop]; omega)
      rw [h16, take_take_drop B 8 8 16 rfl, take_take_drop B 4 4 8 rfl]
  by_cases k5 : kn = 5
  · subst k5
    rw [if_neg (by decide), if_neg (by decide), if_pos (by decide)] at f9
    rw [if_neg (by decide), if_neg (by decide), if_neg (by decide)] at hz
    simp only [Bool.and_eq_true, beq_iff_eq] at f9
    simp only [Prod.mk.injEq, and_true] at hz
    subst hz
    have h4 : List.replicate 4 0#8 = B.drop 4 := by
      have := f9.2; rw [allZ_iff] at this; rw [this, List.length_drop]; congr 1; omega
    refine ⟨?_, hks, f1, f2, ?_, by simp⟩
    · show (true && Inst.same _ _) = true
      rw [Bool.true_and]
      exact instSelf _
    · exact glue _ rfl rfl h4
  · have k34 : kn = 3 ∨ kn = 4 := by omega
    rw [if_neg (by omega), if_neg (by omega), if_neg (by omega)] at f9
    rw [if_neg (by omega), if_neg (by omega), if_pos (by omega)] at hz
    obtain ⟨R, hR⟩ : ∃ R, acDec (B.drop 8) = R := ⟨_, rfl⟩
    rw [hR] at hz
    obtain ⟨l, c⟩ := R
    cases c with
    | some c => simp at hz
    | none =>
    simp only [Option.map_none, Prod.mk.injEq, and_true] at hz
    subst hz
    have hb := acDec_back hR
    have hsm := acDec_small hR
    rw [List.length_drop] at hsm
    refine ⟨?_, hks, f1, f2, ?_, by simp only; omega⟩
    · unfold inRight inOk inBare
      simp only [if_neg (show ¬ (kn : Int) = 1 by omega), if_neg (show ¬ (kn : Int) = 2 by omega), if_pos (show (kn : Int) = 3 ∨ (kn : Int) = 4 by omega), instSelf, hb]
      rfl
    · refine glue _ rfl rfl ?_
      unfold inBody
      simp only [if_neg (show ¬ (kn : Int) = 1 by omega), if_neg (show ¬ (kn : Int) = 2 by omega), if_pos (show (kn : Int) = 3 ∨ (kn : Int) = 4 by omega), hb]
      rw [z4 4 4 f9 (by omega), take_take_drop B 4 4 8 rfl]
structure InAt (b : List (BitVec 8)) (x : Nat × Nat × List Inst) : Prop where
  le : x.2.1 ≤ b.length
  fuel : b.length - x.2.1 ≤ x.1
  eq : inDec b = inF x.1 x.2.2 (b.drop x.2.1)
  small : x.2.2.length * 8 ≤ x.2.1
  right : ∀ y, y ∈ x.2.2 → inRight y = true ∧ y.acts.length * 8 ≤ b.length
  once : (inKinds x.2.2).Nodup
  flat : rwFlat inOne x.2.2 = b.take x.2.1
theorem InAt.start (b : List (BitVec 8)) : InAt b (b.length, 0, []) := ⟨Nat.zero_le _, Nat.le_refl _, rfl, Nat.le_refl _, fun y hy => (by cases hy), List.nodup_nil, (by simp [rwFlat])⟩
theorem InAt.bad {b : List (BitVec 8)} {x : Nat × Nat × List Inst} (h : InAt b x) (hp : x.2.1 < b.length) {y : Inst} {n : Nat} {c : Int × Int} (hd : inStep (inKinds x.2.2) (b.drop x.2.1) = (y, n, some c)) : inDec b = ([], some c) := by
  rw [h.eq]
  obtain ⟨f, hf⟩ : ∃ f, x.1 = f + 1 := ⟨x.1 - 1, by have := h.fuel; omega⟩
  rw [hf, inF, if_neg (by rw [List.length_drop]; omega), hd]
theorem InAt.next {b : List (BitVec 8)} {x : Nat × Nat × List Inst} (h : InAt b x) (hp : x.2.1 < b.length) {y : Inst} {n : Nat} (hd : inStep (inKinds x.2.2) (b.drop x.2.1) = (y, n, none)) : x.2.1 + n ≤ b.length ∧ 8 ≤ n ∧ InAt b (x.1 - 1, x.2.1 + n, x.2.2 ++ [y]) := by
  obtain ⟨g1, g2, g3, g4, g5, g6⟩ := inStep_back hd
  rw [List.length_drop] at g4 g6
  obtain ⟨f, hf⟩ : ∃ f, x.1 = f + 1 := ⟨x.1 - 1, by have := h.fuel; omega⟩
  refine ⟨by omega, g3, ⟨by simp only; omega, by have := h.fuel; simp only; omega, ?_, by have := h.small; simp only [List.length_append, List.length_singleton]; omega, ?_, ?_, ?_⟩⟩
  · rw [h.eq, hf, inF, if_neg (by rw [List.length_drop]; omega), hd]
    simp only [Nat.add_sub_cancel]
    rw [List.drop_drop]
  · intro z hz
    simp only [List.mem_append, List.mem_singleton] at hz
    rcases hz with hz | rfl
    · exact h.right z hz
    · exact ⟨g1, by omega⟩
  · unfold inKinds at *
    simp only [List.map_append, List.map_cons, List.map_nil]
    rw [List.nodup_append]
    exact ⟨h.once, by simp, fun a ha b hb => by simp at hb; subst hb; exact fun e => g2 (e ▸ ha)⟩
  · simp only
    rw [rwFlat_app, h.flat, List.take_add]
    congr 1
    unfold rwFlat
    rw [List.flatMap_cons, List.flatMap_nil, List.append_nil, g5]
theorem InAt.stop {b : List (BitVec 8)} {x : Nat × Nat × List Inst} (h : InAt b x) (hp : ¬ x.2.1 < b.length) : inDec b = (x.2.2, none) := by
  rw [h.eq, inF_stop (by rw [List.length_drop]; omega)]
theorem inAt_end : ∀ (f : Nat) (b : List (BitVec 8)) (p : Nat) (acc l : List Inst), InAt b (f, p, acc) → inDec b = (l, none) → ∃ f' p', InAt b (f', p', l) ∧ p' = b.length
  | 0, b, p, acc, l, h, he => by
    have hp : ¬ p < b.length := by have := h.fuel; simp only at this; omega
    have := h.stop hp
    rw [he] at this
    simp only [Prod.mk.injEq, and_true] at this
    subst this
    exact ⟨0, p, h, by have := h.le; simp only at this; omega⟩
  | f + 1, b, p, acc, l, h, he => by
    by_cases hp : p < b.length
    · obtain ⟨y, n, c, hd⟩ : ∃ y n c, inStep (inKinds acc) (b.drop p) = (y, n, c) := ⟨_, _, _, rfl⟩
      cases c with
      | some c => have := h.bad hp hd; rw [he] at this; cases this
      | none =>
        have := (h.next hp hd).2.2
        exact inAt_end f b (p + n) (acc ++ [y]) l this he
    · have := h.stop hp
      rw [he] at this
      simp only [Prod.mk.injEq, and_true] at this
      subst this
      exact ⟨f + 1, p, h, by have := h.le; simp only at this; omega⟩
structure InDone (b : List (BitVec 8)) (l : List Inst) : Prop where
  right : ∀ y, y ∈ l → inRight y = true ∧ y.acts.length * 8 ≤ b.length
  once : (inKinds l).Nodup
  flat : rwFlat inOne l = b
  small : l.length * 8 ≤ b.length
theorem inDec_done {b : List (BitVec 8)} {l : List Inst} (h : inDec b = (l, none)) : InDone b l := by
  obtain ⟨f, p, hat, rfl⟩ := inAt_end b.length b 0 [] l (InAt.start b) h
  exact ⟨hat.right, hat.once, by have := hat.flat; simpa using this, hat.small⟩
theorem inDec_back {b : List (BitVec 8)} {l : List Inst} (h : inDec b = (l, none)) (hb : b.length ≤ 60000) : inEnc l = (b, 0) := by
  have d := inDec_done h
  unfold inEnc
  have hf : inFit l = true := by
    unfold inFit
    rw [Bool.and_eq_true, List.all_eq_true, decide_eq_true_eq]
    exact ⟨fun y hy => (d.right y hy).1, d.once⟩
  rw [d.flat, if_pos ⟨hf, hb⟩]
end Go.Proofs.Ytibaiiibjnnlkaa
end

section
set_option linter.unusedVariables false
set_option linter.unusedSimpArgs false
namespace Go.Proofs.Ytibaiiibjnnlkaa
open Go Go.AI Go.Proofs

/-- numbers, one behind the other -/
def nsEnc (l : List (Int × Nat)) : List (BitVec 8) := l.flatMap fun x => beN x.1 x.2
def nsRead : List Nat → List (BitVec 8) → Nat → List Int
  | [], _, _ => []
  | s :: r, b, p => (getN b p s).1 :: nsRead r b (p + s)
theorem nsEnc_len (l : List (Int × Nat)) : (nsEnc l).length = (l.map (·.2)).sum := by
  induction l with
  | nil => rfl
  | cons x l ih =>
    have e : nsEnc (x :: l) = beN x.1 x.2 ++ nsEnc l := rfl
    rw [e, List.length_append, ih, beN_len]; simp
theorem nsRead_enc : ∀ (l : List (Int × Nat)) (B x z : List (BitVec 8)) (p : Nat), B = x ++ (nsEnc l ++ z) → x.length = p → (∀ y, y ∈ l → numOk y.1 y.2 = true) → nsRead (l.map (·.2)) B p = l.map (·.1)
  | [], _, _, _, _, _, _, _ => rfl
  | y :: l, B, x, z, p, hB, hx, hn => by
    have e : nsEnc (y :: l) = beN y.1 y.2 ++ nsEnc l := rfl
    rw [e] at hB
    have h1 := getN_at (E := B) (x := x) (z := nsEnc l ++ z) (v := y.1) (p := p) (s := y.2) (by rw [hB]; simp only [List.append_assoc]) hx (hn y (by simp))
    rw [List.map_cons, List.map_cons, nsRead, h1, nsRead_enc l B (x ++ beN y.1 y.2) z (p + y.2) (by rw [hB]; simp only [List.append_assoc]) (by rw [List.length_append, hx, beN_len]) (fun y' hy => hn y' (List.mem_cons_of_mem _ hy))]
theorem nsRead_len : ∀ (ss : List Nat) (b : List (BitVec 8)) (p : Nat), (nsRead ss b p).length = ss.length
  | [], _, _ => rfl
  | s :: ss, b, p => by rw [nsRead, List.length_cons, nsRead_len ss, List.length_cons]
theorem nsEnc_read : ∀ (ss : List Nat) (b : List (BitVec 8)) (p : Nat), p + ss.sum ≤ b.length → nsEnc ((nsRead ss b p).zip ss) = (b.drop p).take ss.sum ∧ ∀ y, y ∈ (nsRead ss b p).zip ss → numOk y.1 y.2 = true
  | [], b, p, _ => ⟨by simp [nsRead, nsEnc], by simp [nsRead]⟩
  | s :: ss, b, p, h => by
    rw [List.sum_cons] at h
    obtain ⟨h1, h2⟩ := getN_ok (b := b) (p := p) (s := s) (by omega)
    obtain ⟨h3, h4⟩ := nsEnc_read ss b (p + s) (by omega)
    rw [nsRead, List.zip_cons_cons]
    refine ⟨?_, ?_⟩
    · show beN _ s ++ nsEnc _ = _
      rw [h2, h3, List.sum_cons, List.take_add, List.drop_drop]
    · intro y hy
      rw [List.mem_cons] at hy
      rcases hy with rfl | hy
      · exact h1
      · exact h4 y hy
theorem wGet8_hi {b : List (BitVec 8)} (h : 8 ≤ b.length) : (wGet b 8).1.hi = 0#64 := by
  have h1 := wide_back b h
  have hl : (b.take 8).length = 8 := by rw [List.length_take]; omega
  have h2 : wN (wGet b 8).1 < 256 ^ 8 := by
    have : (wGet b 8).1 = wVal (b.take 8) := by unfold wGet; rw [if_pos (by omega)]
    rw [this, wVal_wN 8 _ hl (by omega)]
    exact valN_lt 8 _ hl
  unfold wN at h2
  refine BitVec.eq_of_toNat_eq ?_
  have : (256 : Nat) ^ 8 = 18446744073709551616 := by decide
  rw [this] at h2
  simp
  omega
def fmSizes : List Nat := [1, 1, 2, 2, 2, 4, 4, 4, 2]
def fmNums (m : FlowMod) : List Int := [m.table, m.command, m.idle, m.hard, m.prio, m.buffer, m.outPort, m.outGroup, m.flags]
def fmZip (m : FlowMod) : List (Int × Nat) := (fmNums m).zip fmSizes
def fmWrong (m : FlowMod) : Bool := m.insts.any fun i => i.acts.any fun a => a.kind == 25 && !mMet m.mat a.oxm.field
def fmCheck (m : FlowMod) : Option (Int × Int) :=
  if m.command < 0 ∨ 4 < m.command then some (5, 6) else if 31 < m.flags then some (5, 7) else if 2 < m.command then none else if fmWrong m = true then some (2, 10) else none
def fmRight (m : FlowMod) : Bool := (fmZip m).all (fun x => numOk x.1 x.2) && ((mEnc m.mat).2 == 0 && ((inEnc m.insts).2 == 0 && (fmCheck m).isNone))
def fmHead (m : FlowMod) : List (BitVec 8) := beN m.cookie.toNat 8 ++ (beN m.cookieMask.toNat 8 ++ (nsEnc (fmZip m) ++ List.replicate 2 0#8))
def fmEnc (m : FlowMod) : List (BitVec 8) × Int := if fmRight m = true then (fmHead m ++ ((mEnc m.mat).1 ++ (inEnc m.insts).1), 0) else ([], 1)
def flowMod0 : FlowMod := ⟨0#64, 0#64, 0, 0, 0, 0, 0, 0, 0, 0, 0, [], []⟩
/-- a change with numbers -/
def fmTake (c k : BitVec 64) (n : List Int) (l : List Oxm) (i : List Inst) : FlowMod := ⟨c, k, nth n 0, nth n 1, nth n 2, nth n 3, nth n 4, nth n 5, nth n 6, nth n 7, nth n 8, l, i⟩
def fmDec (b : List (BitVec 8)) : FlowMod × Option (Int × Int) :=
  if b.length < 40 then (flowMod0, some (1, 6)) else if allZ ((b.drop 38).take 2) = false then (flowMod0, some (1, 6)) else
  match (mDec (b.drop 40)).2.2 with
  | some c => (flowMod0, some c)
  | none => match (inDec (b.drop (40 + (mDec (b.drop 40)).2.1))).2 with
    | some c => (flowMod0, some c)
    | none => match fmCheck (fmTake (wGet b 8).1.lo (wGet (b.drop 8) 8).1.lo (nsRead fmSizes b 16) (mDec (b.drop 40)).1 (inDec (b.drop (40 + (mDec (b.drop 40)).2.1))).1) with
      | some c => (flowMod0, some c)
      | none => (fmTake (wGet b 8).1.lo (wGet (b.drop 8) 8).1.lo (nsRead fmSizes b 16) (mDec (b.drop 40)).1 (inDec (b.drop (40 + (mDec (b.drop 40)).2.1))).1, none)
theorem fmZip_sizes (m : FlowMod) : (fmZip m).map (·.2) = fmSizes := rfl
theorem fmZip_nums (m : FlowMod) : (fmZip m).map (·.1) = fmNums m := rfl
theorem fmHead_len (m : FlowMod) : (fmHead m).length = 40 := by
  have h := nsEnc_len (fmZip m)
  rw [fmZip_sizes] at h
  have : fmSizes.sum = 22 := rfl
  unfold fmHead; simp [beN_len, h, this]
structure FmFit (m : FlowMod) : Prop where
  nums : ∀ x, x ∈ fmZip m → numOk x.1 x.2 = true
  mat : (mEnc m.mat).2 = 0
  ins : (inEnc m.insts).2 = 0
  chk : fmCheck m = none
theorem fmRight_facts {m : FlowMod} (h : fmRight m = true) : FmFit m := by
  unfold fmRight at h
  rw [Bool.and_eq_true, Bool.and_eq_true, Bool.and_eq_true, beq_iff_eq, beq_iff_eq, List.all_eq_true] at h
  exact ⟨h.1, h.2.1, h.2.2.1, by simpa using h.2.2.2⟩
theorem fmRight_of {m : FlowMod} (h : FmFit m) : fmRight m = true := by
  unfold fmRight
  rw [Bool.and_eq_true, Bool.and_eq_true, Bool.and_eq_true, beq_iff_eq, beq_iff_eq, List.all_eq_true]
  exact ⟨h.nums, h.mat, h.ins, by rw [h.chk]; rfl⟩
theorem fmEnc_bad {m : FlowMod} (h : fmRight m = false) : fmEnc m = ([], 1) := by unfold fmEnc; rw [if_neg (by rw [h]; exact Bool.false_ne_true)]
theorem fmEnc_len (m : FlowMod) : (fmEnc m).1.length ≤ 61052 := by
  unfold fmEnc
  split
  · have h1 := fmHead_len m
    have h2 := mEnc_len m.mat
    have h3 := inEnc_len m.insts
    simp only [List.length_append]; omega
  · simp
theorem fmEnc_back {m : FlowMod} (h : fmRight m = true) : fmDec (fmEnc m).1 = (m, none) := by
  obtain ⟨h1, h2, h3, h4⟩ := fmRight_facts h
  have hm := mEnc_back h2 (inEnc m.insts).1
  have hi := inEnc_back h3
  unfold fmEnc
  rw [if_pos h]
  simp only
  have hh := fmHead_len m
  obtain ⟨B, hB⟩ : ∃ B, fmHead m ++ ((mEnc m.mat).1 ++ (inEnc m.insts).1) = B := ⟨_, rfl⟩
  have d40 : B.drop 40 = (mEnc m.mat).1 ++ (inEnc m.insts).1 := by
    rw [← hB, List.drop_append_of_le_length (by omega), List.drop_of_length_le (by omega), List.nil_append]
  have dk : B.drop (40 + (mEnc m.mat).1.length) = (inEnc m.insts).1 := by
    rw [← List.drop_drop, d40, List.drop_append_of_le_length (Nat.le_refl _), List.drop_length, List.nil_append]
  have hl : 40 ≤ B.length := by rw [← hB, List.length_append]; omega
  rw [hB]
  unfold fmHead at hB
  simp only [List.append_assoc] at hB
  have z38 : (B.drop 38).take 2 = List.replicate 2 0#8 := by
    have e : B = (beN m.cookie.toNat 8 ++ (beN m.cookieMask.toNat 8 ++ nsEnc (fmZip m))) ++ (List.replicate 2 0#8 ++ ((mEnc m.mat).1 ++ (inEnc m.insts).1)) := by rw [← hB]; simp only [List.append_assoc]
    have l38 : (beN m.cookie.toNat 8 ++ (beN m.cookieMask.toNat 8 ++ nsEnc (fmZip m))).length = 38 := by
      have h := nsEnc_len (fmZip m)
      rw [fmZip_sizes] at h
      have : fmSizes.sum = 22 := rfl
      simp [beN_len, h, this]
    rw [e, List.drop_append_of_le_length (by omega), List.drop_of_length_le (by omega), List.nil_append, List.take_append_of_le_length (by simp), List.take_of_length_le (by simp)]
  have wlo : ∀ c : BitVec 64, wN (w64 c) = c.toNat := fun c => by simp [wN, w64]
  have wok : ∀ c : BitVec 64, (wN (w64 c) : Int) < 256 ^ 8 := fun c => wN_low rfl
  have c0 : wGet B 8 = (w64 m.cookie, true) := by
    have := wGet_beN (w64 m.cookie) 8 (beN m.cookieMask.toNat 8 ++ (nsEnc (fmZip m) ++ (List.replicate 2 0#8 ++ ((mEnc m.mat).1 ++ (inEnc m.insts).1)))) (by omega) (wok _)
    rw [wlo, hB] at this
    exact this
  have d8 : B.drop 8 = beN m.cookieMask.toNat 8 ++ (nsEnc (fmZip m) ++ (List.replicate 2 0#8 ++ ((mEnc m.mat).1 ++ (inEnc m.insts).1))) := by
    rw [← hB, List.drop_append_of_le_length (by simp [beN_len]), List.drop_of_length_le (by simp [beN_len]), List.nil_append]
  have c1 : wGet (B.drop 8) 8 = (w64 m.cookieMask, true) := by
    have := wGet_beN (w64 m.cookieMask) 8 (nsEnc (fmZip m) ++ (List.replicate 2 0#8 ++ ((mEnc m.mat).1 ++ (inEnc m.insts).1))) (by omega) (wok _)
    rw [wlo, ← d8] at this
    exact this
  have ns : nsRead fmSizes B 16 = fmNums m := by
    have := nsRead_enc (fmZip m) B (beN m.cookie.toNat 8 ++ beN m.cookieMask.toNat 8) (List.replicate 2 0#8 ++ ((mEnc m.mat).1 ++ (inEnc m.insts).1)) 16 (by rw [← hB]; simp only [List.append_assoc]) (by simp [beN_len]) h1
    rw [fmZip_sizes, fmZip_nums] at this
    exact this
  unfold fmDec
  rw [if_neg (by omega), z38, if_neg (by rw [allZ_rep]; exact Bool.noConfusion), d40, hm]
  simp only
  rw [dk, hi]
  simp only
  rw [c0, c1, ns]
  show (match fmCheck m with | some c => (flowMod0, some c) | none => (m, none)) = _
  rw [h4]
theorem fmDec_bad {b : List (BitVec 8)} {m : FlowMod} {c : Int × Int} (h : fmDec b = (m, some c)) : m = flowMod0 := by
  unfold fmDec at h
  split at h
  · cases h; rfl
  split at h
  · cases h; rfl
  split at h
  · cases h; rfl
  split at h
  · cases h; rfl
  split at h
  · cases h; rfl
  · cases h
theorem fmDec_back {b : List (BitVec 8)} {m : FlowMod} (h : fmDec b = (m, none)) (hb : b.length ≤ 60000) : fmRight m = true ∧ fmEnc m = (b, 0) := by
  unfold fmDec at h
  split at h
  · cases h
  rename_i c0
  split at h
  · cases h
  rename_i c1
  rw [Bool.not_eq_false] at c1
  obtain ⟨l, n, c, hm⟩ : ∃ l n c, mDec (b.drop 40) = (l, n, c) := ⟨_, _, _, rfl⟩
  rw [hm] at h
  cases c with
  | some c => simp at h
  | none =>
  simp only at h
  obtain ⟨i, c, hi⟩ : ∃ i c, inDec (b.drop (40 + n)) = (i, c) := ⟨_, _, rfl⟩
  rw [hi] at h
  cases c with
  | some c => simp at h
  | none =>
  simp only at h
  split at h
  · cases h
  rename_i hck
  simp only [Prod.mk.injEq, and_true] at h
  subst h
  obtain ⟨g1, g2, g3, g4, g5⟩ := mDec_back hm
  have g6 := inDec_back hi (by rw [List.length_drop]; omega)
  rw [List.length_drop] at g1
  obtain ⟨n1, n2⟩ := nsEnc_read fmSizes b 16 (by show 16 + 22 ≤ b.length; omega)
  have hz : fmZip (fmTake (wGet b 8).1.lo (wGet (b.drop 8) 8).1.lo (nsRead fmSizes b 16) l i) = (nsRead fmSizes b 16).zip fmSizes := rfl
  have hfit : FmFit (fmTake (wGet b 8).1.lo (wGet (b.drop 8) 8).1.lo (nsRead fmSizes b 16) l i) := ⟨by rw [hz]; exact n2, by show (mEnc l).2 = 0; rw [g4], by show (inEnc i).2 = 0; rw [g6], hck⟩
  have hr := fmRight_of hfit
  refine ⟨hr, ?_⟩
  unfold fmEnc
  rw [if_pos hr]
  refine Prod.ext ?_ rfl
  show fmHead _ ++ ((mEnc l).1 ++ (inEnc i).1) = b
  rw [g4, g6]
  unfold fmHead
  rw [hz, n1]
  show beN (wGet b 8).1.lo.toNat 8 ++ (beN (wGet (b.drop 8) 8).1.lo.toNat 8 ++ _) ++ _ = b
  have w1 : ∀ B : List (BitVec 8), 8 ≤ B.length → beN (wGet B 8).1.lo.toNat 8 = B.take 8 := fun B hB => by
    have h1 := wide_back B hB
    have h2 := wGet8_hi hB
    unfold wN at h1
    rw [h2] at h1
    simpa using h1
  rw [w1 b (by omega), w1 (b.drop 8) (by rw [List.length_drop]; omega)]
  have hzr : List.replicate 2 0#8 = (b.drop 38).take 2 := by
    rw [allZ_iff] at c1
    rw [c1, List.length_take, List.length_drop, Nat.min_eq_left (by omega)]
  rw [hzr, show fmSizes.sum = 22 from rfl]
  have ta : ∀ p q r s : Nat, r = p + q → (b.drop p).take q ++ (b.drop r).take s = (b.drop p).take (q + s) := fun p q r s e => by subst e; rw [List.take_add, List.drop_drop]
  have t0 : b.take 8 = (b.drop 0).take 8 := by rw [List.drop_zero]
  rw [ta 16 22 38 2 rfl, ta 8 8 16 _ rfl, t0, ta 0 8 8 _ rfl, List.drop_zero, take_take_drop (b) 40 n (40 + n) rfl, List.take_append_drop]
end Go.Proofs.Ytibaiiibjnnlkaa
end

section
set_option linter.unusedVariables false
set_option linter.unusedSimpArgs false
namespace Go.Proofs.Ytibaiiibjnnlkaa
open Go Go.AI Go.Proofs

theorem drop_nth {α : Type} [Inhabited α] {l : List α} {i : Nat} (h : i < l.length) : l.drop i = nth l i :: l.drop (i + 1) := by
  rw [List.drop_eq_getElem_cons h, nth_eq h]
theorem take_nth {α : Type} [Inhabited α] {l : List α} {i : Nat} (h : i < l.length) : l.take (i + 1) = l.take i ++ [nth l i] := by
  rw [List.take_succ_eq_append_getElem h, nth_eq h]
theorem mCheck_at {l : List Oxm} {i : Nat} (h : i < l.length) : mCheckF (l.take i) (l.drop i) =
    if ((l.take i).any fun p => p.field == (nth l i).field) = true then some 10 else if mMet (l.take i) (nth l i).field = false then some 9 else mCheckF (l.take (i + 1)) (l.drop (i + 1)) := by
  rw [drop_nth h, mCheckF, take_nth h]
theorem mCheck_end (l : List Oxm) : mCheckF (l.take l.length) (l.drop l.length) = none := by rw [List.drop_length]; rfl
theorem all_false {α : Type} [Inhabited α] {p : α → Bool} {l : List α} {i : Nat} (h : i < l.length) (hp : p (nth l i) = false) : l.all p = false := by
  rw [List.all_eq_false]; exact ⟨nth l i, nth_mem h, by simp [hp]⟩
theorem all_true {α : Type} [Inhabited α] {p : α → Bool} {l : List α} (h : ∀ j, j < l.length → p (nth l j) = true) : l.all p = true := by
  rw [List.all_eq_true]; intro x hx
  obtain ⟨j, hj, rfl⟩ := mem_nth hx
  exact h j hj
theorem any_false' {α : Type} [Inhabited α] {p : α → Bool} {l : List α} (h : ∀ j, j < l.length → p (nth l j) = false) : l.any p = false := by
  rw [List.any_eq_false]; intro x hx
  obtain ⟨j, hj, rfl⟩ := mem_nth hx
  simp [h j hj]
theorem any_true' {α : Type} [Inhabited α] {p : α → Bool} {l : List α} {i : Nat} (h : i < l.length) (hp : p (nth l i) = true) : l.any p = true := by
  rw [List.any_eq_true]; exact ⟨nth l i, nth_mem h, hp⟩
theorem mMet_false {l : List Oxm} {f : Int} {i : Nat} (h : i < (needs f).length) (hp : (l.any fun o => mGives o (nth (needs f) i)) = false) : mMet l f = false := all_false (p := fun n => l.any fun o => mGives o n) h hp
theorem mMet_true {l : List Oxm} {f : Int} (h : ∀ j, j < (needs f).length → (l.any fun o => mGives o (nth (needs f) j)) = true) : mMet l f = true := all_true (p := fun n => l.any fun o => mGives o n) h
theorem needs_small (f : Int) : (needs f).length ≤ 2 ∧ ∀ n, n ∈ needs f → n.values.length ≤ 2 := by
  have h : ∀ L : List Need, L ∈ [[], [⟨5, []⟩], [nEth [0x800#64, 0x86dd#64]], [nEth [0x800#64]], [nEth [0x800#64, 0x86dd#64], nProto 6#64], [nEth [0x800#64, 0x86dd#64], nProto 17#64], [nEth [0x800#64], nProto 1#64], [nEth [0x806#64]], [nEth [0x86dd#64]], [nEth [0x8847#64, 0x8848#64]]] → L.length ≤ 2 ∧ ∀ n, n ∈ L → n.values.length ≤ 2 := by
    intro L hL
    simp only [List.mem_cons, List.not_mem_nil, or_false] at hL
    rcases hL with rfl | rfl | rfl | rfl | rfl | rfl | rfl | rfl | rfl | rfl <;> decide
  refine h _ ?_
  unfold needs
  repeat' split
  all_goals decide
theorem seven_bit : ∀ i : Fin 64, (7#64).getLsbD i.val = decide (i.val < 3) := by decide +kernel
theorem and_not7 (x : BitVec 64) : x &&& ~~~7#64 = (x >>> 3) <<< 3 := by
  refine BitVec.eq_of_getLsbD_eq fun i hi => ?_
  have h7 := seven_bit ⟨i, hi⟩
  simp only at h7
  rw [BitVec.getLsbD_and, BitVec.getLsbD_not, h7, BitVec.getLsbD_shiftLeft, BitVec.getLsbD_ushiftRight]
  by_cases h3 : i < 3
  · simp [h3]
  · have e : 3 + (i - 3) = i := by omega
    simp [h3, hi, e]
theorem bNot7_big (n : Nat) (h : n < 4611686018427387904) : bNot .i64 (n : Int) 7 = ((n / 8 * 8 : Nat) : Int) := by
  unfold bNot
  show IntKind.wrap .i64 (((BitVec.ofInt 64 (n : Int) &&& ~~~(BitVec.ofInt 64 7)).toNat : Nat) : Int) = _
  rw [show BitVec.ofInt 64 (n : Int) = BitVec.ofNat 64 n from by rw [← BitVec.ofInt_natCast], show BitVec.ofInt 64 7 = 7#64 from rfl, and_not7, BitVec.toNat_shiftLeft, BitVec.toNat_ushiftRight, BitVec.toNat_ofNat, Nat.mod_eq_of_lt (by omega),
    Nat.shiftLeft_eq, Nat.shiftRight_eq_div_pow, Nat.mod_eq_of_lt (by omega)]
  exact wrap_i64 (by omega) (by omega)
theorem mPad_bit (n : Nat) (h : n < 1000000000) : bNot .i64 (IntKind.i64.wrap ((n : Int) + 7)) 7 = ((mPad n : Nat) : Int) := by
  rw [wrap_i64 (by omega) (by omega), show (n : Int) + 7 = ((n + 7 : Nat) : Int) by omega, bNot7_big _ (by omega)]; rfl
end Go.Proofs.Ytibaiiibjnnlkaa
end

section
set_option linter.unusedVariables false
set_option linter.unusedSimpArgs false
namespace Go.Proofs.Ytibaiiibjnnlkaa
open Go Go.AI Go.Proofs
attribute [local irreducible] FnP FnO FnB FnT FnSeq WK RunQ RunQW RunX RunXW

@[simp] theorem GroupMod.len (x : GroupMod) : x.enc.length = 4 := rfl
@[simp] theorem GroupMod.cl (x : GroupMod) : ClL x.enc = true := by simp [GroupMod.enc, ClL, Cl]
@[simp] theorem GroupMod.take (x : GroupMod) : x.enc.take 4 = x.enc := rfl
end Go.Proofs.Ytibaiiibjnnlkaa
end

section
set_option linter.unusedVariables false
set_option linter.unusedSimpArgs false
namespace Go.Proofs.Ytibaiiibjnnlkaa
open Go Go.AI Go.Proofs
attribute [local irreducible] FnP FnO FnB FnT FnSeq WK RunQ RunQW RunX RunXW

def wdL (l : List Wide) : List AV := l.flatMap Wide.enc
def wdS (l : List Wide) : AV := .sl false l.length (wdL l)
@[simp] theorem wdL_len (l : List Wide) : (wdL l).length = l.length * 2 := fm_length Wide.len l
@[simp] theorem wdL_cl (l : List Wide) : ClL (wdL l) = true := ClL_flatMap _ Wide.cl l
theorem wd_load (l : List Wide) (i : Nat) (h : i < l.length) : ((wdL l).drop (i * 2)).take 2 = (nth l i).enc ∧ 2 ≤ l.length * 2 - i * 2 := ⟨fm_nth Wide.len l i h, by omega⟩
@[simp] theorem wdS_cl (l : List Wide) : Cl (wdS l) = true := by simp [wdS, Cl]
@[simp] theorem wdL_nil : wdL [] = [] := rfl
theorem wdL_snoc (l : List Wide) (x : Wide) : wdL l ++ x.enc = wdL (l ++ [x]) := by unfold wdL; rw [List.flatMap_append]; simp
def Need.enc (n : Need) : List AV := [.int .i64 n.field, .sl false n.values.length (wdL n.values)]
@[simp] theorem Need.len (n : Need) : n.enc.length = 2 := rfl
@[simp] theorem Need.cl (n : Need) : ClL n.enc = true := by simp [Need.enc, ClL, Cl]
def needL (l : List Need) : List AV := l.flatMap Need.enc
def needS (l : List Need) : AV := .sl false l.length (needL l)
@[simp] theorem needL_len (l : List Need) : (needL l).length = l.length * 2 := fm_length Need.len l
@[simp] theorem needL_cl (l : List Need) : ClL (needL l) = true := ClL_flatMap _ Need.cl l
theorem need_sub (l : List Need) (i : Nat) (h : i < l.length) : ((needL l).drop (i * 2)).take 2 = (nth l i).enc := fm_nth Need.len l i h
theorem need_load (l : List Need) (i : Nat) (h : i < l.length) : ((needL l).drop (i * 2)).take 2 = (nth l i).enc ∧ 2 ≤ l.length * 2 - i * 2 := ⟨need_sub l i h, by omega⟩
@[simp] theorem needS_cl (l : List Need) : Cl (needS l) = true := by simp [needS, Cl]
@[simp] theorem needL_take (l : List Need) : (needL l).take (l.length * 2) = needL l := List.take_of_length_le (by simp)
@[simp] theorem needL_nil : needL [] = [] := rfl
@[simp] theorem Need.take (x : Need) : x.enc.take 2 = x.enc := rfl
@[simp] theorem Need.drop (x : Need) : x.enc.drop 2 = [] := rfl
def u64L (l : List (BitVec 64)) : List AV := l.map fun x => .int .u64 (uI x)
@[simp] theorem u64L_len (l : List (BitVec 64)) : (u64L l).length = l.length := by simp [u64L]
@[simp] theorem u64L_cl (l : List (BitVec 64)) : ClL (u64L l) = true := ClL_map _ (fun x => rfl) l
theorem u64_get (l : List (BitVec 64)) (i : Nat) (h : i < l.length) (h' : i < (u64L l).length) : (u64L l)[i] = .int .u64 (uI (nth l i)) := by
  unfold u64L at h' ⊢; rw [List.getElem_map, nth_eq h]
theorem app_wd : AppOk Try.prog 116 42 2 16 := ⟨by simp, by simp, by simp, by simp, by simp, by simp, by omega, by omega⟩
theorem app_need : AppOk Try.prog 114 118 2 32 := ⟨by simp, by simp, by simp, by simp, by simp, by simp, by omega, by omega⟩
theorem w64_take {l : List (BitVec 64)} {i : Nat} (h : i < l.length) : wdL ((l.map w64).take i) ++ [.int .u64 0, .int .u64 (uI (nth l i))] = wdL ((l.map w64).take (i + 1)) := by
  rw [← List.map_take, ← List.map_take, take_nth h, List.map_append, ← uI_zero]
  exact wdL_snoc _ (w64 (nth l i))
theorem fis_c (f : Int) (l : List (BitVec 64)) (hl : l.length ≤ 1000) : FnP Try.prog 84 [.int .i64 f, .sl false l.length (u64L l)] (.agg (Need.enc ⟨f, l.map w64⟩)) := by
  refine FnP.intro Try.func84 rfl rfl fun G w => ?_
  repeat' (first
   | refine WK.seq ?_
   | refine WK.block ?_
   | refine WK.inBlock ?_
   | refine WK.skip ?_
   | refine WK.label ?_
   | refine WK.scope ?_
   | refine WK.inScope ?_
   | refine WK.exit rfl ?_
   | refine WK.condT rfl ?_
   | refine WK.condF rfl ?_
   | (refine Hid.h hQ _ _ ?_; clear hQ hA)
   | refine WK.condAny rfl ?_ ?_
   | (refine WK.cond2 rfl (fun h => ?_) (fun h => ?_) <;> (first | (simp [*] at h; done) | (have h2 := h; simp at h2; exfalso; omega) | (have h2 := h; simp at h2; try simp only [Bool.not_eq_true', Bool.not_eq_false'] at h) | skip))
   | (refine WK.regH Try.ntmps84 (by kernel_rfl) ?_; intro A hA Q hQ; simp [*])
   | fail)
  repeat (first | refine WK.seq ?_ | refine WK.block ?_ | refine WK.inBlock ?_ | refine WK.skip ?_ | refine WK.label ?_ | refine WK.scope ?_ | refine WK.inScope ?_ | refine WK.exit rfl ?_)
  refine WK.ghost (Ghost.ownVar 102 1 900 2 rfl rfl rfl) ?_
  repeat (first | refine WK.seq ?_ | refine WK.block ?_ | refine WK.inBlock ?_ | refine WK.skip ?_ | refine WK.label ?_ | refine WK.scope ?_ | refine WK.inScope ?_ | refine WK.exit rfl ?_)
  refine WK.loopI (fun n => if n = 1 then 102 else if n = 2 then 900 else n) (fun i : Nat => (⟨(upd (upd (upd (upd (upd J 4 (.ptr 0 0)) 5 (.ptr 1 0)) 10 (.sl false l.length (u64L l))) 11 (.int .i64 l.length)) 12 (.int .i64 i)), (upd (upd (upd B0 0 (.var [.junk, .junk])) 1 (.var [.int .i64 f, .msl 2 0 i])) 2 (.buf 2 (wdL ((l.map w64).take i)))), 0⟩ : St)) (fun i => i ≤ l.length) (fun i => l.length - i) (0) (by repeat (first | exact TmW.nil | refine TmW.upd ?_ (by simp (maxDischargeDepth := 120) [wdL]))) (by repeat (first | exact BxW.nil | refine BxW.upd ?_ (by simp (maxDischargeDepth := 120) [wdL]))) (by first | exact InjW.id | exact InjW.nil | exact InjW.one | exact InjW.two (by simp) | exact InjW.three (by simp) (by simp) (by simp)) (Nat.zero_le _) (fun i hi IH => ?_)
  by_cases h1 : i < l.length
  · have h4 := u64_get l i h1
    have h6 : IntKind.i64.wrap ((i : Int) + 1) = i + 1 := wrap_i64 (by omega) (by omega)
    have hb : (i + 1) * 16 ≤ 140737488355328 := by omega
    have h3 : ((l.map w64).take i).length = i := by rw [List.length_take, List.length_map]; omega
    have hs := w64_take h1
    repeat' (first
     | refine WK.seq ?_
     | refine WK.block ?_
     | refine WK.inBlock ?_
     | refine WK.skip ?_
     | refine WK.label ?_
     | refine WK.scope ?_
     | refine WK.inScope ?_
     | refine WK.exit rfl ?_
     | refine WK.condT rfl ?_
     | refine WK.condF rfl ?_
     | (refine Hid.h hQ _ _ ?_; clear hQ hA)
     | refine WK.condAny rfl ?_ ?_
     | (refine WK.cond2 rfl (fun h => ?_) (fun h => ?_) <;> (first | (simp [*] at h; done) | (have h2 := h; simp at h2; exfalso; omega) | (have h2 := h; simp at h2; try simp only [Bool.not_eq_true', Bool.not_eq_false'] at h) | skip))
     | (refine WK.regH Try.ntmps84 (by kernel_rfl) ?_; intro A hA Q hQ; simp [*])
     | (refine RunQ.append 901 app_wd rfl rfl rfl rfl rfl rfl rfl rfl rfl ?_ ?_ ?_ ?_ ?_; (focus (first | omega | (simp [*]; done); done)); (focus (first | omega | (simp [*]; done); done)); (focus (first | omega | (simp [*]; done); done)); (focus (first | omega | (simp [*]; done); done)); refine RunQ.evalH ?_; simp [*])
     | fail)
    repeat (first | refine WK.seq ?_ | refine WK.block ?_ | refine WK.inBlock ?_ | refine WK.skip ?_ | refine WK.label ?_ | refine WK.scope ?_ | refine WK.inScope ?_ | refine WK.exit rfl ?_)
    refine WK.next (fun n => if n = 2 then 901 else n) (IH (i + 1) (by omega) (by first | omega | (dsimp only; omega))) (by repeat (first | exact TmW.nil | refine TmW.upd ?_ (by simp (maxDischargeDepth := 120) [hs]))) (by repeat (first | exact BxW.nil | refine BxW.upd ?_ (by simp (maxDischargeDepth := 120) [hs]))) (by first | exact InjW.id | exact InjW.nil | exact InjW.one | exact InjW.two (by simp) | exact InjW.three (by simp) (by simp) (by simp))
  · have hT : (l.map w64).take i = l.map w64 := List.take_of_length_le (by rw [List.length_map]; omega)
    have hi' : i = l.length := by omega
    have hT2 : (wdL (l.map w64)).take (l.length * 2) = wdL (l.map w64) := List.take_of_length_le (by simp)
    rw [hT]
    repeat' (first
     | refine WK.seq ?_
     | refine WK.block ?_
     | refine WK.inBlock ?_
     | refine WK.skip ?_
     | refine WK.label ?_
     | refine WK.scope ?_
     | refine WK.inScope ?_
     | refine WK.exit rfl ?_
     | refine WK.condT rfl ?_
     | refine WK.condF rfl ?_
     | (refine Hid.h hQ _ _ ?_; clear hQ hA)
     | refine WK.condAny rfl ?_ ?_
     | (refine WK.cond2 rfl (fun h => ?_) (fun h => ?_) <;> (first | (simp [*] at h; done) | (have h2 := h; simp at h2; exfalso; omega) | (have h2 := h; simp at h2; try simp only [Bool.not_eq_true', Bool.not_eq_false'] at h) | skip))
     | (refine WK.regH Try.ntmps84 (by kernel_rfl) ?_; intro A hA Q hQ; simp [*])
     | fail)
    repeat (first | refine WK.seq ?_ | refine WK.block ?_ | refine WK.inBlock ?_ | refine WK.skip ?_ | refine WK.label ?_ | refine WK.scope ?_ | refine WK.inScope ?_ | refine WK.exit rfl ?_)
    refine WK.ghost (Ghost.frzCell 0 1 2 _ 2 rfl rfl rfl (by decide)) ?_
    repeat' (first
     | refine WK.seq ?_
     | refine WK.block ?_
     | refine WK.inBlock ?_
     | refine WK.skip ?_
     | refine WK.label ?_
     | refine WK.scope ?_
     | refine WK.inScope ?_
     | refine WK.exit rfl ?_
     | refine WK.condT rfl ?_
     | refine WK.condF rfl ?_
     | (refine Hid.h hQ _ _ ?_; clear hQ hA)
     | refine WK.condAny rfl ?_ ?_
     | (refine WK.cond2 rfl (fun h => ?_) (fun h => ?_) <;> (first | (simp [*] at h; done) | (have h2 := h; simp at h2; exfalso; omega) | (have h2 := h; simp at h2; try simp only [Bool.not_eq_true', Bool.not_eq_false'] at h) | skip))
     | (refine WK.regH Try.ntmps84 (by kernel_rfl) ?_; intro A hA Q hQ; simp [Need.enc, *])
     | (refine WK.ret Try.func84 ?_ ?_ <;> simp (maxDischargeDepth := 120) [Try.results84, Need.enc, *])
     | fail)
theorem fether_c (t p : List (BitVec 64)) (ht : t.length ≤ 1000) (hp : p.length ≤ 1000) : FnP Try.prog 85 [.sl false t.length (u64L t), .sl false p.length (u64L p)] (needS (nEth t :: if p.length = 0 then [] else [⟨9, p.map w64⟩])) := by
  have c1 := fis_c 4 t ht
  have c2 := fis_c 9 p hp
  unfold needS
  by_cases h : p.length = 0
  · have h' : ¬ (0 : Int) < p.length := by omega
    rw [if_pos h]
    refine FnP.intro Try.func85 rfl rfl fun G w => ?_
    repeat' (first
     | refine WK.seq ?_
     | refine WK.block ?_
     | refine WK.inBlock ?_
     | refine WK.skip ?_
     | refine WK.label ?_
     | refine WK.scope ?_
     | refine WK.inScope ?_
     | refine WK.exit rfl ?_
     | refine WK.condT rfl ?_
     | refine WK.condF rfl ?_
     | (refine Hid.h hQ _ _ ?_; clear hQ hA)
     | refine WK.condAny rfl ?_ ?_
     | (refine WK.cond2 rfl (fun h => ?_) (fun h => ?_) <;> (first | (simp [*] at h; done) | (have h2 := h; simp at h2; exfalso; omega) | (have h2 := h; simp at h2; try simp only [Bool.not_eq_true', Bool.not_eq_false'] at h) | skip))
     | (refine WK.regH Try.ntmps85 (by kernel_rfl) ?_; intro A hA Q hQ; simp [needL, nEth, Need.enc, *])
     | (refine RunQ.call rfl rfl rfl rfl rfl ?_ (c1) ?_ ?_; (focus (simp (maxDischargeDepth := 120) [needL, nEth, Need.enc, *]; done)); (focus (simp [needL, nEth, Need.enc, *]; done)); refine RunQ.evalH ?_; simp [needL, nEth, Need.enc, *])
     | (refine WK.ret Try.func85 ?_ ?_ <;> simp (maxDischargeDepth := 120) [Try.results85, needL, nEth, Need.enc, *])
     | fail)
  · have h' : (0 : Int) < p.length := by omega
    have h2 : 0 < p.length := by omega
    rw [if_neg h]
    have hb : (1 + 1) * 32 ≤ 140737488355328 := by omega
    refine FnP.intro Try.func85 rfl rfl fun G w => ?_
    repeat' (first
     | refine WK.seq ?_
     | refine WK.block ?_
     | refine WK.inBlock ?_
     | refine WK.skip ?_
     | refine WK.label ?_
     | refine WK.scope ?_
     | refine WK.inScope ?_
     | refine WK.exit rfl ?_
     | refine WK.condT rfl ?_
     | refine WK.condF rfl ?_
     | (refine Hid.h hQ _ _ ?_; clear hQ hA)
     | refine WK.condAny rfl ?_ ?_
     | (refine WK.cond2 rfl (fun h => ?_) (fun h => ?_) <;> (first | (simp [*] at h; done) | (have h2 := h; simp at h2; exfalso; omega) | (have h2 := h; simp at h2; try simp only [Bool.not_eq_true', Bool.not_eq_false'] at h) | skip))
     | (refine WK.regH Try.ntmps85 (by kernel_rfl) ?_; intro A hA Q hQ; simp [Need.enc, *])
     | (refine RunQ.appendF 900 app_need rfl rfl rfl rfl rfl rfl rfl rfl ?_ ?_ ?_ ?_ ?_ ?_ ?_; (focus (first | omega | (simp [Need.enc, *]; done); done)); (focus (first | omega | (simp [Need.enc, *]; done); done)); (focus (first | omega | (simp [Need.enc, *]; done); done)); (focus (first | omega | (simp [Need.enc, *]; done); done)); (focus (first | omega | (simp [Need.enc, *]; done); done)); (focus (simp [Need.enc, *]; done)); refine RunQ.evalH ?_; simp [Need.enc, *])
     | (refine RunQ.call rfl rfl rfl rfl rfl ?_ (c1) ?_ ?_; (focus (simp (maxDischargeDepth := 120) [Need.enc, *]; done)); (focus (simp [Need.enc, *]; done)); refine RunQ.evalH ?_; simp [Need.enc, *])
     | (refine RunQ.call rfl rfl rfl rfl rfl ?_ (c2) ?_ ?_; (focus (simp (maxDischargeDepth := 120) [Need.enc, *]; done)); (focus (simp [Need.enc, *]; done)); refine RunQ.evalH ?_; simp [Need.enc, *])
     | fail)
    repeat (first | refine WK.seq ?_ | refine WK.block ?_ | refine WK.inBlock ?_ | refine WK.skip ?_ | refine WK.label ?_ | refine WK.scope ?_ | refine WK.inScope ?_ | refine WK.exit rfl ?_)
    refine WK.ghost (Ghost.frzSl 4 2 rfl rfl) ?_
    repeat' (first
     | refine WK.seq ?_
     | refine WK.block ?_
     | refine WK.inBlock ?_
     | refine WK.skip ?_
     | refine WK.label ?_
     | refine WK.scope ?_
     | refine WK.inScope ?_
     | refine WK.exit rfl ?_
     | refine WK.condT rfl ?_
     | refine WK.condF rfl ?_
     | (refine Hid.h hQ _ _ ?_; clear hQ hA)
     | refine WK.condAny rfl ?_ ?_
     | (refine WK.cond2 rfl (fun h => ?_) (fun h => ?_) <;> (first | (simp [*] at h; done) | (have h2 := h; simp at h2; exfalso; omega) | (have h2 := h; simp at h2; try simp only [Bool.not_eq_true', Bool.not_eq_false'] at h) | skip))
     | (refine WK.regH Try.ntmps85 (by kernel_rfl) ?_; intro A hA Q hQ; simp [needL, nEth, Need.enc, *])
     | (refine WK.ret Try.func85 ?_ ?_ <;> simp (maxDischargeDepth := 120) [Try.results85, needL, nEth, Need.enc, *])
     | fail)
theorem u64_one (a : BitVec 64) : u64L [a] = [.int .u64 (uI a)] := rfl
theorem u64_two (a b : BitVec 64) : u64L [a, b] = [.int .u64 (uI a), .int .u64 (uI b)] := rfl
theorem u64_nil : u64L [] = [] := rfl
theorem fneeds_c (f : Int) : FnP Try.prog 67 [.int .i64 f] (needS (needs f)) := by
  have c0 := fis_c 5 [] (by decide)
  have e1 := fether_c [0x800#64, 0x86dd#64] [] (by decide) (by decide)
  have e2 := fether_c [0x800#64] [] (by decide) (by decide)
  have e3 := fether_c [0x800#64, 0x86dd#64] [6#64] (by decide) (by decide)
  have e4 := fether_c [0x800#64, 0x86dd#64] [17#64] (by decide) (by decide)
  have e5 := fether_c [0x800#64] [1#64] (by decide) (by decide)
  have e6 := fether_c [0x806#64] [] (by decide) (by decide)
  have e7 := fether_c [0x86dd#64] [] (by decide) (by decide)
  have e8 := fether_c [0x8847#64, 0x8848#64] [] (by decide) (by decide)
  unfold needS at *
  rw [u64_nil] at c0 e1 e2 e6 e7 e8
  simp only [u64_one, u64_two, List.length_cons, List.length_nil, Nat.zero_add, Nat.reduceAdd, if_true, Nat.one_ne_zero, if_false, show uI 0x800#64 = 2048 from rfl, show uI 0x86dd#64 = 34525 from rfl, show uI 6#64 = 6 from rfl, show uI 17#64 = 17 from rfl, show uI 1#64 = 1 from rfl, show uI 0x806#64 = 2054 from rfl, show uI 0x8847#64 = 34887 from rfl, show uI 0x8848#64 = 34888 from rfl] at *
  by_cases h : f = 6 ∨ f = 7 ∨ f = 8 ∨ f = 9 ∨ f = 10 ∨ f = 11 ∨ f = 12 ∨ f = 13 ∨ f = 14 ∨ f = 15 ∨ f = 16 ∨ f = 17 ∨ f = 18 ∨ f = 19 ∨ f = 20 ∨ f = 21 ∨ f = 22 ∨ f = 23
  · rcases h with rfl | rfl | rfl | rfl | rfl | rfl | rfl | rfl | rfl | rfl | rfl | rfl | rfl | rfl | rfl | rfl | rfl | rfl
    all_goals first | rw [show needs 6 = [⟨5, []⟩] from rfl] | rw [show needs 7 = [nEth [0x800#64, 0x86dd#64]] from rfl] | rw [show needs 8 = [nEth [0x800#64, 0x86dd#64]] from rfl] | rw [show needs 9 = [nEth [0x800#64, 0x86dd#64]] from rfl] | rw [show needs 10 = [nEth [0x800#64]] from rfl] | rw [show needs 11 = [nEth [0x800#64]] from rfl] | rw [show needs 12 = [nEth [0x800#64, 0x86dd#64], ⟨9, [6#64].map w64⟩] from rfl] | rw [show needs 13 = [nEth [0x800#64, 0x86dd#64], ⟨9, [6#64].map w64⟩] from rfl] | rw [show needs 14 = [nEth [0x800#64, 0x86dd#64], ⟨9, [17#64].map w64⟩] from rfl] | rw [show needs 15 = [nEth [0x800#64, 0x86dd#64], ⟨9, [17#64].map w64⟩] from rfl] | rw [show needs 16 = [nEth [0x800#64], ⟨9, [1#64].map w64⟩] from rfl] | rw [show needs 17 = [nEth [0x800#64], ⟨9, [1#64].map w64⟩] from rfl] | rw [show needs 18 = [nEth [0x806#64]] from rfl] | rw [show needs 19 = [nEth [0x806#64]] from rfl] | rw [show needs 20 = [nEth [0x806#64]] from rfl] | rw [show needs 21 = [nEth [0x86dd#64]] from rfl] | rw [show needs 22 = [nEth [0x86dd#64]] from rfl] | rw [show needs 23 = [nEth [0x8847#64, 0x8848#64]] from rfl]
    all_goals
    · refine FnP.intro Try.func67 rfl rfl fun G w => ?_
      repeat' (first
       | refine WK.seq ?_
       | refine WK.block ?_
       | refine WK.inBlock ?_
       | refine WK.skip ?_
       | refine WK.label ?_
       | refine WK.scope ?_
       | refine WK.inScope ?_
       | refine WK.exit rfl ?_
       | refine WK.condT rfl ?_
       | refine WK.condF rfl ?_
       | (refine Hid.h hQ _ _ ?_; clear hQ hA)
       | refine WK.condAny rfl ?_ ?_
       | (refine WK.cond2 rfl (fun h => ?_) (fun h => ?_) <;> (first | (simp [*] at h; done) | (have h2 := h; simp at h2; exfalso; omega) | (have h2 := h; simp at h2; try simp only [Bool.not_eq_true', Bool.not_eq_false'] at h) | skip))
       | (refine WK.regH Try.ntmps67 (by kernel_rfl) ?_; intro A hA Q hQ; simp [needL, Need.enc, *])
       | (refine RunQ.call rfl rfl rfl rfl rfl ?_ (c0) ?_ ?_; (focus (simp (maxDischargeDepth := 120) [needL, Need.enc, *]; done)); (focus (simp [needL, Need.enc, *]; done)); refine RunQ.evalH ?_; simp [needL, Need.enc, *])
       | (refine RunQ.call rfl rfl rfl rfl rfl ?_ (e1) ?_ ?_; (focus (simp (maxDischargeDepth := 120) [needL, Need.enc, *]; done)); (focus (simp [needL, Need.enc, *]; done)); refine RunQ.evalH ?_; simp [needL, Need.enc, *])
       | (refine RunQ.call rfl rfl rfl rfl rfl ?_ (e2) ?_ ?_; (focus (simp (maxDischargeDepth := 120) [needL, Need.enc, *]; done)); (focus (simp [needL, Need.enc, *]; done)); refine RunQ.evalH ?_; simp [needL, Need.enc, *])
       | (refine RunQ.call rfl rfl rfl rfl rfl ?_ (e3) ?_ ?_; (focus (simp (maxDischargeDepth := 120) [needL, Need.enc, *]; done)); (focus (simp [needL, Need.enc, *]; done)); refine RunQ.evalH ?_; simp [needL, Need.enc, *])
       | (refine RunQ.call rfl rfl rfl rfl rfl ?_ (e4) ?_ ?_; (focus (simp (maxDischargeDepth := 120) [needL, Need.enc, *]; done)); (focus (simp [needL, Need.enc, *]; done)); refine RunQ.evalH ?_; simp [needL, Need.enc, *])
       | (refine RunQ.call rfl rfl rfl rfl rfl ?_ (e5) ?_ ?_; (focus (simp (maxDischargeDepth := 120) [needL, Need.enc, *]; done)); (focus (simp [needL, Need.enc, *]; done)); refine RunQ.evalH ?_; simp [needL, Need.enc, *])
       | (refine RunQ.call rfl rfl rfl rfl rfl ?_ (e6) ?_ ?_; (focus (simp (maxDischargeDepth := 120) [needL, Need.enc, *]; done)); (focus (simp [needL, Need.enc, *]; done)); refine RunQ.evalH ?_; simp [needL, Need.enc, *])
       | (refine RunQ.call rfl rfl rfl rfl rfl ?_ (e7) ?_ ?_; (focus (simp (maxDischargeDepth := 120) [needL, Need.enc, *]; done)); (focus (simp [needL, Need.enc, *]; done)); refine RunQ.evalH ?_; simp [needL, Need.enc, *])
       | (refine RunQ.call rfl rfl rfl rfl rfl ?_ (e8) ?_ ?_; (focus (simp (maxDischargeDepth := 120) [needL, Need.enc, *]; done)); (focus (simp [needL, Need.enc, *]; done)); refine RunQ.evalH ?_; simp [needL, Need.enc, *])
       | (refine WK.ret Try.func67 ?_ ?_ <;> simp (maxDischargeDepth := 120) [Try.results67, needL, Need.enc, *])
       | fail)
  · simp only [not_or] at h
    obtain ⟨h6, h7, h8, h9, h10, h11, h12, h13, h14, h15, h16, h17, h18, h19, h20, h21, h22, h23⟩ := h
    have e : needs f = [] := by unfold needs; rw [if_neg h6, if_neg (by omega), if_neg (by omega), if_neg (by omega), if_neg (by omega), if_neg (by omega), if_neg (by omega), if_neg (by omega), if_neg h23]
    rw [e]
    have j6 : (f == 6) = false := by simpa using h6
    have j7 : (f == 7) = false := by simpa using h7
    have j8 : (f == 8) = false := by simpa using h8
    have j9 : (f == 9) = false := by simpa using h9
    have j10 : (f == 10) = false := by simpa using h10
    have j11 : (f == 11) = false := by simpa using h11
    have j12 : (f == 12) = false := by simpa using h12
    have j13 : (f == 13) = false := by simpa using h13
    have j14 : (f == 14) = false := by simpa using h14
    have j15 : (f == 15) = false := by simpa using h15
    have j16 : (f == 16) = false := by simpa using h16
    have j17 : (f == 17) = false := by simpa using h17
    have j18 : (f == 18) = false := by simpa using h18
    have j19 : (f == 19) = false := by simpa using h19
    have j20 : (f == 20) = false := by simpa using h20
    have j21 : (f == 21) = false := by simpa using h21
    have j22 : (f == 22) = false := by simpa using h22
    have j23 : (f == 23) = false := by simpa using h23
    clear h6 h7 h8 h9 h10 h11 h12 h13 h14 h15 h16 h17 h18 h19 h20 h21 h22 h23 e
    refine FnP.intro Try.func67 rfl rfl fun G w => ?_
    repeat' (first
     | refine WK.seq ?_
     | refine WK.block ?_
     | refine WK.inBlock ?_
     | refine WK.skip ?_
     | refine WK.label ?_
     | refine WK.scope ?_
     | refine WK.inScope ?_
     | refine WK.exit rfl ?_
     | refine WK.condT rfl ?_
     | refine WK.condF rfl ?_
     | (refine Hid.h hQ _ _ ?_; clear hQ hA)
     | refine WK.condAny rfl ?_ ?_
     | (refine WK.cond2 rfl (fun h => ?_) (fun h => ?_) <;> (first | (simp [*] at h; done) | (have h2 := h; simp at h2; exfalso; omega) | (have h2 := h; simp at h2; try simp only [Bool.not_eq_true', Bool.not_eq_false'] at h) | skip))
     | (refine WK.regH Try.ntmps67 (by kernel_rfl) ?_; intro A hA Q hQ; simp [needL, Need.enc, *])
     | (refine WK.ret Try.func67 ?_ ?_ <;> simp (maxDischargeDepth := 120) [Try.results67, needL, Need.enc, *])
     | fail)
end Go.Proofs.Ytibaiiibjnnlkaa
end

section
set_option linter.unusedVariables false
set_option linter.unusedSimpArgs false
namespace Go.Proofs.Ytibaiiibjnnlkaa
open Go Go.AI Go.Proofs
attribute [local irreducible] FnP FnO FnB FnT FnSeq WK RunQ RunQW RunX RunXW

theorem windex_c (l : List Wide) (v : Wide) (hl : l.length ≤ 1000000) : FnP Try.prog 97 [wdS l, .agg v.enc] (.int .i64 (firstI (fun i => v == nth l i) l.length)) := by
  unfold wdS
  refine FnP.intro Try.func97 rfl rfl fun G w => ?_
  repeat' (first
   | refine WK.seq ?_
   | refine WK.block ?_
   | refine WK.inBlock ?_
   | refine WK.skip ?_
   | refine WK.label ?_
   | refine WK.scope ?_
   | refine WK.inScope ?_
   | refine WK.exit rfl ?_
   | refine WK.condT rfl ?_
   | refine WK.condF rfl ?_
   | (refine Hid.h hQ _ _ ?_; clear hQ hA)
   | refine WK.condAny rfl ?_ ?_
   | (refine WK.cond2 rfl (fun h => ?_) (fun h => ?_) <;> (first | (simp [*] at h; done) | (have h2 := h; simp at h2; exfalso; omega) | (have h2 := h; simp at h2; try simp only [Bool.not_eq_true', Bool.not_eq_false'] at h) | skip))
   | (refine WK.regH Try.ntmps97 (by kernel_rfl) ?_; intro A hA Q hQ; simp [*])
   | (refine WK.regX (by kernel_rfl) Try.ntmps97 (by kernel_rfl) ?_; intro A hA Q hQ; simp [*])
   | (refine Hid.h hQ _ _ _ (by decide +kernel) ?_; clear hQ hA)
   | fail)
  repeat (first | refine WK.seq ?_ | refine WK.block ?_ | refine WK.inBlock ?_ | refine WK.skip ?_ | refine WK.label ?_ | refine WK.scope ?_ | refine WK.inScope ?_ | refine WK.exit rfl ?_)
  refine WK.loopI (fun n => n) (fun i : Nat => (⟨(upd (upd (upd (upd J 0 (.sl false l.length (wdL l))) 3 (.ptr 0 0)) 7 (.int .i64 l.length)) 8 (.int .i64 i)), (upd B0 0 (.var v.enc)), 0⟩ : St)) (fun i => i ≤ l.length ∧ ∀ j, j < i → (v == nth l j) = false) (fun i => l.length - i) (0) (by repeat (first | exact TmW.nil | refine TmW.upd ?_ (by simp (maxDischargeDepth := 120)))) (by repeat (first | exact BxW.nil | refine BxW.upd ?_ (by simp (maxDischargeDepth := 120)))) (by first | exact InjW.id | exact InjW.nil | exact InjW.one | exact InjW.two (by simp) | exact InjW.three (by simp) (by simp) (by simp)) (⟨by omega, by simp⟩) (fun i hi IH => ?_)
  by_cases h1 : i < l.length
  · obtain ⟨h4, h3⟩ := wd_load l i h1
    have h6 : IntKind.i64.wrap ((i : Int) + 1) = i + 1 := wrap_i64 (by omega) (by omega)
    cases h5 : v == nth l i
    · repeat' (first
       | refine WK.seq ?_
       | refine WK.block ?_
       | refine WK.inBlock ?_
       | refine WK.skip ?_
       | refine WK.label ?_
       | refine WK.scope ?_
       | refine WK.inScope ?_
       | refine WK.exit rfl ?_
       | refine WK.condT rfl ?_
       | refine WK.condF rfl ?_
       | (refine Hid.h hQ _ _ ?_; clear hQ hA)
       | refine WK.condAny rfl ?_ ?_
       | (refine WK.cond2 rfl (fun h => ?_) (fun h => ?_) <;> (first | (simp [*] at h; done) | (have h2 := h; simp at h2; exfalso; omega) | (have h2 := h; simp at h2; try simp only [Bool.not_eq_true', Bool.not_eq_false'] at h) | skip))
       | (refine WK.regH Try.ntmps97 (by kernel_rfl) ?_; intro A hA Q hQ; simp [*])
       | (refine WK.regX (by kernel_rfl) Try.ntmps97 (by kernel_rfl) ?_; intro A hA Q hQ; simp [*])
       | (refine Hid.h hQ _ _ _ (by decide +kernel) ?_; clear hQ hA)
       | fail)
      repeat (first | refine WK.seq ?_ | refine WK.block ?_ | refine WK.inBlock ?_ | refine WK.skip ?_ | refine WK.label ?_ | refine WK.scope ?_ | refine WK.inScope ?_ | refine WK.exit rfl ?_)
      refine WK.next (fun n => n) (IH (i + 1) (⟨by omega, fun j hj => by by_cases h7 : j = i; (subst h7; exact h5); exact hi.2 j (by omega)⟩) (by first | omega | (dsimp only; omega))) (by repeat (first | exact TmW.nil | refine TmW.upd ?_ (by simp (maxDischargeDepth := 120)))) (by repeat (first | exact BxW.nil | refine BxW.upd ?_ (by simp (maxDischargeDepth := 120)))) (by first | exact InjW.id | exact InjW.nil | exact InjW.one | exact InjW.two (by simp) | exact InjW.three (by simp) (by simp) (by simp))
    · have e := firstI_some (p := fun i => v == nth l i) h1 h5 hi.2
      repeat' (first
       | refine WK.seq ?_
       | refine WK.block ?_
       | refine WK.inBlock ?_
       | refine WK.skip ?_
       | refine WK.label ?_
       | refine WK.scope ?_
       | refine WK.inScope ?_
       | refine WK.exit rfl ?_
       | refine WK.condT rfl ?_
       | refine WK.condF rfl ?_
       | (refine Hid.h hQ _ _ ?_; clear hQ hA)
       | refine WK.condAny rfl ?_ ?_
       | (refine WK.cond2 rfl (fun h => ?_) (fun h => ?_) <;> (first | (simp [*] at h; done) | (have h2 := h; simp at h2; exfalso; omega) | (have h2 := h; simp at h2; try simp only [Bool.not_eq_true', Bool.not_eq_false'] at h) | skip))
       | (refine WK.regH Try.ntmps97 (by kernel_rfl) ?_; intro A hA Q hQ; simp [*])
       | (refine WK.regX (by kernel_rfl) Try.ntmps97 (by kernel_rfl) ?_; intro A hA Q hQ; simp [*])
       | (refine Hid.h hQ _ _ _ (by decide +kernel) ?_; clear hQ hA)
       | (refine WK.ret Try.func97 ?_ ?_ <;> simp (maxDischargeDepth := 120) [Try.results97, e, *])
       | fail)
  · have e := firstI_none (p := fun i => v == nth l i) (n := l.length) (fun j hj => hi.2 j (by omega))
    repeat' (first
     | refine WK.seq ?_
     | refine WK.block ?_
     | refine WK.inBlock ?_
     | refine WK.skip ?_
     | refine WK.label ?_
     | refine WK.scope ?_
     | refine WK.inScope ?_
     | refine WK.exit rfl ?_
     | refine WK.condT rfl ?_
     | refine WK.condF rfl ?_
     | (refine Hid.h hQ _ _ ?_; clear hQ hA)
     | refine WK.condAny rfl ?_ ?_
     | (refine WK.cond2 rfl (fun h => ?_) (fun h => ?_) <;> (first | (simp [*] at h; done) | (have h2 := h; simp at h2; exfalso; omega) | (have h2 := h; simp at h2; try simp only [Bool.not_eq_true', Bool.not_eq_false'] at h) | skip))
     | (refine WK.regH Try.ntmps97 (by kernel_rfl) ?_; intro A hA Q hQ; simp [*])
     | (refine WK.regX (by kernel_rfl) Try.ntmps97 (by kernel_rfl) ?_; intro A hA Q hQ; simp [*])
     | (refine Hid.h hQ _ _ _ (by decide +kernel) ?_; clear hQ hA)
     | (refine WK.ret Try.func97 ?_ ?_ <;> simp (maxDischargeDepth := 120) [Try.results97, e, *])
     | fail)
theorem wcontains_c (l : List Wide) (v : Wide) (hl : l.length ≤ 1000000) : FnP Try.prog 86 [wdS l, .agg v.enc] (.bool (l.any fun x => v == x)) := by
  have e := firstI_ge (fun i => v == nth l i) l.length
  have e2 : (List.range l.length).any (fun i => v == nth l i) = l.any fun x => v == x := by
    rw [Bool.eq_iff_iff, List.any_eq_true, List.any_eq_true]
    constructor
    · rintro ⟨i, hi, h⟩; exact ⟨nth l i, nth_mem (by simpa using hi), h⟩
    · rintro ⟨x, hx, h⟩; obtain ⟨i, hi, rfl⟩ := mem_nth hx; exact ⟨i, by simpa using hi, h⟩
  rw [e2] at e
  refine FnP.intro Try.func86 rfl rfl fun G w => ?_
  repeat (first | refine WK.seq ?_ | refine WK.block ?_ | refine WK.inBlock ?_ | refine WK.skip ?_ | refine WK.label ?_ | refine WK.scope ?_ | refine WK.inScope ?_ | refine WK.exit rfl ?_)
  first | refine WK.reg 100 Try.ntmps86 (by kernel_rfl) ?_ | refine WK.regD 100 clsOf (by kernel_rfl) Try.ntmps86 (by kernel_rfl) (by kernel_rfl) ?_
  intro A hA Q hQ
  simp
  refine hQ _ _ ?_
  clear hQ hA
  repeat (first | refine WK.seq ?_ | refine WK.block ?_ | refine WK.inBlock ?_ | refine WK.skip ?_ | refine WK.label ?_ | refine WK.scope ?_ | refine WK.inScope ?_ | refine WK.exit rfl ?_)
  first | refine WK.reg 200 Try.ntmps86 (by kernel_rfl) ?_ | refine WK.regD 200 clsOf (by kernel_rfl) Try.ntmps86 (by kernel_rfl) (by kernel_rfl) ?_
  intro A hA Q hQ
  simp
  refine RunQ.call rfl rfl rfl rfl (by rfl) (by simp (maxDischargeDepth := 120)) (windex_c l v hl) (by simp) ?_
  refine RunQ.eval ?_
  simp
  refine hQ _ _ ?_
  clear hQ hA
  repeat (first | refine WK.seq ?_ | refine WK.block ?_ | refine WK.inBlock ?_ | refine WK.skip ?_ | refine WK.label ?_ | refine WK.scope ?_ | refine WK.inScope ?_ | refine WK.exit rfl ?_)
  refine WK.ret Try.func86 (by simp (maxDischargeDepth := 120) [Try.results86, e]) (by simp [e])
theorem gives_c (o : Oxm) (n : Need) (hn : n.values.length ≤ 1000000) : FnP Try.prog 68 [.agg o.enc, .agg n.enc] (.bool (mGives o n)) := by
  have c := wcontains_c n.values o.value hn
  have e : mGives o n = (o.field == n.field && (n.values.length == 0 || (!o.masked && n.values.any fun v => o.value == v))) := rfl
  obtain ⟨z, hz⟩ : ∃ z, (n.values.any fun v => o.value == v) = z := ⟨_, rfl⟩
  rw [hz] at c e
  unfold wdS at c
  unfold Wide.enc at c
  clear hz
  cases h1 : o.field == n.field
  · rw [h1] at e
    refine FnP.intro Try.func68 rfl rfl fun G w => ?_
    repeat' (first
     | refine WK.seq ?_
     | refine WK.block ?_
     | refine WK.inBlock ?_
     | refine WK.skip ?_
     | refine WK.label ?_
     | refine WK.scope ?_
     | refine WK.inScope ?_
     | refine WK.exit rfl ?_
     | refine WK.condT rfl ?_
     | refine WK.condF rfl ?_
     | (refine Hid.h hQ _ _ ?_; clear hQ hA)
     | refine WK.condAny rfl ?_ ?_
     | (refine WK.cond2 rfl (fun h => ?_) (fun h => ?_) <;> (first | (simp [*] at h; done) | (have h2 := h; simp at h2; exfalso; omega) | (have h2 := h; simp at h2; try simp only [Bool.not_eq_true', Bool.not_eq_false'] at h) | skip))
     | (refine Fork.mk (fun h => ?_) (fun h => ?_) <;> (first | (simp [*] at h; done) | (have h2 := h; simp at h2; exfalso; omega) | (have h2 := h; simp at h2; try simp only [Bool.not_eq_true', Bool.not_eq_false'] at h) | skip))
     | (refine WK.regH Try.ntmps68 (by kernel_rfl) ?_; intro A hA Q hQ; simp [Oxm.enc, Need.enc, *])
     | (refine RunQ.gd rfl (by rw [hA.h]; rfl) ?_; simp [Oxm.enc, Need.enc, *])
     | (refine WK.ret Try.func68 ?_ ?_ <;> simp (maxDischargeDepth := 120) [Try.results68, Oxm.enc, Need.enc, *])
     | fail)
  rw [h1] at e
  by_cases h2 : n.values.length = 0
  · rw [h2] at e
    refine FnP.intro Try.func68 rfl rfl fun G w => ?_
    repeat' (first
     | refine WK.seq ?_
     | refine WK.block ?_
     | refine WK.inBlock ?_
     | refine WK.skip ?_
     | refine WK.label ?_
     | refine WK.scope ?_
     | refine WK.inScope ?_
     | refine WK.exit rfl ?_
     | refine WK.condT rfl ?_
     | refine WK.condF rfl ?_
     | (refine Hid.h hQ _ _ ?_; clear hQ hA)
     | refine WK.condAny rfl ?_ ?_
     | (refine WK.cond2 rfl (fun h => ?_) (fun h => ?_) <;> (first | (simp [*] at h; done) | (have h2 := h; simp at h2; exfalso; omega) | (have h2 := h; simp at h2; try simp only [Bool.not_eq_true', Bool.not_eq_false'] at h) | skip))
     | (refine Fork.mk (fun h => ?_) (fun h => ?_) <;> (first | (simp [*] at h; done) | (have h2 := h; simp at h2; exfalso; omega) | (have h2 := h; simp at h2; try simp only [Bool.not_eq_true', Bool.not_eq_false'] at h) | skip))
     | (refine WK.regH Try.ntmps68 (by kernel_rfl) ?_; intro A hA Q hQ; simp [Oxm.enc, Need.enc, *])
     | (refine RunQ.gd rfl (by rw [hA.h]; rfl) ?_; simp [Oxm.enc, Need.enc, *])
     | (refine WK.ret Try.func68 ?_ ?_ <;> simp (maxDischargeDepth := 120) [Try.results68, Oxm.enc, Need.enc, *])
     | fail)
  have h3 : (n.values.length == 0) = false := by simpa using h2
  have h4 : ((n.values.length : Int) == 0) = false := by rw [beq_eq_false_iff_ne]; omega
  rw [h3] at e
  cases h5 : o.masked
  · rw [h5] at e
    refine FnP.intro Try.func68 rfl rfl fun G w => ?_
    repeat' (first
     | refine WK.seq ?_
     | refine WK.block ?_
     | refine WK.inBlock ?_
     | refine WK.skip ?_
     | refine WK.label ?_
     | refine WK.scope ?_
     | refine WK.inScope ?_
     | refine WK.exit rfl ?_
     | refine WK.condT rfl ?_
     | refine WK.condF rfl ?_
     | (refine Hid.h hQ _ _ ?_; clear hQ hA)
     | refine WK.condAny rfl ?_ ?_
     | (refine WK.cond2 rfl (fun h => ?_) (fun h => ?_) <;> (first | (simp [*] at h; done) | (have h2 := h; simp at h2; exfalso; omega) | (have h2 := h; simp at h2; try simp only [Bool.not_eq_true', Bool.not_eq_false'] at h) | skip))
     | (refine Fork.mk (fun h => ?_) (fun h => ?_) <;> (first | (simp [*] at h; done) | (have h2 := h; simp at h2; exfalso; omega) | (have h2 := h; simp at h2; try simp only [Bool.not_eq_true', Bool.not_eq_false'] at h) | skip))
     | (refine WK.regH Try.ntmps68 (by kernel_rfl) ?_; intro A hA Q hQ; simp [Oxm.enc, Need.enc, *])
     | (refine RunQ.gd rfl (by rw [hA.h]; rfl) ?_; simp [Oxm.enc, Need.enc, *])
     | (refine RunQ.call rfl rfl rfl rfl rfl ?_ (c) ?_ ?_; (focus (simp (maxDischargeDepth := 120) [Oxm.enc, Need.enc, *]; done)); (focus (simp [Oxm.enc, Need.enc, *]; done)); refine RunQ.evalH ?_; simp [Oxm.enc, Need.enc, *])
     | (refine RunQW.call rfl rfl rfl rfl ?_ (c) ?_ ?_; (focus (simp (maxDischargeDepth := 120) [Oxm.enc, Need.enc, *]; done)); (focus (simp [Oxm.enc, Need.enc, *]; done)); refine RunQ.evalH ?_; simp [Oxm.enc, Need.enc, *])
     | (refine WK.ret Try.func68 ?_ ?_ <;> simp (maxDischargeDepth := 120) [Try.results68, Oxm.enc, Need.enc, *])
     | fail)
  · rw [h5] at e
    refine FnP.intro Try.func68 rfl rfl fun G w => ?_
    repeat' (first
     | refine WK.seq ?_
     | refine WK.block ?_
     | refine WK.inBlock ?_
     | refine WK.skip ?_
     | refine WK.label ?_
     | refine WK.scope ?_
     | refine WK.inScope ?_
     | refine WK.exit rfl ?_
     | refine WK.condT rfl ?_
     | refine WK.condF rfl ?_
     | (refine Hid.h hQ _ _ ?_; clear hQ hA)
     | refine WK.condAny rfl ?_ ?_
     | (refine WK.cond2 rfl (fun h => ?_) (fun h => ?_) <;> (first | (simp [*] at h; done) | (have h2 := h; simp at h2; exfalso; omega) | (have h2 := h; simp at h2; try simp only [Bool.not_eq_true', Bool.not_eq_false'] at h) | skip))
     | (refine Fork.mk (fun h => ?_) (fun h => ?_) <;> (first | (simp [*] at h; done) | (have h2 := h; simp at h2; exfalso; omega) | (have h2 := h; simp at h2; try simp only [Bool.not_eq_true', Bool.not_eq_false'] at h) | skip))
     | (refine WK.regH Try.ntmps68 (by kernel_rfl) ?_; intro A hA Q hQ; simp [Oxm.enc, Need.enc, *])
     | (refine RunQ.gd rfl (by rw [hA.h]; rfl) ?_; simp [Oxm.enc, Need.enc, *])
     | (refine WK.ret Try.func68 ?_ ?_ <;> simp (maxDischargeDepth := 120) [Try.results68, Oxm.enc, Need.enc, *])
     | fail)
theorem met_c (l : List Oxm) (f : Int) (hl : l.length ≤ 1000000) : FnP Try.prog 52 [oxmS l, .int .i64 f] (.bool (mMet l f)) := by
  have cn := fneeds_c f
  have hsm := needs_small f
  have hF : ∀ i, i < (needs f).length → (l.any fun o => mGives o (nth (needs f) i)) = false → mMet l f = false := fun i h hp => mMet_false h hp
  have hT : (∀ j, j < (needs f).length → (l.any fun o => mGives o (nth (needs f) j)) = true) → mMet l f = true := mMet_true
  obtain ⟨N, hN⟩ : ∃ N, needs f = N := ⟨_, rfl⟩
  rw [hN] at cn hsm hF hT
  unfold needS at cn
  clear hN
  unfold oxmS
  refine FnP.intro Try.func52 rfl rfl fun G w => ?_
  repeat' (first
   | refine WK.seq ?_
   | refine WK.block ?_
   | refine WK.inBlock ?_
   | refine WK.skip ?_
   | refine WK.label ?_
   | refine WK.scope ?_
   | refine WK.inScope ?_
   | refine WK.exit rfl ?_
   | refine WK.condT rfl ?_
   | refine WK.condF rfl ?_
   | (refine Hid.h hQ _ _ ?_; clear hQ hA)
   | refine WK.condAny rfl ?_ ?_
   | (refine WK.cond2 rfl (fun h => ?_) (fun h => ?_) <;> (first | (simp [*] at h; done) | (have h2 := h; simp at h2; exfalso; omega) | (have h2 := h; simp at h2; try simp only [Bool.not_eq_true', Bool.not_eq_false'] at h) | skip))
   | (refine WK.regH Try.ntmps52 (by kernel_rfl) ?_; intro A hA Q hQ; simp [*])
   | (refine RunQ.call rfl rfl rfl rfl rfl ?_ (cn) ?_ ?_; (focus (simp (maxDischargeDepth := 120) [*]; done)); (focus (simp [*]; done)); refine RunQ.evalH ?_; simp [*])
   | fail)
  repeat (first | refine WK.seq ?_ | refine WK.block ?_ | refine WK.inBlock ?_ | refine WK.skip ?_ | refine WK.label ?_ | refine WK.scope ?_ | refine WK.inScope ?_ | refine WK.exit rfl ?_)
  refine WK.loopI (fun n => n) (fun i : Nat => (⟨(upd (upd (upd (upd J 0 (.sl false l.length (oxmL l))) 10 (.sl false N.length (needL N))) 11 (.int .i64 N.length)) 12 (.int .i64 i)), B0, 0⟩ : St)) (fun i => i ≤ N.length ∧ ∀ j, j < i → (l.any fun o => mGives o (nth N j)) = true) (fun i => N.length - i) (0) (by repeat (first | exact TmW.nil | refine TmW.upd ?_ (by simp (maxDischargeDepth := 120)))) (by repeat (first | exact BxW.nil | refine BxW.upd ?_ (by simp (maxDischargeDepth := 120)))) (by first | exact InjW.id | exact InjW.nil | exact InjW.one | exact InjW.two (by simp) | exact InjW.three (by simp) (by simp) (by simp)) (⟨by omega, by simp⟩) (fun i hi IH => ?_)
  by_cases h1 : i < N.length
  · obtain ⟨h4, h3⟩ := need_load N i h1
    have h6 : IntKind.i64.wrap ((i : Int) + 1) = i + 1 := wrap_i64 (by omega) (by omega)
    have hv := hsm.2 _ (nth_mem h1)
    have hFi := hF i h1
    have hst : (l.any fun o => mGives o (nth N i)) = true → ∀ j, j < i + 1 → (l.any fun o => mGives o (nth N j)) = true := fun h j hj => by
      by_cases h7 : j = i
      · subst h7; exact h
      · exact hi.2 j (by omega)
    obtain ⟨n, hn⟩ : ∃ n, nth N i = n := ⟨_, rfl⟩
    rw [hn] at h4 hv hFi hst
    repeat' (first
     | refine WK.seq ?_
     | refine WK.block ?_
     | refine WK.inBlock ?_
     | refine WK.skip ?_
     | refine WK.label ?_
     | refine WK.scope ?_
     | refine WK.inScope ?_
     | refine WK.exit rfl ?_
     | refine WK.condT rfl ?_
     | refine WK.condF rfl ?_
     | (refine Hid.h hQ _ _ ?_; clear hQ hA)
     | refine WK.condAny rfl ?_ ?_
     | (refine WK.cond2 rfl (fun h => ?_) (fun h => ?_) <;> (first | (simp [*] at h; done) | (have h2 := h; simp at h2; exfalso; omega) | (have h2 := h; simp at h2; try simp only [Bool.not_eq_true', Bool.not_eq_false'] at h) | skip))
     | (refine WK.regH Try.ntmps52 (by kernel_rfl) ?_; intro A hA Q hQ; simp [*])
     | fail)
    repeat (first | refine WK.seq ?_ | refine WK.block ?_ | refine WK.inBlock ?_ | refine WK.skip ?_ | refine WK.label ?_ | refine WK.scope ?_ | refine WK.inScope ?_ | refine WK.exit rfl ?_)
    refine WK.loopI (fun n => if n = 0 then 102 else n) (fun j : Nat => (⟨(upd (upd (upd (upd (upd (upd (upd (upd J 0 (.sl false l.length (oxmL l))) 6 (.ptr 0 0)) 10 (.sl false N.length (needL N))) 11 (.int .i64 N.length)) 12 (.int .i64 i)) 16 (.sl false l.length (oxmL l))) 17 (.int .i64 l.length)) 18 (.int .i64 j)), (upd B0 0 (.var n.enc)), 0⟩ : St)) (fun j => j ≤ l.length ∧ ∀ k, k < j → mGives (nth l k) n = false) (fun j => l.length - j) (0) (by repeat (first | exact TmW.nil | refine TmW.upd ?_ (by simp (maxDischargeDepth := 120)))) (by repeat (first | exact BxW.nil | refine BxW.upd ?_ (by simp (maxDischargeDepth := 120)))) (by first | exact InjW.id | exact InjW.nil | exact InjW.one | exact InjW.two (by simp) | exact InjW.three (by simp) (by simp) (by simp)) (⟨by omega, by simp⟩) (fun j hj IHj => ?_)
    by_cases g1 : j < l.length
    · have g4 := oxm_sub l j g1
      have g3 : 6 ≤ l.length * 6 - j * 6 := by omega
      have g6 : IntKind.i64.wrap ((j : Int) + 1) = j + 1 := wrap_i64 (by omega) (by omega)
      have gc := gives_c (nth l j) n (by omega)
      cases g5 : mGives (nth l j) n
      · rw [g5] at gc
        repeat' (first
         | refine WK.seq ?_
         | refine WK.block ?_
         | refine WK.inBlock ?_
         | refine WK.skip ?_
         | refine WK.label ?_
         | refine WK.scope ?_
         | refine WK.inScope ?_
         | refine WK.exit rfl ?_
         | refine WK.condT rfl ?_
         | refine WK.condF rfl ?_
         | (refine Hid.h hQ _ _ ?_; clear hQ hA)
         | refine WK.condAny rfl ?_ ?_
         | (refine WK.cond2 rfl (fun h => ?_) (fun h => ?_) <;> (first | (simp [*] at h; done) | (have h2 := h; simp at h2; exfalso; omega) | (have h2 := h; simp at h2; try simp only [Bool.not_eq_true', Bool.not_eq_false'] at h) | skip))
         | (refine WK.regH Try.ntmps52 (by kernel_rfl) ?_; intro A hA Q hQ; simp [*])
         | (refine RunQ.call rfl rfl rfl rfl rfl ?_ (gc) ?_ ?_; (focus (simp (maxDischargeDepth := 120) [*]; done)); (focus (simp [*]; done)); refine RunQ.evalH ?_; simp [*])
         | fail)
        repeat (first | refine WK.seq ?_ | refine WK.block ?_ | refine WK.inBlock ?_ | refine WK.skip ?_ | refine WK.label ?_ | refine WK.scope ?_ | refine WK.inScope ?_ | refine WK.exit rfl ?_)
        refine WK.next (fun n => n) (IHj (j + 1) (⟨by omega, fun k hk => by by_cases h7 : k = j; (subst h7; exact g5); exact hj.2 k (by omega)⟩) (by first | omega | (dsimp only; omega))) (by repeat (first | exact TmW.nil | refine TmW.upd ?_ (by simp (maxDischargeDepth := 120)))) (by repeat (first | exact BxW.nil | refine BxW.upd ?_ (by simp (maxDischargeDepth := 120)))) (by first | exact InjW.id | exact InjW.nil | exact InjW.one | exact InjW.two (by simp) | exact InjW.three (by simp) (by simp) (by simp))
      · rw [g5] at gc
        have hst2 := hst (any_true' (p := fun o => mGives o n) g1 g5)
        clear hst
        repeat' (first
         | refine WK.seq ?_
         | refine WK.block ?_
         | refine WK.inBlock ?_
         | refine WK.skip ?_
         | refine WK.label ?_
         | refine WK.scope ?_
         | refine WK.inScope ?_
         | refine WK.exit rfl ?_
         | refine WK.condT rfl ?_
         | refine WK.condF rfl ?_
         | (refine Hid.h hQ _ _ ?_; clear hQ hA)
         | refine WK.condAny rfl ?_ ?_
         | (refine WK.cond2 rfl (fun h => ?_) (fun h => ?_) <;> (first | (simp [*] at h; done) | (have h2 := h; simp at h2; exfalso; omega) | (have h2 := h; simp at h2; try simp only [Bool.not_eq_true', Bool.not_eq_false'] at h) | skip))
         | (refine WK.regH Try.ntmps52 (by kernel_rfl) ?_; intro A hA Q hQ; simp [*])
         | (refine RunQ.call rfl rfl rfl rfl rfl ?_ (gc) ?_ ?_; (focus (simp (maxDischargeDepth := 120) [*]; done)); (focus (simp [*]; done)); refine RunQ.evalH ?_; simp [*])
         | fail)
        repeat (first | refine WK.seq ?_ | refine WK.block ?_ | refine WK.inBlock ?_ | refine WK.skip ?_ | refine WK.label ?_ | refine WK.scope ?_ | refine WK.inScope ?_ | refine WK.exit rfl ?_)
        refine WK.next (fun n => n) (IH (i + 1) (⟨by omega, hst2⟩) (by first | omega | (dsimp only; omega))) (by repeat (first | exact TmW.nil | refine TmW.upd ?_ (by simp (maxDischargeDepth := 120)))) (by repeat (first | exact BxW.nil | refine BxW.upd ?_ (by simp (maxDischargeDepth := 120)))) (by first | exact InjW.id | exact InjW.nil | exact InjW.one | exact InjW.two (by simp) | exact InjW.three (by simp) (by simp) (by simp))
    · have e := hFi (any_false' (p := fun o => mGives o n) fun k hk => hj.2 k (by omega))
      repeat' (first
       | refine WK.seq ?_
       | refine WK.block ?_
       | refine WK.inBlock ?_
       | refine WK.skip ?_
       | refine WK.label ?_
       | refine WK.scope ?_
       | refine WK.inScope ?_
       | refine WK.exit rfl ?_
       | refine WK.condT rfl ?_
       | refine WK.condF rfl ?_
       | (refine Hid.h hQ _ _ ?_; clear hQ hA)
       | refine WK.condAny rfl ?_ ?_
       | (refine WK.cond2 rfl (fun h => ?_) (fun h => ?_) <;> (first | (simp [*] at h; done) | (have h2 := h; simp at h2; exfalso; omega) | (have h2 := h; simp at h2; try simp only [Bool.not_eq_true', Bool.not_eq_false'] at h) | skip))
       | (refine WK.regH Try.ntmps52 (by kernel_rfl) ?_; intro A hA Q hQ; simp [*])
       | (refine WK.ret Try.func52 ?_ ?_ <;> simp (maxDischargeDepth := 120) [Try.results52, *])
       | fail)
  · have e := hT fun j hj => hi.2 j (by omega)
    repeat' (first
     | refine WK.seq ?_
     | refine WK.block ?_
     | refine WK.inBlock ?_
     | refine WK.skip ?_
     | refine WK.label ?_
     | refine WK.scope ?_
     | refine WK.inScope ?_
     | refine WK.exit rfl ?_
     | refine WK.condT rfl ?_
     | refine WK.condF rfl ?_
     | (refine Hid.h hQ _ _ ?_; clear hQ hA)
     | refine WK.condAny rfl ?_ ?_
     | (refine WK.cond2 rfl (fun h => ?_) (fun h => ?_) <;> (first | (simp [*] at h; done) | (have h2 := h; simp at h2; exfalso; omega) | (have h2 := h; simp at h2; try simp only [Bool.not_eq_true', Bool.not_eq_false'] at h) | skip))
     | (refine WK.regH Try.ntmps52 (by kernel_rfl) ?_; intro A hA Q hQ; simp [*])
     | (refine WK.ret Try.func52 ?_ ?_ <;> simp (maxDischargeDepth := 120) [Try.results52, *])
     | fail)
theorem check1_c (a b : Oxm) : FnP Try.prog 54 [.agg a.enc, .iptr b.enc] (.bool (a.field == b.field)) := by
  refine FnP.intro Try.func54 rfl rfl fun G w => ?_
  repeat' (first
   | refine WK.seq ?_
   | refine WK.block ?_
   | refine WK.inBlock ?_
   | refine WK.skip ?_
   | refine WK.label ?_
   | refine WK.scope ?_
   | refine WK.inScope ?_
   | refine WK.exit rfl ?_
   | refine WK.condT rfl ?_
   | refine WK.condF rfl ?_
   | (refine Hid.h hQ _ _ ?_; clear hQ hA)
   | refine WK.condAny rfl ?_ ?_
   | (refine WK.cond2 rfl (fun h => ?_) (fun h => ?_) <;> (first | (simp [*] at h; done) | (have h2 := h; simp at h2; exfalso; omega) | (have h2 := h; simp at h2; try simp only [Bool.not_eq_true', Bool.not_eq_false'] at h) | skip))
   | (refine WK.regH Try.ntmps54 (by kernel_rfl) ?_; intro A hA Q hQ; simp [Oxm.enc, *])
   | (refine WK.ret Try.func54 ?_ ?_ <;> simp (maxDischargeDepth := 120) [Try.results54, Oxm.enc, *])
   | fail)
theorem mbad_c (n : Int) : FnP Try.prog 43 [.int .i64 n] (.agg (gFault (some (4, n)))) := by
  refine FnP.intro Try.func43 rfl rfl fun G w => ?_
  repeat' (first
   | refine WK.seq ?_
   | refine WK.block ?_
   | refine WK.inBlock ?_
   | refine WK.skip ?_
   | refine WK.label ?_
   | refine WK.scope ?_
   | refine WK.inScope ?_
   | refine WK.exit rfl ?_
   | refine WK.condT rfl ?_
   | refine WK.condF rfl ?_
   | (refine Hid.h hQ _ _ ?_; clear hQ hA)
   | refine WK.condAny rfl ?_ ?_
   | (refine WK.cond2 rfl (fun h => ?_) (fun h => ?_) <;> (first | (simp [*] at h; done) | (have h2 := h; simp at h2; exfalso; omega) | (have h2 := h; simp at h2; try simp only [Bool.not_eq_true', Bool.not_eq_false'] at h) | skip))
   | (refine WK.regH Try.ntmps43 (by kernel_rfl) ?_; intro A hA Q hQ; simp [*])
   | (refine WK.ret Try.func43 ?_ ?_ <;> simp (maxDischargeDepth := 120) [Try.results43, gFault, *])
   | fail)
def mF (c : Option Int) : List AV := gFault (c.map fun c => (4, c))
@[simp] theorem mF_cl (c : Option Int) : ClL (mF c) = true := by cases c <;> rfl
theorem oxm_part (l : List Oxm) (i : Nat) (h : i ≤ l.length) : (oxmL l).take (i * 6) = oxmL (l.take i) ∧ (l.take i).length = i := ⟨fm_take Oxm.len l i, by rw [List.length_take]; omega⟩
end Go.Proofs.Ytibaiiibjnnlkaa
end
