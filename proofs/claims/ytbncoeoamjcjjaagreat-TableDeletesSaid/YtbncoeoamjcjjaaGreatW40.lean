/- Tables that may be: what is done keeps them so. -/
import Derived.Test.YtbncoeoamjcjjaaGreatW39
set_option linter.all false
set_option linter.unnecessarySimpa false
set_option linter.unusedVariables false
set_option linter.unusedSimpArgs false
namespace Go.Proofs.YtbncoeoamjcjjaaGreat
open Go Go.AI Go.Proofs

def Fine (l : List Flow) : Prop := l.Pairwise fun a b => badPair b a = false
theorem fine_iff {l : List Flow} : Fine l ↔ ∀ i j, j < i → i < l.length → badPair (nth l i) (nth l j) = false := by
  unfold Fine
  rw [List.pairwise_iff_getElem]
  constructor
  · intro h i j hji hi
    have := h j i (by omega) hi hji
    rwa [← nth_eq hi, ← nth_eq (show j < l.length by omega)] at this
  · intro h i j hi hj hij
    have := h j i hij hj
    rwa [nth_eq hj, nth_eq hi] at this
theorem right_iff {l : List Flow} : tRight l = true ↔ l.length ≤ 8 ∧ Fine l := by
  unfold tRight rightRows rightRow
  rw [Bool.and_eq_true, decide_eq_true_eq, fine_iff, List.all_eq_true]
  constructor
  · rintro ⟨h1, h2⟩
    refine ⟨h1, fun i j hji hi => ?_⟩
    have := List.all_eq_true.1 (h2 i (List.mem_range.2 hi)) j (List.mem_range.2 hji)
    simpa using this
  · rintro ⟨h1, h2⟩
    refine ⟨h1, fun i hi => List.all_eq_true.2 fun j hj => ?_⟩
    rw [h2 i j (List.mem_range.1 hj) (List.mem_range.1 hi)]; rfl
theorem bad_iff {f g : Flow} : badPair f g = false ↔ Flow.alike f g = false ∧ (strictB f.flags = true → Flow.overlap f g = false) := by
  unfold badPair
  cases Flow.alike f g <;> cases strictB f.flags <;> simp
theorem alike_iff {a b : Flow} : Flow.alike a b = true ↔ a.prio = b.prio ∧ ∀ i, i < 24 → Flow.cube a i = Flow.cube b i := by
  unfold Flow.alike; rw [Bool.and_eq_true, beq_iff_eq, cubeEq_iff]
theorem alike_left {a a' : Flow} (h : Flow.alike a a' = true) (b : Flow) : Flow.alike a b = Flow.alike a' b := by
  obtain ⟨h1, h2⟩ := alike_iff.1 h
  rw [Bool.eq_iff_iff, alike_iff, alike_iff, h1]
  constructor
  · rintro ⟨h3, h4⟩; exact ⟨h3, fun i hi => by rw [← h2 i hi]; exact h4 i hi⟩
  · rintro ⟨h3, h4⟩; exact ⟨h3, fun i hi => by rw [h2 i hi]; exact h4 i hi⟩
theorem overlap_left {a a' : Flow} (h : Flow.alike a a' = true) (b : Flow) : Flow.overlap a b = Flow.overlap a' b := by
  obtain ⟨h1, h2⟩ := alike_iff.1 h
  unfold Flow.overlap cubeMeetOk
  rw [h1]
  congr 1
  rw [Bool.eq_iff_iff, List.all_eq_true, List.all_eq_true]
  constructor
  · intro h3 i hi; rw [← h2 i (List.mem_range.1 hi)]; exact h3 i hi
  · intro h3 i hi; rw [h2 i (List.mem_range.1 hi)]; exact h3 i hi
theorem alike_right {a a' : Flow} (h : Flow.alike a a' = true) (b : Flow) : Flow.alike b a = Flow.alike b a' := by
  rw [alike_comm a b, alike_comm a' b]; exact alike_left h b
theorem overlap_right {a a' : Flow} (h : Flow.alike a a' = true) (b : Flow) : Flow.overlap b a = Flow.overlap b a' := by
  rw [overlap_comm a b, overlap_comm a' b]; exact overlap_left h b
theorem alike_self (a : Flow) : Flow.alike a a = true := alike_iff.2 ⟨rfl, fun _ _ => rfl⟩
theorem nth_set {α : Type} [Inhabited α] {l : List α} {p i : Nat} {x : α} (h : p < l.length) : nth (l.set p x) i = if i = p then x else nth l i := by
  unfold nth
  rw [List.getD_eq_getElem?_getD, List.getElem?_set]
  by_cases e : p = i
  · subst e; simp [h]
  · have e2 : ¬ i = p := fun h => e h.symm
    simp [e, e2]
theorem nth_snoc {α : Type} [Inhabited α] {l : List α} {i : Nat} {x : α} (h : i < l.length + 1) : nth (l ++ [x]) i = if i = l.length then x else nth l i := by
  unfold nth
  rw [List.getD_eq_getElem?_getD]
  by_cases e : i = l.length
  · subst e; simp
  · rw [List.getElem?_append_left (by omega), if_neg e, List.getD_eq_getElem?_getD]
/-- what an addition makes -/
theorem tAdd_cases (l : List Flow) (m : FlowMod) (hc : (m.command == 0) = true) :
    (tAdd l m = ([], ⟨true, 5, 3⟩)) ∨ (8 ≤ l.length ∧ tAdd l m = ([], ⟨true, 5, 1⟩)) ∨
    ((strictB m.flags = true → ∀ f, f ∈ l → Flow.overlap f (FlowMod.flow m) = false) ∧
      ((∃ p, p < l.length ∧ Flow.alike (nth l p) (FlowMod.flow m) = true ∧ tAdd l m = (l.set p (FlowMod.flow m), F3.zero)) ∨
       (l.length < 8 ∧ (∀ f, f ∈ l → Flow.alike f (FlowMod.flow m) = false) ∧ tAdd l m = (l ++ [FlowMod.flow m], F3.zero)))) := by
  have htk : ∀ f, FlowMod.takes m f = Flow.alike f (FlowMod.flow m) := fun f => by unfold FlowMod.takes; rw [if_pos hc]
  unfold tAdd
  by_cases k : (strictB m.flags && l.any (fun f => Flow.overlap f (FlowMod.flow m))) = true
  · left; rw [if_pos k]
  · rw [if_neg k]
    have k' : strictB m.flags = true → ∀ f, f ∈ l → Flow.overlap f (FlowMod.flow m) = false := by
      intro h f hf
      rw [Bool.and_eq_true] at k
      cases ho : Flow.overlap f (FlowMod.flow m)
      · rfl
      · exact absurd ⟨h, List.any_eq_true.2 ⟨f, hf, ho⟩⟩ k
    cases hL : took m l with
    | nil =>
      by_cases h8 : 8 ≤ l.length
      · right; left; exact ⟨h8, by simp [h8]⟩
      · right; right
        refine ⟨k', .inr ⟨by omega, fun f hf => ?_, by simp [h8]⟩⟩
        obtain ⟨i, hi, rfl⟩ := mem_nth hf
        rw [← htk]
        cases ht : FlowMod.takes m (nth l i)
        · rfl
        · have := (took_mem hi).2 ht; rw [hL] at this; cases this
    | cons x xs =>
      right; right
      obtain ⟨p, rfl, hp⟩ := took_pos (show x ∈ took m l by rw [hL]; simp)
      refine ⟨k', .inl ⟨p, hp, ?_, rfl⟩⟩
      rw [← htk]
      exact (took_mem hp).1 (by rw [hL]; simp)
theorem fine_set {l : List Flow} {g : Flow} {p : Nat} (hf : Fine l) (hp : p < l.length) (ha : Flow.alike (nth l p) g = true) (ho : strictB g.flags = true → ∀ f, f ∈ l → Flow.overlap f g = false) : Fine (l.set p g) := by
  rw [fine_iff] at hf ⊢
  intro i j hji hi
  rw [List.length_set] at hi
  rw [nth_set hp, nth_set hp]
  have hag : Flow.alike g (nth l p) = true := by rw [alike_comm]; exact ha
  by_cases e1 : i = p
  · have e2 : ¬ j = p := by omega
    rw [if_pos e1, if_neg e2, bad_iff]
    have h1 := (bad_iff.1 (hf i j hji hi)).1
    rw [e1] at h1
    refine ⟨by rw [alike_left hag]; exact h1, fun hs => ?_⟩
    rw [overlap_comm]; exact ho hs _ (nth_mem (by omega))
  · rw [if_neg e1]
    by_cases e2 : j = p
    · rw [if_pos e2, bad_iff]
      have h1 := bad_iff.1 (hf i j hji hi)
      rw [e2] at h1
      exact ⟨by rw [alike_right hag]; exact h1.1, fun hs => by rw [overlap_right hag]; exact h1.2 hs⟩
    · rw [if_neg e2]; exact hf i j hji hi
theorem fine_snoc {l : List Flow} {g : Flow} (hf : Fine l) (ha : ∀ f, f ∈ l → Flow.alike f g = false) (ho : strictB g.flags = true → ∀ f, f ∈ l → Flow.overlap f g = false) : Fine (l ++ [g]) := by
  unfold Fine
  rw [List.pairwise_append]
  refine ⟨hf, List.pairwise_singleton _ _, fun a ha' b hb => ?_⟩
  rw [List.mem_singleton.1 hb, bad_iff]
  exact ⟨by rw [alike_comm]; exact ha a ha', fun hs => by rw [overlap_comm]; exact ho hs a ha'⟩
theorem fine_mod {l : List Flow} {m : FlowMod} (hf : Fine l) : Fine (tMod l m) := by
  unfold Fine tMod
  rw [List.pairwise_map]
  refine hf.imp fun {a b} h => ?_
  have e : ∀ f g, badPair (withInsts m f) g = badPair f g := fun f g => rfl
  have e2 : ∀ f g, badPair f (withInsts m g) = badPair f g := fun f g => rfl
  split <;> split <;> simp [e, e2, h]
theorem fine_drop {l : List Flow} {m : FlowMod} (hf : Fine l) : Fine (tDrop l m) := hf.sublist List.filter_sublist
theorem tDo_right {l : List Flow} {m : FlowMod} (h : tRight l = true) (hi : (tDo l m).2.is = false) : tRight (tDo l m).1 = true := by
  obtain ⟨h8, hf⟩ := right_iff.1 h
  rw [right_iff]
  unfold tDo at hi ⊢
  by_cases c0 : (m.command == 0) = true
  · rw [if_pos c0] at hi ⊢
    rcases tAdd_cases l m c0 with e | ⟨_, e⟩ | ⟨ho, ⟨p, hp, ha, e⟩ | ⟨hl, ha, e⟩⟩
    · rw [e] at hi; cases hi
    · rw [e] at hi; cases hi
    · rw [e]; exact ⟨by simp; exact h8, fine_set hf hp ha ho⟩
    · rw [e]; exact ⟨by simp; omega, fine_snoc hf ha ho⟩
  · rw [if_neg c0] at hi ⊢
    by_cases c1 : (m.command == 1 || m.command == 2) = true
    · rw [if_pos c1]; exact ⟨by show (tMod l m).length ≤ 8; rw [tMod_len]; exact h8, fine_mod hf⟩
    · rw [if_neg c1] at hi ⊢
      by_cases c3 : (m.command == 3 || m.command == 4) = true
      · rw [if_pos c3]
        refine ⟨?_, fine_drop hf⟩
        have := List.length_filter_le (fun f => !FlowMod.takes m f) l
        show (tDrop l m).length ≤ 8
        unfold tDrop; omega
      · rw [if_neg c3] at hi; cases hi
theorem tDo_fault {l : List Flow} {m : FlowMod} (hi : (tDo l m).2.is = true) : (tDo l m).1 = [] ∧ ¬ (0 < m.command ∧ m.command ≤ 4) := by
  unfold tDo at hi ⊢
  by_cases c0 : (m.command == 0) = true
  · rw [if_pos c0] at hi ⊢
    have c0' : m.command = 0 := by simpa using c0
    refine ⟨?_, by omega⟩
    rcases tAdd_cases l m c0 with e | ⟨_, e⟩ | ⟨ho, ⟨p, hp, ha, e⟩ | ⟨hl, ha, e⟩⟩
    · rw [e]
    · rw [e]
    · rw [e] at hi; cases hi
    · rw [e] at hi; cases hi
  · rw [if_neg c0] at hi ⊢
    by_cases c1 : (m.command == 1 || m.command == 2) = true
    · rw [if_pos c1] at hi; cases hi
    · rw [if_neg c1] at hi ⊢
      by_cases c3 : (m.command == 3 || m.command == 4) = true
      · rw [if_pos c3] at hi; cases hi
      · rw [if_neg c3]
        refine ⟨rfl, ?_⟩
        simp at c0 c1 c3
        omega
end Go.Proofs.YtbncoeoamjcjjaaGreat
