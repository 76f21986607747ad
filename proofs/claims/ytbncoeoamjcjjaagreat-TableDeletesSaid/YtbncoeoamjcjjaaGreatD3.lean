/- What holds of terns and cubes, by their bits. -/
import Derived.Test.YtbncoeoamjcjjaaGreatDa
set_option linter.all false
set_option linter.unnecessarySimpa false
set_option linter.unusedVariables false
set_option linter.unusedSimpArgs false
namespace Go.AI
theorem bz {n : Nat} (x : BitVec n) : x = 0#n ↔ ∀ i, x.getLsbD i = false :=
  ⟨fun h i => by subst h; simp, fun h => BitVec.eq_of_getLsbD_eq fun i hi => by rw [h i]; simp⟩
theorem b_unlike {n : Nat} (x y m : BitVec n) : (x ^^^ y) &&& m = 0#n ↔ ∀ i, m.getLsbD i = true → x.getLsbD i = y.getLsbD i := by
  rw [bz]
  simp only [BitVec.getLsbD_and, BitVec.getLsbD_xor]
  exact forall_congr' fun i => by cases x.getLsbD i <;> cases y.getLsbD i <;> cases m.getLsbD i <;> simp
theorem b_less {n : Nat} (a b : BitVec n) : a &&& ~~~b = 0#n ↔ ∀ i, a.getLsbD i = true → b.getLsbD i = true := by
  rw [bz]
  simp only [BitVec.getLsbD_and, BitVec.getLsbD_not]
  refine forall_congr' fun i => ?_
  cases ha : a.getLsbD i
  · simp
  · have := BitVec.lt_of_getLsbD ha
    simp [this]
theorem Wide.zero_iff (a : Wide) : a.zero = true ↔ a.hi = 0#64 ∧ a.lo = 0#64 := by rw [Wide.zero_eq]; simp
/-- the bits of a wide number, the high ones behind -/
def Wide.bit (w : Wide) (b : Bool) (i : Nat) : Bool := if b then w.hi.getLsbD i else w.lo.getLsbD i
theorem Wide.unlike_iff (x y m : Wide) : ((x.xor y).and m).zero = true ↔ ∀ b i, m.bit b i = true → x.bit b i = y.bit b i := by
  rw [Wide.zero_iff]
  unfold Wide.and Wide.xor Wide.bit
  simp only [b_unlike, Bool.forall_bool]
  exact And.comm
theorem Wide.less_iff (x y : Wide) : (x.less y).zero = true ↔ ∀ b i, x.bit b i = true → y.bit b i = true := by
  rw [Wide.zero_iff]
  unfold Wide.less Wide.bit
  simp only [b_less, Bool.forall_bool]
  exact And.comm
theorem Wide.bit_and (x y : Wide) (b : Bool) (i : Nat) : (x.and y).bit b i = (x.bit b i && y.bit b i) := by cases b <;> simp [Wide.and, Wide.bit]
theorem Wide.bit_or (x y : Wide) (b : Bool) (i : Nat) : (x.or y).bit b i = (x.bit b i || y.bit b i) := by cases b <;> simp [Wide.or, Wide.bit]
theorem Tern.has_iff (t : Tern) (v : Wide) : t.has v = true ↔ ∀ b i, t.mask.bit b i = true → t.value.bit b i = v.bit b i := Wide.unlike_iff _ _ _
theorem Tern.meetOk_iff (s t : Tern) : s.meetOk t = true ↔ ∀ b i, s.mask.bit b i = true → t.mask.bit b i = true → s.value.bit b i = t.value.bit b i := by
  unfold Tern.meetOk
  rw [Wide.unlike_iff]
  exact forall_congr' fun b => forall_congr' fun i => by rw [Wide.bit_and]; simp
theorem Tern.within_iff (s t : Tern) : s.within t = true ↔ (∀ b i, t.mask.bit b i = true → s.mask.bit b i = true) ∧ ∀ b i, t.mask.bit b i = true → t.value.bit b i = s.value.bit b i := by
  unfold Tern.within
  rw [Bool.and_eq_true, Wide.less_iff, Tern.has_iff]
theorem Tern.meet_of_has {s t : Tern} {v : Wide} (h : s.has v = true) (h' : t.has v = true) : s.meetOk t = true := by
  rw [Tern.has_iff] at h h'
  exact (Tern.meetOk_iff _ _).2 fun b i h1 h2 => (h b i h1).trans (h' b i h2).symm
theorem Tern.meetOk_comm (s t : Tern) : s.meetOk t = t.meetOk s := by
  rw [Bool.eq_iff_iff, Tern.meetOk_iff, Tern.meetOk_iff]
  exact ⟨fun h b i h1 h2 => (h b i h2 h1).symm, fun h b i h1 h2 => (h b i h2 h1).symm⟩
theorem Tern.meetOk_self (s : Tern) : s.meetOk s = true := (Tern.meetOk_iff _ _).2 fun _ _ _ _ => rfl
theorem Tern.within_self (s : Tern) : s.within s = true := (Tern.within_iff _ _).2 ⟨fun _ _ h => h, fun _ _ _ => rfl⟩
theorem Tern.has_within {s t : Tern} {v : Wide} (h : s.within t = true) (h' : s.has v = true) : t.has v = true := by
  rw [Tern.has_iff] at h' ⊢
  obtain ⟨h1, h2⟩ := (Tern.within_iff _ _).1 h
  exact fun b i hb => (h2 b i hb).trans (h' b i (h1 b i hb))
theorem all_iff {n : Nat} {p : Nat → Bool} : (List.range n).all p = true ↔ ∀ i, i < n → p i = true := by rw [List.all_eq_true]; simp
theorem cubeMeet_of_has {a b : Cube} {h : Header} (h1 : cubeHas a h = true) (h2 : cubeHas b h = true) : cubeMeetOk a b = true := by
  unfold cubeHas cubeMeetOk at *
  rw [all_iff] at *
  exact fun i hi => Tern.meet_of_has (h1 i hi) (h2 i hi)
theorem cubeMeetOk_comm (a b : Cube) : cubeMeetOk a b = cubeMeetOk b a := by
  unfold cubeMeetOk
  congr 1
  funext i
  exact Tern.meetOk_comm _ _
theorem cubeEq_iff {a b : Cube} : cubeEq a b = true ↔ ∀ i, i < 24 → a i = b i := by unfold cubeEq; rw [all_iff]; simp
theorem cubeEq_comm (a b : Cube) : cubeEq a b = cubeEq b a := by
  rw [Bool.eq_iff_iff, cubeEq_iff, cubeEq_iff]
  exact ⟨fun h i hi => (h i hi).symm, fun h i hi => (h i hi).symm⟩
theorem cubeMeetOk_of_eq {a b : Cube} (h : cubeEq a b = true) : cubeMeetOk a b = true := by
  unfold cubeMeetOk; rw [all_iff]; intro i hi; rw [cubeEq_iff.1 h i hi]; exact Tern.meetOk_self _
theorem cubeWithin_of_eq {a b : Cube} (h : cubeEq a b = true) : cubeWithin a b = true := by
  unfold cubeWithin; rw [all_iff]; intro i hi; rw [cubeEq_iff.1 h i hi]; exact Tern.within_self _
theorem cubeHas_within {a b : Cube} {h : Header} (h1 : cubeWithin a b = true) (h2 : cubeHas a h = true) : cubeHas b h = true := by
  unfold cubeHas cubeWithin at *
  rw [all_iff] at *
  exact fun i hi => Tern.has_within (h1 i hi) (h2 i hi)
end Go.AI
