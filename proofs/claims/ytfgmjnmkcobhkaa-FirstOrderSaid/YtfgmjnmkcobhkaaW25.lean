/- Turning blocks round, and merging by turning: the plain law of it. -/
import Derived.Test.YtfgmjnmkcobhkaaW24
set_option linter.all false
set_option linter.unnecessarySimpa false
set_option linter.unusedVariables false
set_option linter.unusedSimpArgs false
namespace Go.Proofs.Ytfgmjnmkcobhkaa
open Go Go.AI Go.Proofs

/-- the blocks `s..m` and `m..e` turned round -/
def rotF (f : Nat → Int) (s m e : Nat) : Nat → Int := fun x => if s ≤ x ∧ x < s + (e - m) then f (x - s + m) else if s + (e - m) ≤ x ∧ x < e then f (x - (e - m)) else f x
theorem rot_one (g : Nat → Int) (i j m : Nat) (h : j < i) (hm : i ≤ m) : rotF (swF g (m - i) m j) (m - (i - j)) m (m + j) = rotF g (m - i) m (m + j) := by
  funext x
  simp only [rotF, swF]
  repeat' split
  all_goals first | rfl | (exfalso; omega) | (congr 1; omega)
theorem rot_two (g : Nat → Int) (i j m : Nat) (h : i < j) (hm : i ≤ m) : rotF (swF g (m - i) (m + j - i) i) (m - i) m (m + (j - i)) = rotF g (m - i) m (m + j) := by
  funext x
  simp only [rotF, swF]
  repeat' split
  all_goals first | rfl | (exfalso; omega) | (congr 1; omega)
theorem rot_eq (g : Nat → Int) (i m : Nat) (hm : i ≤ m) : swF g (m - i) m i = rotF g (m - i) m (m + i) := by
  funext x
  simp only [rotF, swF]
  repeat' split
  all_goals first | rfl | (exfalso; omega) | (congr 1; omega)
theorem rot_none (g : Nat → Int) (s m e : Nat) (h : s = m ∨ m = e) : rotF g s m e = g := by
  funext x
  simp only [rotF]
  repeat' split
  all_goals first | rfl | (exfalso; omega) | (congr 1; omega)
def Srt (k : Int → Int) (f : Nat → Int) (a b : Nat) : Prop := ∀ x y, a ≤ x → x < y → y < b → ahead k (f x) (f y)
structure Good (k : Int → Int) (f g : Nat → Int) (a b : Nat) : Prop where
  out : ∀ x, ¬ (a ≤ x ∧ x < b) → g x = f x
  val : ∀ x, a ≤ x → x < b → ∃ y, a ≤ y ∧ y < b ∧ g x = f y
  srt : Srt k g a b
structure Pre (k : Int → Int) (f : Nat → Int) (n a m b : Nat) : Prop where
  am : a < m
  mb : m < b
  bn : b ≤ n
  left : Srt k f a m
  right : Srt k f m b
  apart : ∀ x y, a ≤ x → x < m → m ≤ y → y < b → f x < f y
  rng : ∀ x, a ≤ x → x < b → 0 ≤ f x ∧ f x < n
theorem ahead_tr {k : Int → Int} {x y z : Int} (h : ahead k x y) (h2 : ahead k y z) : ahead k x z := by unfold ahead at *; omega
theorem crossing (P : Nat → Bool) (lo : Nat) : ∀ d hi, hi = lo + d → (∀ c c', lo ≤ c → c ≤ c' → c' < hi → P c = true → P c' = true) →
    ∃ s, lo ≤ s ∧ s ≤ hi ∧ (∀ c, lo ≤ c → c < s → P c = false) ∧ (∀ c, s ≤ c → c < hi → P c = true)
  | 0, hi, h, _ => ⟨lo, Nat.le_refl _, by omega, fun c h1 h2 => by omega, fun c h1 h2 => by omega⟩
  | d + 1, hi, h, hm => by
    cases hp : P (hi - 1)
    · refine ⟨hi, by omega, Nat.le_refl _, fun c h1 h2 => ?_, fun c h1 h2 => by omega⟩
      cases hc : P c
      · rfl
      · rw [hm c (hi - 1) h1 (by omega) (by omega) hc] at hp; cases hp
    · obtain ⟨s, h1, h2, h3, h4⟩ := crossing P lo d (hi - 1) (by omega) (fun c c' a b e => hm c c' a b (by omega))
      refine ⟨s, h1, by omega, h3, fun c h5 h6 => ?_⟩
      by_cases hc : c = hi - 1
      · rw [hc]; exact hp
      · exact h4 c h5 (by omega)
/-- the first of a block put in at `s` -/
def mvR (f : Nat → Int) (a s : Nat) : Nat → Int := fun x => if a ≤ x ∧ x + 1 < s then f (x + 1) else if x + 1 = s then f a else f x
theorem mvR_zero (f : Nat → Int) (a : Nat) : mvR f a (a + 1) = f := by
  funext x
  simp only [mvR]
  repeat' split
  all_goals first | rfl | (exfalso; omega) | (congr 1; omega)
theorem mvR_at (f : Nat → Int) (a q : Nat) : mvR f a (q + 1) q = f a := by
  unfold mvR; rw [if_neg (by omega), if_pos rfl]
theorem mvR_at1 (f : Nat → Int) (a q : Nat) : mvR f a (q + 1) (q + 1) = f (q + 1) := by
  simp only [mvR]
  repeat' split
  all_goals first | rfl | (exfalso; omega) | (congr 1; omega)
theorem mvR_succ (f : Nat → Int) (a q : Nat) (h : a ≤ q) : setF (setF (mvR f a (q + 1)) q (f (q + 1))) (q + 1) (f a) = mvR f a (q + 2) := by
  funext x
  simp only [mvR, setF]
  repeat' split
  all_goals first | rfl | (exfalso; omega) | (congr 1; omega)
/-- the last of a block put in at `q` -/
def mvL (f : Nat → Int) (m q : Nat) : Nat → Int := fun x => if x = q then f m else if q < x ∧ x ≤ m then f (x - 1) else f x
theorem mvL_zero (f : Nat → Int) (m : Nat) : mvL f m m = f := by
  funext x
  simp only [mvL]
  repeat' split
  all_goals first | rfl | (exfalso; omega) | (congr 1; omega)
theorem mvL_at (f : Nat → Int) (m q : Nat) : mvL f m q q = f m := by
  unfold mvL; rw [if_pos rfl]
theorem mvL_at1 (f : Nat → Int) (m q : Nat) : mvL f m (q + 1) q = f q := by
  simp only [mvL]
  repeat' split
  all_goals first | rfl | (exfalso; omega) | (congr 1; omega)
theorem mvL_succ (f : Nat → Int) (m q : Nat) (h : q + 1 ≤ m) : setF (setF (mvL f m (q + 1)) (q + 1) (f q)) q (f m) = mvL f m q := by
  funext x
  simp only [mvL, setF]
  repeat' split
  all_goals first | rfl | (exfalso; omega) | (congr 1; omega)
theorem mergeA {k : Int → Int} {f : Nat → Int} {n a b : Nat} (h : Pre k f n a (a + 1) b) : ∃ s, a + 1 ≤ s ∧ s ≤ b ∧
    (∀ c, a + 1 ≤ c → c < s → k (f a) < k (f c)) ∧ (∀ c, s ≤ c → c < b → ¬ k (f a) < k (f c)) ∧ Good k f (mvR f a s) a b := by
  obtain ⟨s, h1, h2, h3, h4⟩ := crossing (fun c => !decide (k (f a) < k (f c))) (a + 1) (b - (a + 1)) b (by have := h.mb; omega) (fun c c' i1 i2 i3 i4 => by
    by_cases hc : c = c'
    · rw [← hc]; exact i4
    · have := h.right c c' i1 (by omega) i3
      simp only [Bool.not_eq_true', decide_eq_false_iff_not] at i4 ⊢
      unfold ahead at this; omega)
  simp only [Bool.not_eq_false', decide_eq_true_eq, Bool.not_eq_true', decide_eq_false_iff_not] at h3 h4
  refine ⟨s, h1, h2, h3, h4, ?_, ?_, ?_⟩
  · intro x hx
    simp only [mvR]
    repeat' split
    all_goals first | rfl | (exfalso; omega)
  · intro x hx hx2
    simp only [mvR]
    repeat' split
    · exact ⟨x + 1, by omega, by omega, rfl⟩
    · exact ⟨a, by omega, by omega, rfl⟩
    · exact ⟨x, hx, hx2, rfl⟩
  · intro x y hx hxy hy
    have ap := fun y => h.apart a y (Nat.le_refl _) (by omega)
    simp only [mvR]
    repeat' split
    · exact h.right _ _ (by omega) (by omega) (by omega)
    · exact Or.inl (h3 _ (by omega) (by omega))
    · exact h.right _ _ (by omega) (by omega) (by omega)
    · exfalso; omega
    · exfalso; omega
    · have h5 := h4 y (by omega) hy
      have h6 := ap y (by omega) hy
      unfold ahead; omega
    · exfalso; omega
    · exfalso; omega
    · exact h.right _ _ (by omega) (by omega) (by omega)
theorem mergeB {k : Int → Int} {f : Nat → Int} {n a m : Nat} (h : Pre k f n a m (m + 1)) : ∃ s, a ≤ s ∧ s ≤ m ∧
    (∀ c, a ≤ c → c < s → ¬ k (f c) < k (f m)) ∧ (∀ c, s ≤ c → c < m → k (f c) < k (f m)) ∧ Good k f (mvL f m s) a (m + 1) := by
  obtain ⟨s, h1, h2, h3, h4⟩ := crossing (fun c => decide (k (f c) < k (f m))) a (m - a) m (by have := h.am; omega) (fun c c' i1 i2 i3 i4 => by
    by_cases hc : c = c'
    · rw [← hc]; exact i4
    · have := h.left c c' i1 (by omega) i3
      simp only [decide_eq_true_eq] at i4 ⊢
      unfold ahead at this; omega)
  simp only [decide_eq_true_eq, decide_eq_false_iff_not] at h3 h4
  refine ⟨s, h1, h2, h3, h4, ?_, ?_, ?_⟩
  · intro x hx
    simp only [mvL]
    repeat' split
    all_goals first | rfl | (exfalso; omega)
  · intro x hx hx2
    simp only [mvL]
    repeat' split
    · exact ⟨m, by omega, by omega, rfl⟩
    · exact ⟨x - 1, by omega, by omega, rfl⟩
    · exact ⟨x, hx, hx2, rfl⟩
  · intro x y hx hxy hy
    have ap := fun x (i1 : a ≤ x) (i2 : x < m) => h.apart x m i1 i2 (Nat.le_refl _) (by omega)
    simp only [mvL]
    repeat' split
    · exfalso; omega
    · exact Or.inl (h4 _ (by omega) (by omega))
    · exfalso; omega
    · exfalso; omega
    · exact h.left _ _ (by omega) (by omega) (by omega)
    · exfalso; omega
    · have h5 := h3 x (by omega) (by omega)
      have h6 := ap x (by omega) (by omega)
      unfold ahead; omega
    · exact h.left _ _ (by omega) (by omega) (by omega)
    · exact h.left _ _ (by omega) (by omega) (by omega)
/-- where the halves are turned: `s` and `mid + m - s` -/
theorem mergeC {k : Int → Int} {f : Nat → Int} {n a m b mid S R : Nat} (h : Pre k f n a m b) (hmid : mid = (a + b) / 2) (hS : S = if mid < m then mid + m - b else a) (hR : R = if mid < m then mid else m) :
    ∃ s, S ≤ s ∧ s ≤ R ∧ a ≤ s ∧ s ≤ mid ∧ s ≤ m ∧ m ≤ mid + m - s ∧ mid + m - s ≤ b ∧
      (∀ c, S ≤ c → c < s → ¬ k (f c) < k (f (mid + m - 1 - c))) ∧ (∀ c, s ≤ c → c < R → k (f c) < k (f (mid + m - 1 - c))) ∧
      (∀ c, S ≤ c → c < R → a ≤ c ∧ c < m ∧ m ≤ mid + m - 1 - c ∧ mid + m - 1 - c < b) ∧
      (∀ x, ¬ (a ≤ x ∧ x < b) → rotF f s m (mid + m - s) x = f x) ∧
      (∀ x, a ≤ x → x < b → ∃ y, a ≤ y ∧ y < b ∧ rotF f s m (mid + m - s) x = f y) ∧
      (∀ x y, a ≤ x → x < mid → mid ≤ y → y < b → ahead k (rotF f s m (mid + m - s) x) (rotF f s m (mid + m - s) y)) ∧
      Srt k (rotF f s m (mid + m - s)) a s ∧ Srt k (rotF f s m (mid + m - s)) s mid ∧
      Srt k (rotF f s m (mid + m - s)) mid (mid + m - s) ∧ Srt k (rotF f s m (mid + m - s)) (mid + m - s) b ∧
      (∀ x y, a ≤ x → x < s → s ≤ y → y < mid → rotF f s m (mid + m - s) x < rotF f s m (mid + m - s) y) ∧
      (∀ x y, mid ≤ x → x < mid + m - s → mid + m - s ≤ y → y < b → rotF f s m (mid + m - s) x < rotF f s m (mid + m - s) y) := by
  have am := h.am
  have mb := h.mb
  have hSR : S ≤ R := by subst hS hR; split <;> omega
  have hcc : ∀ c, S ≤ c → c < R → a ≤ c ∧ c < m ∧ m ≤ mid + m - 1 - c ∧ mid + m - 1 - c < b := by
    intro c h1 h2; subst hS hR
    split at h1 <;> split at h2 <;> omega
  obtain ⟨s, h1, h2, h3, h4⟩ := crossing (fun c => decide (k (f c) < k (f (mid + m - 1 - c)))) S (R - S) R (by omega) (fun c c' i1 i2 i3 i4 => by
    by_cases hc : c = c'
    · rw [← hc]; exact i4
    · obtain ⟨c1, c2, c3, c4⟩ := hcc c i1 (by omega)
      obtain ⟨c5, c6, c7, c8⟩ := hcc c' (by omega) i3
      have l1 := h.left c c' c1 (by omega) c6
      have l2 := h.right (mid + m - 1 - c') (mid + m - 1 - c) c7 (by omega) c4
      simp only [decide_eq_true_eq] at i4 ⊢
      unfold ahead at l1 l2; omega)
  simp only [decide_eq_true_eq, decide_eq_false_iff_not] at h3 h4
  have b1 : a ≤ s ∧ s ≤ mid ∧ s ≤ m ∧ m ≤ mid + m - s ∧ mid + m - s ≤ b := by
    subst hS hR
    split at h1 <;> split at h2 <;> omega
  obtain ⟨b1, b2, b3, b4, b5⟩ := b1
  have q1 : s = S ∨ ∃ q, s = q + 1 ∧ S ≤ q := by
    by_cases e : s = S
    · exact Or.inl e
    · exact Or.inr ⟨s - 1, by omega, by omega⟩
  -- left of the cut and right of the turn
  have key1 : ∀ x y, a ≤ x → x < s → mid + m - s ≤ y → y < b → ahead k (f x) (f y) := by
    intro x y i1 i2 i3 i4
    rcases q1 with e | ⟨q, e, hq⟩
    · exfalso; subst hS; split at e <;> omega
    · have c0 := hcc q hq (by omega)
      have c1 := h3 q hq (by omega)
      have c2 := h.apart q (mid + m - 1 - q) c0.1 c0.2.1 c0.2.2.1 c0.2.2.2
      have c3 : ahead k (f q) (f (mid + m - 1 - q)) := by unfold ahead; omega
      have c4 : x = q ∨ ahead k (f x) (f q) := by
        by_cases e2 : x = q
        · exact Or.inl e2
        · exact Or.inr (h.left x q i1 (by omega) (by omega))
      have c5 : y = mid + m - 1 - q ∨ ahead k (f (mid + m - 1 - q)) (f y) := by
        by_cases e2 : y = mid + m - 1 - q
        · exact Or.inl e2
        · exact Or.inr (h.right _ y (by omega) (by omega) i4)
      rcases c4 with rfl | c4 <;> rcases c5 with rfl | c5
      · exact c3
      · exact ahead_tr c3 c5
      · exact ahead_tr c4 c3
      · exact ahead_tr c4 (ahead_tr c3 c5)
  -- right ahead of the turn and left behind the cut
  have key2 : ∀ x y, m ≤ x → x < mid + m - s → s ≤ y → y < m → ahead k (f x) (f y) := by
    intro x y i1 i2 i3 i4
    by_cases e : s = R
    · exfalso; subst hR; split at e <;> omega
    · have c0 := hcc s h1 (by omega)
      have c1 := h4 s (Nat.le_refl _) (by omega)
      have c3 : ahead k (f (mid + m - 1 - s)) (f s) := Or.inl c1
      have c4 : x = mid + m - 1 - s ∨ ahead k (f x) (f (mid + m - 1 - s)) := by
        by_cases e2 : x = mid + m - 1 - s
        · exact Or.inl e2
        · exact Or.inr (h.right x _ i1 (by omega) (by omega))
      have c5 : y = s ∨ ahead k (f s) (f y) := by
        by_cases e2 : y = s
        · exact Or.inl e2
        · exact Or.inr (h.left s y b1 (by omega) i4)
      rcases c4 with rfl | c4 <;> rcases c5 with rfl | c5
      · exact c3
      · exact ahead_tr c3 c5
      · exact ahead_tr c4 c3
      · exact ahead_tr c4 (ahead_tr c3 c5)
  -- what lies where
  have z1 : ∀ x, x < s → rotF f s m (mid + m - s) x = f x := by
    intro x hx; simp only [rotF]; repeat' split
    all_goals first | rfl | (exfalso; omega)
  have z2 : ∀ x, s ≤ x → x < mid → rotF f s m (mid + m - s) x = f (x - s + m) := by
    intro x hx hx2; simp only [rotF]; repeat' split
    all_goals first | rfl | (exfalso; omega)
  have z3 : ∀ x, mid ≤ x → x < mid + m - s → rotF f s m (mid + m - s) x = f (x - (mid - s)) := by
    intro x hx hx2; simp only [rotF]; repeat' split
    all_goals first | rfl | (exfalso; omega) | (congr 1; omega)
  have z4 : ∀ x, mid + m - s ≤ x → rotF f s m (mid + m - s) x = f x := by
    intro x hx; simp only [rotF]; repeat' split
    all_goals first | rfl | (exfalso; omega)
  refine ⟨s, h1, h2, b1, b2, b3, b4, b5, h3, h4, hcc, ?_, ?_, ?_, ?_, ?_, ?_, ?_, ?_, ?_⟩
  · intro x hx
    by_cases e : x < s
    · exact z1 x e
    · exact z4 x (by omega)
  · intro x hx hx2
    by_cases e : x < s
    · exact ⟨x, hx, hx2, z1 x e⟩
    · by_cases e2 : x < mid
      · exact ⟨_, by omega, by omega, z2 x (by omega) e2⟩
      · by_cases e3 : x < mid + m - s
        · exact ⟨_, by omega, by omega, z3 x (by omega) e3⟩
        · exact ⟨x, hx, hx2, z4 x (by omega)⟩
  · intro x y i1 i2 i3 i4
    by_cases e : x < s <;> by_cases e2 : y < mid + m - s
    · rw [z1 x e, z3 y i3 e2]; exact h.left _ _ i1 (by omega) (by omega)
    · rw [z1 x e, z4 y (by omega)]; exact key1 _ _ i1 e (by omega) i4
    · rw [z2 x (by omega) i2, z3 y i3 e2]; exact key2 _ _ (by omega) (by omega) (by omega) (by omega)
    · rw [z2 x (by omega) i2, z4 y (by omega)]; exact h.right _ _ (by omega) (by omega) i4
  · intro x y i1 i2 i3
    rw [z1 x (by omega), z1 y i3]; exact h.left _ _ i1 i2 (by omega)
  · intro x y i1 i2 i3
    rw [z2 x i1 (by omega), z2 y (by omega) i3]; exact h.right _ _ (by omega) (by omega) (by omega)
  · intro x y i1 i2 i3
    rw [z3 x i1 (by omega), z3 y (by omega) i3]; exact h.left _ _ (by omega) (by omega) (by omega)
  · intro x y i1 i2 i3
    rw [z4 x i1, z4 y (by omega)]; exact h.right _ _ (by omega) i2 i3
  · intro x y i1 i2 i3 i4
    rw [z1 x i2, z2 y i3 i4]; exact h.apart _ _ i1 (by omega) (by omega) (by omega)
  · intro x y i1 i2 i3 i4
    rw [z3 x i1 i2, z4 y i3]; exact h.apart _ _ (by omega) (by omega) (by omega) (by omega)
/-- the halves merged, all is merged -/
theorem mergeD {k : Int → Int} {f g1 g2 g3 : Nat → Int} {a mid b : Nat} (ha : a ≤ mid) (hb : mid ≤ b) (o : ∀ x, ¬ (a ≤ x ∧ x < b) → g1 x = f x)
    (v : ∀ x, a ≤ x → x < b → ∃ y, a ≤ y ∧ y < b ∧ g1 x = f y) (cr : ∀ x y, a ≤ x → x < mid → mid ≤ y → y < b → ahead k (g1 x) (g1 y))
    (G2 : Good k g1 g2 a mid) (G3 : Good k g2 g3 mid b) : Good k f g3 a b := by
  have e2 : ∀ x, mid ≤ x → g2 x = g1 x := fun x hx => G2.out x (by omega)
  have e3 : ∀ x, x < mid → g3 x = g2 x := fun x hx => G3.out x (by omega)
  have v3 : ∀ x, mid ≤ x → x < b → ∃ y, mid ≤ y ∧ y < b ∧ g3 x = g1 y := fun x i1 i2 => by
    obtain ⟨y, j1, j2, j3⟩ := G3.val x i1 i2
    exact ⟨y, j1, j2, by rw [j3, e2 y j1]⟩
  have v2 : ∀ x, a ≤ x → x < mid → ∃ y, a ≤ y ∧ y < mid ∧ g3 x = g1 y := fun x i1 i2 => by
    obtain ⟨y, j1, j2, j3⟩ := G2.val x i1 i2
    exact ⟨y, j1, j2, by rw [e3 x i2, j3]⟩
  refine ⟨fun x hx => ?_, fun x hx hx2 => ?_, fun x y i1 i2 i3 => ?_⟩
  · rw [G3.out x (by omega), G2.out x (by omega), o x hx]
  · by_cases e : x < mid
    · obtain ⟨y, j1, j2, j3⟩ := v2 x hx e
      obtain ⟨z, l1, l2, l3⟩ := v y j1 (by omega)
      exact ⟨z, l1, l2, by rw [j3, l3]⟩
    · obtain ⟨y, j1, j2, j3⟩ := v3 x (by omega) hx2
      obtain ⟨z, l1, l2, l3⟩ := v y (by omega) j2
      exact ⟨z, l1, l2, by rw [j3, l3]⟩
  · by_cases e : y < mid
    · rw [e3 x (by omega), e3 y e]; exact G2.srt x y i1 i2 e
    · by_cases e' : x < mid
      · obtain ⟨x', j1, j2, j3⟩ := v2 x i1 e'
        obtain ⟨y', l1, l2, l3⟩ := v3 y (by omega) i3
        rw [j3, l3]; exact cr x' y' j1 j2 l1 l2
      · exact G3.srt x y (by omega) i2 i3
theorem good_refl {k : Int → Int} {f : Nat → Int} {a b : Nat} (h : Srt k f a b) : Good k f f a b := ⟨fun _ _ => rfl, fun x h1 h2 => ⟨x, h1, h2, rfl⟩, h⟩
end Go.Proofs.Ytfgmjnmkcobhkaa
