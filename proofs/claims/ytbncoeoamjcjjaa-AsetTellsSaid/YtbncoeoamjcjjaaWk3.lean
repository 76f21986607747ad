/- Which flows a change takes: tests in lists, what is asked of a flow, and those of a table, one behind the other. -/
import Derived.Test.YtbncoeoamjcjjaaWk2
import Derived.Test.YtbncoeoamjcjjaaAe
import Derived.Test.YtbncoeoamjcjjaaDa
set_option linter.all false
set_option linter.unnecessarySimpa false
section
set_option linter.unusedVariables false
set_option linter.unusedSimpArgs false
namespace Go.Proofs.Ytbncoeoamjcjjaa
open Go Go.AI Go.Proofs

/-- the place of the first -/
def firstI (p : Nat → Bool) (n : Nat) : Int := match (List.range n).find? p with | some i => i | none => -1
theorem firstI_some {p : Nat → Bool} {n i : Nat} (h : i < n) (hp : p i = true) (hn : ∀ j, j < i → p j = false) : firstI p n = i := by
  unfold firstI
  have : (List.range n).find? p = some i := by
    rw [List.find?_range_eq_some]
    exact ⟨hp, by simpa using h, fun j hj => by simp [hn j hj]⟩
  rw [this]
theorem firstI_none {p : Nat → Bool} {n : Nat} (hn : ∀ j, j < n → p j = false) : firstI p n = -1 := by
  unfold firstI
  have : (List.range n).find? p = none := by
    rw [List.find?_range_eq_none]
    exact fun i hi => by simp [hn i hi]
  rw [this]
/-- a test of flows -/
structure Tst (x : AV) (p : Flow → Bool) : Prop where
  f : ∃ fid caps, x = .fn fid caps ∧ ClL caps = true ∧ ∀ f, FPl f → FnP Try.prog fid (.agg f.enc :: caps) (.bool (p f))
theorem int_sub (l : List Int) (i : Nat) (h : i < l.length) (h' : i < (intL l).length) : (intL l)[i] = .int .i64 (nth l i) := by simp [intL, nth_eq h]
theorem index_c (l : List Int) (v : Int) (hl : l.length ≤ 1000000) : FnP Try.prog 148 [intS l, .int .i64 v] (.int .i64 (firstI (fun i => v == nth l i) l.length)) := by
  unfold intS
  refine FnP.intro Try.func148 rfl rfl fun G w => ?_
  repeat (first | refine WK.seq ?_ | refine WK.block ?_ | refine WK.inBlock ?_ | refine WK.skip ?_ | refine WK.label ?_ | refine WK.scope ?_ | refine WK.inScope ?_ | refine WK.exit rfl ?_)
  first | refine WK.reg 100 Try.ntmps148 (by kernel_rfl) ?_ | refine WK.regD 100 clsOf (by kernel_rfl) Try.ntmps148 (by kernel_rfl) (by kernel_rfl) ?_
  intro A hA Q hQ
  simp
  refine hQ _ _ ?_
  clear hQ hA
  repeat (first | refine WK.seq ?_ | refine WK.block ?_ | refine WK.inBlock ?_ | refine WK.skip ?_ | refine WK.label ?_ | refine WK.scope ?_ | refine WK.inScope ?_ | refine WK.exit rfl ?_)
  first | refine WK.reg 200 Try.ntmps148 (by kernel_rfl) ?_ | refine WK.regD 200 clsOf (by kernel_rfl) Try.ntmps148 (by kernel_rfl) (by kernel_rfl) ?_
  intro A hA Q hQ
  simp
  refine hQ _ _ ?_
  clear hQ hA
  repeat (first | refine WK.seq ?_ | refine WK.block ?_ | refine WK.inBlock ?_ | refine WK.skip ?_ | refine WK.label ?_ | refine WK.scope ?_ | refine WK.inScope ?_ | refine WK.exit rfl ?_)
  refine WK.loopI (fun n => n) (fun i : Nat => (⟨(upd (upd (upd (upd J 0 (.sl false l.length (intL l))) 1 (.int .i64 v)) 7 (.int .i64 l.length)) 8 (.int .i64 i)), B0, 0⟩ : St)) (fun i => i ≤ l.length ∧ ∀ j, j < i → (v == nth l j) = false) (fun i => l.length - i) (0) (by repeat (first | exact TmW.nil | refine TmW.upd ?_ (by simp (maxDischargeDepth := 120)))) (by repeat (first | exact BxW.nil | refine BxW.upd ?_ (by simp (maxDischargeDepth := 120)))) (by first | exact InjW.id | exact InjW.nil | exact InjW.one | exact InjW.two (by simp) | exact InjW.three (by simp) (by simp) (by simp)) (⟨by omega, by simp⟩) (fun i hi IH => ?_)
  repeat (first | refine WK.seq ?_ | refine WK.block ?_ | refine WK.inBlock ?_ | refine WK.skip ?_ | refine WK.label ?_ | refine WK.scope ?_ | refine WK.inScope ?_ | refine WK.exit rfl ?_)
  first | refine WK.reg 300 Try.ntmps148 (by kernel_rfl) ?_ | refine WK.regD 300 clsOf (by kernel_rfl) Try.ntmps148 (by kernel_rfl) (by kernel_rfl) ?_
  intro A hA Q hQ
  simp
  refine hQ _ _ ?_
  clear hQ hA
  repeat (first | refine WK.seq ?_ | refine WK.block ?_ | refine WK.inBlock ?_ | refine WK.skip ?_ | refine WK.label ?_ | refine WK.scope ?_ | refine WK.inScope ?_ | refine WK.exit rfl ?_)
  refine WK.cond2 rfl (fun h1 => ?_) (fun h1 => ?_)
  · simp at h1
    have h2 : i < l.length := by omega
    have h4 := int_sub l i h2
    have h6 : IntKind.i64.wrap ((i : Int) + 1) = i + 1 := wrap_i64 (by omega) (by omega)
    repeat (first | refine WK.seq ?_ | refine WK.block ?_ | refine WK.inBlock ?_ | refine WK.skip ?_ | refine WK.label ?_ | refine WK.scope ?_ | refine WK.inScope ?_ | refine WK.exit rfl ?_)
    first | refine WK.reg 400 Try.ntmps148 (by kernel_rfl) ?_ | refine WK.regD 400 clsOf (by kernel_rfl) Try.ntmps148 (by kernel_rfl) (by kernel_rfl) ?_
    intro A hA Q hQ
    simp
    refine hQ _ _ ?_
    clear hQ hA
    repeat (first | refine WK.seq ?_ | refine WK.block ?_ | refine WK.inBlock ?_ | refine WK.skip ?_ | refine WK.label ?_ | refine WK.scope ?_ | refine WK.inScope ?_ | refine WK.exit rfl ?_)
    first | refine WK.reg 500 Try.ntmps148 (by kernel_rfl) ?_ | refine WK.regD 500 clsOf (by kernel_rfl) Try.ntmps148 (by kernel_rfl) (by kernel_rfl) ?_
    intro A hA Q hQ
    simp [h2, h4]
    refine hQ _ _ ?_
    clear hQ hA
    repeat (first | refine WK.seq ?_ | refine WK.block ?_ | refine WK.inBlock ?_ | refine WK.skip ?_ | refine WK.label ?_ | refine WK.scope ?_ | refine WK.inScope ?_ | refine WK.exit rfl ?_)
    refine WK.cond2 rfl (fun h5 => ?_) (fun h5 => ?_)
    · have e := firstI_some (p := fun i => v == nth l i) h2 h5 hi.2
      repeat (first | refine WK.seq ?_ | refine WK.block ?_ | refine WK.inBlock ?_ | refine WK.skip ?_ | refine WK.label ?_ | refine WK.scope ?_ | refine WK.inScope ?_ | refine WK.exit rfl ?_)
      first | refine WK.reg 600 Try.ntmps148 (by kernel_rfl) ?_ | refine WK.regD 600 clsOf (by kernel_rfl) Try.ntmps148 (by kernel_rfl) (by kernel_rfl) ?_
      intro A hA Q hQ
      simp
      refine hQ _ _ ?_
      clear hQ hA
      repeat (first | refine WK.seq ?_ | refine WK.block ?_ | refine WK.inBlock ?_ | refine WK.skip ?_ | refine WK.label ?_ | refine WK.scope ?_ | refine WK.inScope ?_ | refine WK.exit rfl ?_)
      refine WK.ret Try.func148 (by simp (maxDischargeDepth := 120) [Try.results148, e]) (by simp [e])
    · repeat (first | refine WK.seq ?_ | refine WK.block ?_ | refine WK.inBlock ?_ | refine WK.skip ?_ | refine WK.label ?_ | refine WK.scope ?_ | refine WK.inScope ?_ | refine WK.exit rfl ?_)
      first | refine WK.reg 700 Try.ntmps148 (by kernel_rfl) ?_ | refine WK.regD 700 clsOf (by kernel_rfl) Try.ntmps148 (by kernel_rfl) (by kernel_rfl) ?_
      intro A hA Q hQ
      simp [h6]
      refine hQ _ _ ?_
      clear hQ hA
      repeat (first | refine WK.seq ?_ | refine WK.block ?_ | refine WK.inBlock ?_ | refine WK.skip ?_ | refine WK.label ?_ | refine WK.scope ?_ | refine WK.inScope ?_ | refine WK.exit rfl ?_)
      refine WK.next (fun n => n) (IH (i + 1) (⟨by omega, fun j hj => by by_cases h7 : j = i; (subst h7; exact h5); exact hi.2 j (by omega)⟩) (by first | omega | (dsimp only; omega))) (by repeat (first | exact TmW.nil | refine TmW.upd ?_ (by simp (maxDischargeDepth := 120)))) (by repeat (first | exact BxW.nil | refine BxW.upd ?_ (by simp (maxDischargeDepth := 120)))) (by first | exact InjW.id | exact InjW.nil | exact InjW.one | exact InjW.two (by simp) | exact InjW.three (by simp) (by simp) (by simp))
  · simp at h1
    have e := firstI_none (p := fun i => v == nth l i) (n := l.length) (fun j hj => hi.2 j (by omega))
    repeat (first | refine WK.seq ?_ | refine WK.block ?_ | refine WK.inBlock ?_ | refine WK.skip ?_ | refine WK.label ?_ | refine WK.scope ?_ | refine WK.inScope ?_ | refine WK.exit rfl ?_)
    first | refine WK.reg 800 Try.ntmps148 (by kernel_rfl) ?_ | refine WK.regD 800 clsOf (by kernel_rfl) Try.ntmps148 (by kernel_rfl) (by kernel_rfl) ?_
    intro A hA Q hQ
    simp
    refine hQ _ _ ?_
    clear hQ hA
    repeat (first | refine WK.seq ?_ | refine WK.block ?_ | refine WK.inBlock ?_ | refine WK.skip ?_ | refine WK.label ?_ | refine WK.scope ?_ | refine WK.inScope ?_ | refine WK.exit rfl ?_)
    refine WK.ret Try.func148 (by simp (maxDischargeDepth := 120) [Try.results148, e]) (by simp [e])
def someOk (n e : Int) (l : List Int) : Bool := n == e || l.any fun x => n == x
end Go.Proofs.Ytbncoeoamjcjjaa
end

section
set_option linter.unusedVariables false
set_option linter.unusedSimpArgs false
namespace Go.Proofs.Ytbncoeoamjcjjaa
open Go Go.AI Go.Proofs

def Flow.out (f : Flow) (p g : Int) : Bool := someOk p 4294967295 (Flow.goPorts f) && someOk g 4294967295 (Flow.goGroups f)
theorem Tst.congr {x : AV} {p q : Flow → Bool} (h : Tst x p) (e : ∀ f, p f = q f) : Tst x q := by
  have : p = q := funext e
  rw [← this]; exact h
end Go.Proofs.Ytbncoeoamjcjjaa
end

section
set_option linter.unusedVariables false
set_option linter.unusedSimpArgs false
namespace Go.Proofs.Ytbncoeoamjcjjaa
open Go Go.AI Go.Proofs

theorem intL_take {l : List Int} {i : Nat} (h : i < l.length) : intL (l.take (i + 1)) = intL (l.take i) ++ [.int .i64 (nth l i)] := by rw [take_nth h]; simp [intL]
end Go.Proofs.Ytbncoeoamjcjjaa
end

section
set_option linter.unusedVariables false
set_option linter.unusedSimpArgs false
namespace Go.Proofs.Ytbncoeoamjcjjaa
open Go Go.AI Go.Proofs

/-- without a filter -/
def bare (m : FlowMod) : FlowMod := { m with cookieMask := 0#64, outPort := 4294967295, outGroup := 4294967295 }
end Go.Proofs.Ytbncoeoamjcjjaa
end

section
set_option linter.unusedVariables false
set_option linter.unusedSimpArgs false
namespace Go.Proofs.Ytbncoeoamjcjjaa
open Go Go.AI Go.Proofs

theorem intL_nil : intL [] = [] := rfl
def hF : Header := fun i => if i = 0 then ⟨0#64, 1#64⟩ else wideZ
/-- which place comes ahead of which -/
def ahead (k : Int → Int) (x y : Int) : Prop := k y < k x ∨ k x = k y ∧ x < y
end Go.Proofs.Ytbncoeoamjcjjaa
end

section
set_option linter.unusedVariables false
set_option linter.unusedSimpArgs false
namespace Go.Proofs.Ytbncoeoamjcjjaa
open Go Go.AI Go.Proofs

/-- the first `n` values of a function -/
def ro (f : Nat → Int) (n : Nat) : List Int := (List.range n).map f
def setF (f : Nat → Int) (i : Nat) (v : Int) : Nat → Int := fun x => if x = i then v else f x
@[simp] theorem ro_len (f : Nat → Int) (n : Nat) : (ro f n).length = n := by simp [ro]
/-- two ranges of `i` places swapped -/
def swF (f : Nat → Int) (a b i : Nat) : Nat → Int := fun x => if a ≤ x ∧ x < a + i then f (x - a + b) else if b ≤ x ∧ x < b + i then f (x - b + a) else f x
theorem swF_zero (f : Nat → Int) (a b : Nat) : swF f a b 0 = f := by
  funext x; unfold swF; rw [if_neg (by omega), if_neg (by omega)]
theorem swF_l (f : Nat → Int) (a b i : Nat) (h : a + i < b) : swF f a b i (a + i) = f (a + i) := by
  unfold swF; rw [if_neg (by omega), if_neg (by omega)]
theorem swF_r (f : Nat → Int) (a b i : Nat) (h : a + i < b) : swF f a b i (b + i) = f (b + i) := by
  unfold swF; rw [if_neg (by omega), if_neg (by omega)]
theorem swF_succ (f : Nat → Int) (a b i : Nat) (h : a + i < b) : setF (setF (swF f a b i) (a + i) (swF f a b i (b + i))) (b + i) (swF f a b i (a + i)) = swF f a b (i + 1) := by
  rw [swF_l f a b i h, swF_r f a b i h]
  funext x
  simp only [setF, swF]
  repeat' split
  all_goals first | rfl | (exfalso; omega) | (congr 1; omega)
end Go.Proofs.Ytbncoeoamjcjjaa
end

section
set_option linter.unusedVariables false
set_option linter.unusedSimpArgs false
namespace Go.Proofs.Ytbncoeoamjcjjaa
open Go Go.AI Go.Proofs

/-- the blocks `s..m` and `m..e` turned round -/
def rotF (f : Nat → Int) (s m e : Nat) : Nat → Int := fun x => if s ≤ x ∧ x < s + (e - m) then f (x - s + m) else if s + (e - m) ≤ x ∧ x < e then f (x - (e - m)) else f x
theorem rot_one (g : Nat → Int) (i j m : Nat) (h : j < i) (hm : i ≤ m) : rotF (swF g (m - i) m j) (m - (i - j)) m (m + j) = rotF g (m - i) m (m + j) := by
  funext x
  simp only [rotF, swF]
  repeat' split
  all_goals first | rfl | (exfalso; omega) | (congr 1; omega)
theorem rot_two (g : Nat → Int) (i j m : Nat) (h : i < j) (hm : i ≤ m) : rotF (swF g (m - i) (m + j - i) i) (m - i) m (m + (j - i)) = rotF g (m - i) m (m + j) := by
  funext x
  simp only [rotF, swF]
  repeat' split
  all_goals first | rfl | (exfalso; omega) | (congr 1; omega)
theorem rot_eq (g : Nat → Int) (i m : Nat) (hm : i ≤ m) : swF g (m - i) m i = rotF g (m - i) m (m + i) := by
  funext x
  simp only [rotF, swF]
  repeat' split
  all_goals first | rfl | (exfalso; omega) | (congr 1; omega)
theorem rot_none (g : Nat → Int) (s m e : Nat) (h : s = m ∨ m = e) : rotF g s m e = g := by
  funext x
  simp only [rotF]
  repeat' split
  all_goals first | rfl | (exfalso; omega) | (congr 1; omega)
def Srt (k : Int → Int) (f : Nat → Int) (a b : Nat) : Prop := ∀ x y, a ≤ x → x < y → y < b → ahead k (f x) (f y)
structure Good (k : Int → Int) (f g : Nat → Int) (a b : Nat) : Prop where
  out : ∀ x, ¬ (a ≤ x ∧ x < b) → g x = f x
  val : ∀ x, a ≤ x → x < b → ∃ y, a ≤ y ∧ y < b ∧ g x = f y
  srt : Srt k g a b
structure Pre (k : Int → Int) (f : Nat → Int) (n a m b : Nat) : Prop where
  am : a < m
  mb : m < b
  bn : b ≤ n
  left : Srt k f a m
  right : Srt k f m b
  apart : ∀ x y, a ≤ x → x < m → m ≤ y → y < b → f x < f y
  rng : ∀ x, a ≤ x → x < b → 0 ≤ f x ∧ f x < n
theorem ahead_tr {k : Int → Int} {x y z : Int} (h : ahead k x y) (h2 : ahead k y z) : ahead k x z := by unfold ahead at *; omega
theorem crossing (P : Nat → Bool) (lo : Nat) : ∀ d hi, hi = lo + d → (∀ c c', lo ≤ c → c ≤ c' → c' < hi → P c = true → P c' = true) →
    ∃ s, lo ≤ s ∧ s ≤ hi ∧ (∀ c, lo ≤ c → c < s → P c = false) ∧ (∀ c, s ≤ c → c < hi → P c = true)
  | 0, hi, h, _ => ⟨lo, Nat.le_refl _, by omega, fun c h1 h2 => by omega, fun c h1 h2 => by omega⟩
  | d + 1, hi, h, hm => by
    cases hp : P (hi - 1)
    · refine ⟨hi, by omega, Nat.le_refl _, fun c h1 h2 => ?_, fun c h1 h2 => by omega⟩
      cases hc : P c
      · rfl
      · rw [hm c (hi - 1) h1 (by omega) (by omega) hc] at hp; cases hp
    · obtain ⟨s, h1, h2, h3, h4⟩ := crossing P lo d (hi - 1) (by omega) (fun c c' a b e => hm c c' a b (by omega))
      refine ⟨s, h1, by omega, h3, fun c h5 h6 => ?_⟩
      by_cases hc : c = hi - 1
      · rw [hc]; exact hp
      · exact h4 c h5 (by omega)
/-- the first of a block put in at `s` -/
def mvR (f : Nat → Int) (a s : Nat) : Nat → Int := fun x => if a ≤ x ∧ x + 1 < s then f (x + 1) else if x + 1 = s then f a else f x
theorem mvR_zero (f : Nat → Int) (a : Nat) : mvR f a (a + 1) = f := by
  funext x
  simp only [mvR]
  repeat' split
  all_goals first | rfl | (exfalso; omega) | (congr 1; omega)
theorem mvR_at (f : Nat → Int) (a q : Nat) : mvR f a (q + 1) q = f a := by
  unfold mvR; rw [if_neg (by omega), if_pos rfl]
theorem mvR_at1 (f : Nat → Int) (a q : Nat) : mvR f a (q + 1) (q + 1) = f (q + 1) := by
  simp only [mvR]
  repeat' split
  all_goals first | rfl | (exfalso; omega) | (congr 1; omega)
theorem mvR_succ (f : Nat → Int) (a q : Nat) (h : a ≤ q) : setF (setF (mvR f a (q + 1)) q (f (q + 1))) (q + 1) (f a) = mvR f a (q + 2) := by
  funext x
  simp only [mvR, setF]
  repeat' split
  all_goals first | rfl | (exfalso; omega) | (congr 1; omega)
/-- the last of a block put in at `q` -/
def mvL (f : Nat → Int) (m q : Nat) : Nat → Int := fun x => if x = q then f m else if q < x ∧ x ≤ m then f (x - 1) else f x
theorem mvL_zero (f : Nat → Int) (m : Nat) : mvL f m m = f := by
  funext x
  simp only [mvL]
  repeat' split
  all_goals first | rfl | (exfalso; omega) | (congr 1; omega)
theorem mvL_at (f : Nat → Int) (m q : Nat) : mvL f m q q = f m := by
  unfold mvL; rw [if_pos rfl]
theorem mvL_at1 (f : Nat → Int) (m q : Nat) : mvL f m (q + 1) q = f q := by
  simp only [mvL]
  repeat' split
  all_goals first | rfl | (exfalso; omega) | (congr 1; omega)
theorem mvL_succ (f : Nat → Int) (m q : Nat) (h : q + 1 ≤ m) : setF (setF (mvL f m (q + 1)) (q + 1) (f q)) q (f m) = mvL f m q := by
  funext x
  simp only [mvL, setF]
  repeat' split
  all_goals first | rfl | (exfalso; omega) | (congr 1; omega)
theorem mergeA {k : Int → Int} {f : Nat → Int} {n a b : Nat} (h : Pre k f n a (a + 1) b) : ∃ s, a + 1 ≤ s ∧ s ≤ b ∧
    (∀ c, a + 1 ≤ c → c < s → k (f a) < k (f c)) ∧ (∀ c, s ≤ c → c < b → ¬ k (f a) < k (f c)) ∧ Good k f (mvR f a s) a b := by
  obtain ⟨s, h1, h2, h3, h4⟩ := crossing (fun c => !decide (k (f a) < k (f c))) (a + 1) (b - (a + 1)) b (by have := h.mb; omega) (fun c c' i1 i2 i3 i4 => by
    by_cases hc : c = c'
    · rw [← hc]; exact i4
    · have := h.right c c' i1 (by omega) i3
      simp only [Bool.not_eq_true', decide_eq_false_iff_not] at i4 ⊢
      unfold ahead at this; omega)
  simp only [Bool.not_eq_false', decide_eq_true_eq, Bool.not_eq_true', decide_eq_false_iff_not] at h3 h4
  refine ⟨s, h1, h2, h3, h4, ?_, ?_, ?_⟩
  · intro x hx
    simp only [mvR]
    repeat' split
    all_goals first | rfl | (exfalso; omega)
  · intro x hx hx2
    simp only [mvR]
    repeat' split
    · exact ⟨x + 1, by omega, by omega, rfl⟩
    · exact ⟨a, by omega, by omega, rfl⟩
    · exact ⟨x, hx, hx2, rfl⟩
  · intro x y hx hxy hy
    have ap := fun y => h.apart a y (Nat.le_refl _) (by omega)
    simp only [mvR]
    repeat' split
    · exact h.right _ _ (by omega) (by omega) (by omega)
    · exact Or.inl (h3 _ (by omega) (by omega))
    · exact h.right _ _ (by omega) (by omega) (by omega)
    · exfalso; omega
    · exfalso; omega
    · have h5 := h4 y (by omega) hy
      have h6 := ap y (by omega) hy
      unfold ahead; omega
    · exfalso; omega
    · exfalso; omega
    · exact h.right _ _ (by omega) (by omega) (by omega)
theorem mergeB {k : Int → Int} {f : Nat → Int} {n a m : Nat} (h : Pre k f n a m (m + 1)) : ∃ s, a ≤ s ∧ s ≤ m ∧
    (∀ c, a ≤ c → c < s → ¬ k (f c) < k (f m)) ∧ (∀ c, s ≤ c → c < m → k (f c) < k (f m)) ∧ Good k f (mvL f m s) a (m + 1) := by
  obtain ⟨s, h1, h2, h3, h4⟩ := crossing (fun c => decide (k (f c) < k (f m))) a (m - a) m (by have := h.am; omega) (fun c c' i1 i2 i3 i4 => by
    by_cases hc : c = c'
    · rw [← hc]; exact i4
    · have := h.left c c' i1 (by omega) i3
      simp only [decide_eq_true_eq] at i4 ⊢
      unfold ahead at this; omega)
  simp only [decide_eq_true_eq, decide_eq_false_iff_not] at h3 h4
  refine ⟨s, h1, h2, h3, h4, ?_, ?_, ?_⟩
  · intro x hx
    simp only [mvL]
    repeat' split
    all_goals first | rfl | (exfalso; omega)
  · intro x hx hx2
    simp only [mvL]
    repeat' split
    · exact ⟨m, by omega, by omega, rfl⟩
    · exact ⟨x - 1, by omega, by omega, rfl⟩
    · exact ⟨x, hx, hx2, rfl⟩
  · intro x y hx hxy hy
    have ap := fun x (i1 : a ≤ x) (i2 : x < m) => h.apart x m i1 i2 (Nat.le_refl _) (by omega)
    simp only [mvL]
    repeat' split
    · exfalso; omega
    · exact Or.inl (h4 _ (by omega) (by omega))
    · exfalso; omega
    · exfalso; omega
    · exact h.left _ _ (by omega) (by omega) (by omega)
    · exfalso; omega
    · have h5 := h3 x (by omega) (by omega)
      have h6 := ap x (by omega) (by omega)
      unfold ahead; omega
    · exact h.left _ _ (by omega) (by omega) (by omega)
    · exact h.left _ _ (by omega) (by omega) (by omega)
/-- where the halves are turned: `s` and `mid + m - s` -/
theorem mergeC {k : Int → Int} {f : Nat → Int} {n a m b mid S R : Nat} (h : Pre k f n a m b) (hmid : mid = (a + b) / 2) (hS : S = if mid < m then mid + m - b else a) (hR : R = if mid < m then mid else m) :
    ∃ s, S ≤ s ∧ s ≤ R ∧ a ≤ s ∧ s ≤ mid ∧ s ≤ m ∧ m ≤ mid + m - s ∧ mid + m - s ≤ b ∧
      (∀ c, S ≤ c → c < s → ¬ k (f c) < k (f (mid + m - 1 - c))) ∧ (∀ c, s ≤ c → c < R → k (f c) < k (f (mid + m - 1 - c))) ∧
      (∀ c, S ≤ c → c < R → a ≤ c ∧ c < m ∧ m ≤ mid + m - 1 - c ∧ mid + m - 1 - c < b) ∧
      (∀ x, ¬ (a ≤ x ∧ x < b) → rotF f s m (mid + m - s) x = f x) ∧
      (∀ x, a ≤ x → x < b → ∃ y, a ≤ y ∧ y < b ∧ rotF f s m (mid + m - s) x = f y) ∧
      (∀ x y, a ≤ x → x < mid → mid ≤ y → y < b → ahead k (rotF f s m (mid + m - s) x) (rotF f s m (mid + m - s) y)) ∧
      Srt k (rotF f s m (mid + m - s)) a s ∧ Srt k (rotF f s m (mid + m - s)) s mid ∧
      Srt k (rotF f s m (mid + m - s)) mid (mid + m - s) ∧ Srt k (rotF f s m (mid + m - s)) (mid + m - s) b ∧
      (∀ x y, a ≤ x → x < s → s ≤ y → y < mid → rotF f s m (mid + m - s) x < rotF f s m (mid + m - s) y) ∧
      (∀ x y, mid ≤ x → x < mid + m - s → mid + m - s ≤ y → y < b → rotF f s m (mid + m - s) x < rotF f s m (mid + m - s) y) := by
  have am := h.am
  have mb := h.mb
  have hSR : S ≤ R := by subst hS hR; split <;> omega
  have hcc : ∀ c, S ≤ c → c < R → a ≤ c ∧ c < m ∧ m ≤ mid + m - 1 - c ∧ mid + m - 1 - c < b := by
    intro c h1 h2; subst hS hR
    split at h1 <;> split at h2 <;> omega
  obtain ⟨s, h1, h2, h3, h4⟩ := crossing (fun c => decide (k (f c) < k (f (mid + m - 1 - c)))) S (R - S) R (by omega) (fun c c' i1 i2 i3 i4 => by
    by_cases hc : c = c'
    · rw [← hc]; exact i4
    · obtain ⟨c1, c2, c3, c4⟩ := hcc c i1 (by omega)
      obtain ⟨c5, c6, c7, c8⟩ := hcc c' (by omega) i3
      have l1 := h.left c c' c1 (by omega) c6
      have l2 := h.right (mid + m - 1 - c') (mid + m - 1 - c) c7 (by omega) c4
      simp only [decide_eq_true_eq] at i4 ⊢
      unfold ahead at l1 l2; omega)
  simp only [decide_eq_true_eq, decide_eq_false_iff_not] at h3 h4
  have b1 : a ≤ s ∧ s ≤ mid ∧ s ≤ m ∧ m ≤ mid + m - s ∧ mid + m - s ≤ b := by
    subst hS hR
    split at h1 <;> split at h2 <;> omega
  obtain ⟨b1, b2, b3, b4, b5⟩ := b1
  have q1 : s = S ∨ ∃ q, s = q + 1 ∧ S ≤ q := by
    by_cases e : s = S
    · exact Or.inl e
    · exact Or.inr ⟨s - 1, by omega, by omega⟩
  -- left of the cut and right of the turn
  have key1 : ∀ x y, a ≤ x → x < s → mid + m - s ≤ y → y < b → ahead k (f x) (f y) := by
    intro x y i1 i2 i3 i4
    rcases q1 with e | ⟨q, e, hq⟩
    · exfalso; subst hS; split at e <;> omega
    · have c0 := hcc q hq (by omega)
      have c1 := h3 q hq (by omega)
      have c2 := h.apart q (mid + m - 1 - q) c0.1 c0.2.1 c0.2.2.1 c0.2.2.2
      have c3 : ahead k (f q) (f (mid + m - 1 - q)) := by unfold ahead; omega
      have c4 : x = q ∨ ahead k (f x) (f q) := by
        by_cases e2 : x = q
        · exact Or.inl e2
        · exact Or.inr (h.left x q i1 (by omega) (by omega))
      have c5 : y = mid + m - 1 - q ∨ ahead k (f (mid + m - 1 - q)) (f y) := by
        by_cases e2 : y = mid + m - 1 - q
        · exact Or.inl e2
        · exact Or.inr (h.right _ y (by omega) (by omega) i4)
      rcases c4 with rfl | c4 <;> rcases c5 with rfl | c5
      · exact c3
      · exact ahead_tr c3 c5
      · exact ahead_tr c4 c3
      · exact ahead_tr c4 (ahead_tr c3 c5)
  -- right ahead of the turn and left behind the cut
  have key2 : ∀ x y, m ≤ x → x < mid + m - s → s ≤ y → y < m → ahead k (f x) (f y) := by
    intro x y i1 i2 i3 i4
    by_cases e : s = R
    · exfalso; subst hR; split at e <;> omega
    · have c0 := hcc s h1 (by omega)
      have c1 := h4 s (Nat.le_refl _) (by omega)
      have c3 : ahead k (f (mid + m - 1 - s)) (f s) := Or.inl c1
      have c4 : x = mid + m - 1 - s ∨ ahead k (f x) (f (mid + m - 1 - s)) := by
        by_cases e2 : x = mid + m - 1 - s
        · exact Or.inl e2
        · exact Or.inr (h.right x _ i1 (by omega) (by omega))
      have c5 : y = s ∨ ahead k (f s) (f y) := by
        by_cases e2 : y = s
        · exact Or.inl e2
        · exact Or.inr (h.left s y b1 (by omega) i4)
      rcases c4 with rfl | c4 <;> rcases c5 with rfl | c5
      · exact c3
      · exact ahead_tr c3 c5
      · exact ahead_tr c4 c3
      · exact ahead_tr c4 (ahead_tr c3 c5)
  -- what lies where
  have z1 : ∀ x, x < s → rotF f s m (mid + m - s) x = f x := by
    intro x hx; simp only [rotF]; repeat' split
    all_goals first | rfl | (exfalso; omega)
  have z2 : ∀ x, s ≤ x → x < mid → rotF f s m (mid + m - s) x = f (x - s + m) := by
    intro x hx hx2; simp only [rotF]; repeat' split
    all_goals first | rfl | (exfalso; omega)
  have z3 : ∀ x, mid ≤ x → x < mid + m - s → rotF f s m (mid + m - s) x = f (x - (mid - s)) := by
    intro x hx hx2; simp only [rotF]; repeat' split
    all_goals first | rfl | (exfalso; omega) | (congr 1; omega)
  have z4 : ∀ x, mid + m - s ≤ x → rotF f s m (mid + m - s) x = f x := by
    intro x hx; simp only [rotF]; repeat' split
    all_goals first | rfl | (exfalso; omega)
  refine ⟨s, h1, h2, b1, b2, b3, b4, b5, h3, h4, hcc, ?_, ?_, ?_, ?_, ?_, ?_, ?_, ?_, ?_⟩
  · intro x hx
    by_cases e : x < s
    · exact z1 x e
    · exact z4 x (by omega)
  · intro x hx hx2
    by_cases e : x < s
    · exact ⟨x, hx, hx2, z1 x e⟩
    · by_cases e2 : x < mid
      · exact ⟨_, by omega, by omega, z2 x (by omega) e2⟩
      · by_cases e3 : x < mid + m - s
        · exact ⟨_, by omega, by omega, z3 x (by omega) e3⟩
        · exact ⟨x, hx, hx2, z4 x (by omega)⟩
  · intro x y i1 i2 i3 i4
    by_cases e : x < s <;> by_cases e2 : y < mid + m - s
    · rw [z1 x e, z3 y i3 e2]; exact h.left _ _ i1 (by omega) (by omega)
    · rw [z1 x e, z4 y (by omega)]; exact key1 _ _ i1 e (by omega) i4
    · rw [z2 x (by omega) i2, z3 y i3 e2]; exact key2 _ _ (by omega) (by omega) (by omega) (by omega)
    · rw [z2 x (by omega) i2, z4 y (by omega)]; exact h.right _ _ (by omega) (by omega) i4
  · intro x y i1 i2 i3
    rw [z1 x (by omega), z1 y i3]; exact h.left _ _ i1 i2 (by omega)
  · intro x y i1 i2 i3
    rw [z2 x i1 (by omega), z2 y (by omega) i3]; exact h.right _ _ (by omega) (by omega) (by omega)
  · intro x y i1 i2 i3
    rw [z3 x i1 (by omega), z3 y (by omega) i3]; exact h.left _ _ (by omega) (by omega) (by omega)
  · intro x y i1 i2 i3
    rw [z4 x i1, z4 y (by omega)]; exact h.right _ _ (by omega) i2 i3
  · intro x y i1 i2 i3 i4
    rw [z1 x i2, z2 y i3 i4]; exact h.apart _ _ i1 (by omega) (by omega) (by omega)
  · intro x y i1 i2 i3 i4
    rw [z3 x i1 i2, z4 y i3]; exact h.apart _ _ (by omega) (by omega) (by omega) (by omega)
/-- the halves merged, all is merged -/
theorem mergeD {k : Int → Int} {f g1 g2 g3 : Nat → Int} {a mid b : Nat} (ha : a ≤ mid) (hb : mid ≤ b) (o : ∀ x, ¬ (a ≤ x ∧ x < b) → g1 x = f x)
    (v : ∀ x, a ≤ x → x < b → ∃ y, a ≤ y ∧ y < b ∧ g1 x = f y) (cr : ∀ x y, a ≤ x → x < mid → mid ≤ y → y < b → ahead k (g1 x) (g1 y))
    (G2 : Good k g1 g2 a mid) (G3 : Good k g2 g3 mid b) : Good k f g3 a b := by
  have e2 : ∀ x, mid ≤ x → g2 x = g1 x := fun x hx => G2.out x (by omega)
  have e3 : ∀ x, x < mid → g3 x = g2 x := fun x hx => G3.out x (by omega)
  have v3 : ∀ x, mid ≤ x → x < b → ∃ y, mid ≤ y ∧ y < b ∧ g3 x = g1 y := fun x i1 i2 => by
    obtain ⟨y, j1, j2, j3⟩ := G3.val x i1 i2
    exact ⟨y, j1, j2, by rw [j3, e2 y j1]⟩
  have v2 : ∀ x, a ≤ x → x < mid → ∃ y, a ≤ y ∧ y < mid ∧ g3 x = g1 y := fun x i1 i2 => by
    obtain ⟨y, j1, j2, j3⟩ := G2.val x i1 i2
    exact ⟨y, j1, j2, by rw [e3 x i2, j3]⟩
  refine ⟨fun x hx => ?_, fun x hx hx2 => ?_, fun x y i1 i2 i3 => ?_⟩
  · rw [G3.out x (by omega), G2.out x (by omega), o x hx]
  · by_cases e : x < mid
    · obtain ⟨y, j1, j2, j3⟩ := v2 x hx e
      obtain ⟨z, l1, l2, l3⟩ := v y j1 (by omega)
      exact ⟨z, l1, l2, by rw [j3, l3]⟩
    · obtain ⟨y, j1, j2, j3⟩ := v3 x (by omega) hx2
      obtain ⟨z, l1, l2, l3⟩ := v y (by omega) j2
      exact ⟨z, l1, l2, by rw [j3, l3]⟩
  · by_cases e : y < mid
    · rw [e3 x (by omega), e3 y e]; exact G2.srt x y i1 i2 e
    · by_cases e' : x < mid
      · obtain ⟨x', j1, j2, j3⟩ := v2 x i1 e'
        obtain ⟨y', l1, l2, l3⟩ := v3 y (by omega) i3
        rw [j3, l3]; exact cr x' y' j1 j2 l1 l2
      · exact G3.srt x y (by omega) i2 i3
theorem good_refl {k : Int → Int} {f : Nat → Int} {a b : Nat} (h : Srt k f a b) : Good k f f a b := ⟨fun _ _ => rfl, fun x h1 h2 => ⟨x, h1, h2, rfl⟩, h⟩
end Go.Proofs.Ytbncoeoamjcjjaa
end

section
set_option linter.unusedVariables false
set_option linter.unusedSimpArgs false
namespace Go.Proofs.Ytbncoeoamjcjjaa
open Go Go.AI Go.Proofs

theorem wrap_u64i {n : Int} (h : 0 ≤ n) (h' : n < 9223372036854775808) : IntKind.wrap .u64 n = n := by
  unfold IntKind.wrap
  show (if (false && decide (n % 18446744073709551616 ≥ 9223372036854775808)) = true then n % 18446744073709551616 - 18446744073709551616 else n % 18446744073709551616) = n
  rw [Bool.false_and, if_neg Bool.false_ne_true]
  exact Int.emod_eq_of_lt h (by omega)
theorem half_eq (x y c : Nat) (h : c = (x + y) / 2) : bShr .u64 ((x : Int) + y) 1 = c := by
  unfold bShr
  show Int.fdiv _ 2 = _
  rw [Int.fdiv_eq_ediv_of_nonneg _ (by decide)]; omega
theorem mergeA' {k : Int → Int} {f : Nat → Int} {n a m b : Nat} (hm : m = a + 1) (h : Pre k f n a m b) : ∃ s, m ≤ s ∧ s ≤ b ∧
    (∀ c, m ≤ c → c < s → k (f a) < k (f c)) ∧ (∀ c, s ≤ c → c < b → ¬ k (f a) < k (f c)) ∧ Good k f (mvR f a s) a b := by
  subst hm; exact mergeA h
theorem mergeB' {k : Int → Int} {f : Nat → Int} {n a m b : Nat} (hm : b = m + 1) (h : Pre k f n a m b) : ∃ s, a ≤ s ∧ s ≤ m ∧
    (∀ c, a ≤ c → c < s → ¬ k (f c) < k (f m)) ∧ (∀ c, s ≤ c → c < m → k (f c) < k (f m)) ∧ Good k f (mvL f m s) a b := by
  subst hm; exact mergeB h
end Go.Proofs.Ytbncoeoamjcjjaa
end

section
set_option linter.unusedVariables false
set_option linter.unusedSimpArgs false
namespace Go.Proofs.Ytbncoeoamjcjjaa
open Go Go.AI Go.Proofs

theorem good_trans {k : Int → Int} {f g g' : Nat → Int} {a i b : Nat} (hi : i ≤ b) (h : Good k f g a i) (h' : Good k g g' a b) : Good k f g' a b := by
  refine ⟨fun x hx => ?_, fun x h1 h2 => ?_, h'.srt⟩
  · rw [h'.out x hx, h.out x (by omega)]
  · obtain ⟨y, j1, j2, j3⟩ := h'.val x h1 h2
    by_cases e : y < i
    · obtain ⟨z, l1, l2, l3⟩ := h.val y j1 e
      exact ⟨z, l1, by omega, by rw [j3, l3]⟩
    · exact ⟨y, j1, j2, by rw [j3, h.out y (by omega)]⟩
structure Spot (k : Int → Int) (g : Nat → Int) (a i s : Nat) : Prop where
  lo : a ≤ s
  hi : s ≤ i
  no : ∀ c, a ≤ c → c < s → ¬ k (g c) < k (g i)
  yes : ∀ c, s ≤ c → c < i → k (g c) < k (g i)
  good : Good k g (mvL g i s) a (i + 1)
open Classical in
noncomputable def insSeq (k : Int → Int) (a : Nat) (f : Nat → Int) : Nat → Nat → Int
  | 0 => f
  | i + 1 => if h : a < i ∧ ∃ s, Spot k (insSeq k a f i) a i s then mvL (insSeq k a f i) i (Classical.choose h.2) else insSeq k a f i
theorem insSeq_low (k : Int → Int) (a : Nat) (f : Nat → Int) : ∀ i, i ≤ a + 1 → insSeq k a f i = f
  | 0, _ => rfl
  | i + 1, h => by
    rw [insSeq, dif_neg (by intro c; omega)]
    exact insSeq_low k a f i (by omega)
structure Up (f : Nat → Int) (n a b : Nat) : Prop where
  bn : b ≤ n
  up : ∀ x y, a ≤ x → x < y → y < b → f x < f y
  rng : ∀ x, a ≤ x → x < b → 0 ≤ f x ∧ f x < n
theorem insSeq_spot {k : Int → Int} {f : Nat → Int} {n a b : Nat} (u : Up f n a b) (i : Nat) (h1 : a < i) (h2 : i < b) (hg : Good k f (insSeq k a f i) a i) :
    ∃ s, Spot k (insSeq k a f i) a i s ∧ insSeq k a f (i + 1) = mvL (insSeq k a f i) i s := by
  have hp : Pre k (insSeq k a f i) n a i (i + 1) := by
    refine ⟨h1, Nat.lt_succ_self _, by have := u.bn; omega, hg.srt, fun x y i1 i2 i3 => by omega, fun x y i1 i2 i3 i4 => ?_, fun x i1 i2 => ?_⟩
    · obtain ⟨z, j1, j2, j3⟩ := hg.val x i1 i2
      rw [j3, hg.out y (by omega)]
      exact u.up z y j1 (by omega) (by omega)
    · by_cases e : x < i
      · obtain ⟨z, j1, j2, j3⟩ := hg.val x i1 e
        rw [j3]; exact u.rng z j1 (by omega)
      · rw [hg.out x (by omega)]; exact u.rng x i1 (by omega)
  obtain ⟨s, s1, s2, s3, s4, s5⟩ := mergeB hp
  have hx : a < i ∧ ∃ s, Spot k (insSeq k a f i) a i s := ⟨h1, s, ⟨s1, s2, s3, s4, s5⟩⟩
  refine ⟨Classical.choose hx.2, Classical.choose_spec hx.2, ?_⟩
  rw [insSeq, dif_pos hx]
theorem insSeq_good {k : Int → Int} {f : Nat → Int} {n a b : Nat} (u : Up f n a b) : ∀ i, a < i → i ≤ b → Good k f (insSeq k a f i) a i
  | 0, h1, _ => by omega
  | i + 1, h1, h2 => by
    by_cases e : i = a
    · rw [insSeq_low k a f (i + 1) (by omega)]
      exact good_refl (fun x y i1 i2 i3 => by omega)
    · have hg := insSeq_good (k := k) u i (by omega) (by omega)
      obtain ⟨s, hs, he⟩ := insSeq_spot u i (by omega) (by omega) hg
      rw [he]
      exact good_trans (by omega) hg hs.good
def Blk (k : Int → Int) (g : Nat → Int) (lo hi : Nat) : Prop := Srt k g lo hi ∧ ∀ x, lo ≤ x → x < hi → (lo : Int) ≤ g x ∧ g x < hi
theorem Blk.same {k : Int → Int} {g g' : Nat → Int} {lo hi : Nat} (h : Blk k g lo hi) (e : ∀ x, lo ≤ x → x < hi → g' x = g x) : Blk k g' lo hi :=
  ⟨fun x y i1 i2 i3 => by rw [e x i1 (by omega), e y (by omega) i3]; exact h.1 x y i1 i2 i3, fun x i1 i2 => by rw [e x i1 i2]; exact h.2 x i1 i2⟩
def idF : Nat → Int := fun x => x
noncomputable def blkSeq (k : Int → Int) : Nat → Nat → Int
  | 0 => idF
  | t + 1 => insSeq k (20 * t) (blkSeq k t) (20 * t + 20)
theorem up_id {f : Nat → Int} {n a b : Nat} (hb : b ≤ n) (h : ∀ x, a ≤ x → f x = x) : Up f n a b :=
  ⟨hb, fun x y i1 i2 i3 => by rw [h x i1, h y (by omega)]; omega, fun x i1 i2 => by rw [h x i1]; omega⟩
theorem ins_blk {k : Int → Int} {f : Nat → Int} {n a b : Nat} (hab : a < b) (hb : b ≤ n) (h : ∀ x, a ≤ x → f x = x) : Blk k (insSeq k a f b) a b := by
  have hg := insSeq_good (k := k) (up_id hb h) b hab (Nat.le_refl _)
  refine ⟨hg.srt, fun x i1 i2 => ?_⟩
  obtain ⟨y, j1, j2, j3⟩ := hg.val x i1 i2
  rw [j3, h y j1]; omega
theorem blk_inv (k : Int → Int) (n : Nat) : ∀ t, 20 * t ≤ n → (∀ x, 20 * t ≤ x → blkSeq k t x = x) ∧ ∀ c, c < t → Blk k (blkSeq k t) (20 * c) (20 * c + 20)
  | 0, _ => ⟨fun _ _ => rfl, fun c h => by omega⟩
  | t + 1, h => by
    obtain ⟨h1, h2⟩ := blk_inv k n t (by omega)
    have hg := insSeq_good (k := k) (up_id (b := 20 * t + 20) (n := n) (by omega) h1) (20 * t + 20) (by omega) (Nat.le_refl _)
    refine ⟨fun x hx => ?_, fun c hc => ?_⟩
    · rw [blkSeq, hg.out x (by omega), h1 x (by omega)]
    · by_cases e : c = t
      · rw [e, blkSeq]; exact ins_blk (n := n) (by omega) (by omega) h1
      · exact (h2 c (by omega)).same fun x i1 i2 => by rw [blkSeq, hg.out x (by omega)]
def AllB (k : Int → Int) (g : Nat → Int) (n w : Nat) : Prop := ∀ c, c * w < n → Blk k g (c * w) (min (c * w + w) n)
noncomputable def baseF (k : Int → Int) (n : Nat) : Nat → Int := insSeq k (20 * (n / 20)) (blkSeq k (n / 20)) n
theorem base_all (k : Int → Int) (n : Nat) : AllB k (baseF k n) n 20 := by
  intro c hc
  obtain ⟨h1, h2⟩ := blk_inv k n (n / 20) (by omega)
  have hT : 20 * (n / 20) ≤ n := by omega
  unfold baseF
  by_cases hl : 20 * (n / 20) < n
  · have hg := insSeq_good (k := k) (up_id (b := n) (n := n) (Nat.le_refl _) h1) n hl (Nat.le_refl _)
    by_cases e : c < n / 20
    · rw [show min (c * 20 + 20) n = 20 * c + 20 by omega, show c * 20 = 20 * c by omega]
      exact (h2 c e).same fun x i1 i2 => hg.out x (by omega)
    · rw [show min (c * 20 + 20) n = n by omega, show c * 20 = 20 * (n / 20) by omega]
      exact ins_blk hl (Nat.le_refl _) h1
  · rw [insSeq_low k _ _ n (by omega), show min (c * 20 + 20) n = 20 * c + 20 by omega, show c * 20 = 20 * c by omega]
    exact h2 c (by omega)
open Classical in
theorem pre_blk {k : Int → Int} {f : Nat → Int} {n a m b : Nat} (am : a < m) (mb : m < b) (bn : b ≤ n) (h1 : Blk k f a m) (h2 : Blk k f m b) : Pre k f n a m b := by
  refine ⟨am, mb, bn, h1.1, h2.1, fun x y i1 i2 i3 i4 => ?_, fun x i1 i2 => ?_⟩
  · have := h1.2 x i1 i2; have := h2.2 y i3 i4; omega
  · by_cases e : x < m
    · have := h1.2 x i1 e; omega
    · have := h2.2 x (by omega) i2; omega
theorem blk_merge {k : Int → Int} {f g : Nat → Int} {a m b : Nat} (am : a < m) (mb : m < b) (h1 : Blk k f a m) (h2 : Blk k f m b) (hg : Good k f g a b) : Blk k g a b := by
  refine ⟨hg.srt, fun x i1 i2 => ?_⟩
  obtain ⟨y, j1, j2, j3⟩ := hg.val x i1 i2
  rw [j3]
  by_cases e : y < m
  · have := h1.2 y j1 e; omega
  · have := h2.2 y (by omega) j2; omega
theorem two_mul (t w : Nat) : (2 * t) * w = t * (2 * w) ∧ (2 * t + 1) * w = t * (2 * w) + w ∧ (t + 1) * (2 * w) = t * (2 * w) + 2 * w := by
  have e : (2 * t) * w = t * (2 * w) := by rw [Nat.mul_comm 2 t, Nat.mul_assoc]
  exact ⟨e, by rw [Nat.add_mul, e, Nat.one_mul], by rw [Nat.add_mul, Nat.one_mul]⟩
theorem lt_mul {c t w : Nat} (h : c < t) : c * (2 * w) + 2 * w ≤ t * (2 * w) := by
  have := Nat.mul_le_mul_right (2 * w) (show c + 1 ≤ t from h)
  rw [(two_mul c w).2.2] at this; exact this
theorem halves {k : Int → Int} {f : Nat → Int} {n w t : Nat} (hall : AllB k f n w) (hl : t * (2 * w) + w < n) :
    Blk k f (t * (2 * w)) (t * (2 * w) + w) ∧ Blk k f (t * (2 * w) + w) (min (t * (2 * w) + 2 * w) n) := by
  obtain ⟨e1, e2, e3⟩ := two_mul t w
  have a1 := hall (2 * t) (by rw [e1]; omega)
  have a2 := hall (2 * t + 1) (by rw [e2]; omega)
  rw [e1] at a1; rw [e2] at a2
  rw [show min (t * (2 * w) + w) n = t * (2 * w) + w by omega] at a1
  rw [show t * (2 * w) + w + w = t * (2 * w) + 2 * w by omega] at a2
  exact ⟨a1, a2⟩
theorem div_at (n w : Nat) (hw : 1 ≤ w) : n / (2 * w) * (2 * w) ≤ n ∧ n < n / (2 * w) * (2 * w) + 2 * w := by
  have h1 := Nat.div_mul_le_self n (2 * w)
  have h2 := Nat.lt_div_mul_add (a := n) (b := 2 * w) (by omega)
  exact ⟨h1, h2⟩
theorem pow_step (q : Nat) : 20 * 2 ^ (q + 1) = 2 * (20 * 2 ^ q) ∧ 1 ≤ 20 * 2 ^ q := by
  have := Nat.one_le_two_pow (n := q)
  exact ⟨by rw [Nat.pow_succ]; omega, by omega⟩
theorem least_round (n : Nat) : ∃ r, n ≤ 20 * 2 ^ r ∧ ∀ q, q < r → 20 * 2 ^ q < n := by
  have go : ∀ m, (∃ r, n ≤ 20 * 2 ^ r ∧ ∀ q, q < r → 20 * 2 ^ q < n) ∨ ∀ q, q < m → 20 * 2 ^ q < n := by
    intro m
    induction m with
    | zero => exact Or.inr fun q h => by omega
    | succ m ih =>
      rcases ih with h | h
      · exact Or.inl h
      · by_cases e : n ≤ 20 * 2 ^ m
        · exact Or.inl ⟨m, e, h⟩
        · refine Or.inr fun q hq => ?_
          by_cases e2 : q = m
          · rw [e2]; omega
          · exact h q (by omega)
  rcases go (n + 1) with h | h
  · exact h
  · have := h n (by omega)
    have := Nat.lt_two_pow_self (n := n)
    omega
end Go.Proofs.Ytbncoeoamjcjjaa
end

section
set_option linter.unusedVariables false
set_option linter.unusedSimpArgs false
namespace Go.Proofs.Ytbncoeoamjcjjaa
open Go Go.AI Go.Proofs

/-- actions of a list, in an order -/
def roB (L : List Action) (f : Nat → Int) (n : Nat) : List Action := (List.range n).map fun i => nth L (f i).toNat
def roA (L : List Action) (f : Nat → Int) (n : Nat) : List AV := actL (roB L f n)
theorem roB_len (L : List Action) (f : Nat → Int) (n : Nat) : (roB L f n).length = n := by simp [roB]
@[simp] theorem roA_len (L : List Action) (f : Nat → Int) (n : Nat) : (roA L f n).length = n * 11 := by simp [roA, roB_len]
@[simp] theorem roA_cl (L : List Action) (f : Nat → Int) (n : Nat) : ClL (roA L f n) = true := by simp [roA]
theorem roB_nth (L : List Action) (f : Nat → Int) (n i : Nat) (h : i < n) : nth (roB L f n) i = nth L (f i).toNat := by
  rw [nth_eq (by rw [roB_len]; exact h)]; simp [roB]
theorem roA_sub (L : List Action) (f : Nat → Int) (n i : Nat) (h : i < n) : ((roA L f n).drop (i * 11)).take 11 = (nth L (f i).toNat).enc := by
  unfold roA; rw [act_sub _ _ (by rw [roB_len]; exact h), roB_nth L f n i h]
theorem actL_set (l : List Action) (i : Nat) (x : Action) (h : i < l.length) : (actL l).take (i * 11) ++ (x.enc ++ (actL l).drop (i * 11 + 11)) = actL (l.set i x) := by
  rw [List.set_eq_take_append_cons_drop, if_pos h]
  have h1 : (actL l).take (i * 11) = actL (l.take i) := by
    conv => lhs; rw [← List.take_append_drop i l, actL_app]
    rw [List.take_append_of_le_length (by simp; omega), List.take_of_length_le (by simp; omega)]
  have h2 : (actL l).drop (i * 11 + 11) = actL (l.drop (i + 1)) := by
    conv => lhs; rw [← List.take_append_drop (i + 1) l, actL_app]
    have : (actL (l.take (i + 1))).length = i * 11 + 11 := by simp; omega
    rw [← this, List.drop_left]
  rw [h1, h2, actL_app]
  congr 1
theorem roA_set (L : List Action) (f : Nat → Int) (n i : Nat) (v : Int) (h : i < n) : (roA L f n).take (i * 11) ++ ((nth L v.toNat).enc ++ (roA L f n).drop (i * 11 + 11)) = roA L (setF f i v) n := by
  unfold roA
  rw [actL_set _ _ _ (by rw [roB_len]; exact h)]
  congr 1
  apply List.ext_getElem?
  intro j
  simp only [roB, List.getElem?_set, List.getElem?_map, List.length_map, List.length_range]
  by_cases hj : i = j
  · subst hj; simp [h, List.getElem?_range h, setF]
  · by_cases hjn : j < n
    · have hj2 : ¬ j = i := fun e => hj e.symm
      simp [hj, List.getElem?_range hjn, setF, hj2]
    · simp [hj, List.getElem?_eq_none, hjn]
/-- what compares two actions of a list, by a key -/
structure CmpA (L : List Action) (r : Int → Int → Int) (fid : Nat) (caps : List AV) (k : Int → Int) (n : Nat) : Prop where
  c : ∀ x y : Int, (0 ≤ x ∧ x < n) → (0 ≤ y ∧ y < n) → FnP Try.prog fid (.agg (nth L x.toNat).enc :: .agg (nth L y.toNat).enc :: caps) (.int .i64 (r x y))
  neg : ∀ x y : Int, decide (r x y < 0) = decide (k y < k x)
set_option maxHeartbeats 2000000 in
theorem swapA_c (L : List Action) (cp : Int → Int → Int) (fid : Nat) (caps : List AV) (n : Nat) (f : Nat → Int) (a b m : Nat) (hcl : ClL caps = true) (hn : n ≤ 1000000) (h1 : a + m ≤ b) (h2 : b + m ≤ n) :
    FnB Try.prog 228 [.msl 0 0 n, .int .i64 a, .int .i64 b, .int .i64 m, .fn fid caps] (.buf 11 (roA L f n)) (.tup []) (.buf 11 (roA L (swF f a b m) n)) := by
  have e0 := swF_zero f a b
  refine FnB.intro Try.func228 rfl rfl fun G w l => ?_
  repeat (first | refine WK.seq ?_ | refine WK.block ?_ | refine WK.inBlock ?_ | refine WK.skip ?_ | refine WK.label ?_ | refine WK.scope ?_ | refine WK.inScope ?_ | refine WK.exit rfl ?_)
  first | refine WK.reg 100 Try.ntmps228 (by kernel_rfl) ?_ | refine WK.regD 100 clsOf (by kernel_rfl) Try.ntmps228 (by kernel_rfl) (by kernel_rfl) ?_
  intro A hA Q hQ
  simp
  refine hQ _ _ ?_
  clear hQ hA
  repeat (first | refine WK.seq ?_ | refine WK.block ?_ | refine WK.inBlock ?_ | refine WK.skip ?_ | refine WK.label ?_ | refine WK.scope ?_ | refine WK.inScope ?_ | refine WK.exit rfl ?_)
  refine WK.loopI (fun n => n) (fun i : Nat => (⟨(upd (upd (upd (upd (upd (upd J 0 (.msl 0 0 n)) 1 (.int .i64 a)) 2 (.int .i64 b)) 3 (.int .i64 m)) 4 (.fn fid caps)) 10 (.int .i64 i)), (upd B0 0 (.buf 11 (roA L (swF f a b i) n))), 0⟩ : St)) (fun i => i ≤ m) (fun i => m - i) (0) (by repeat (first | exact TmW.nil | refine TmW.upd ?_ (by simp (maxDischargeDepth := 120) [hcl, e0]))) (by repeat (first | exact BxW.nil | refine BxW.upd ?_ (by simp (maxDischargeDepth := 120) [hcl, e0]))) (by first | exact InjW.id | exact InjW.nil | exact InjW.one | exact InjW.two (by simp) | exact InjW.three (by simp) (by simp) (by simp)) (by omega) (fun i hi IH => ?_)
  repeat (first | refine WK.seq ?_ | refine WK.block ?_ | refine WK.inBlock ?_ | refine WK.skip ?_ | refine WK.label ?_ | refine WK.scope ?_ | refine WK.inScope ?_ | refine WK.exit rfl ?_)
  first | refine WK.reg 200 Try.ntmps228 (by kernel_rfl) ?_ | refine WK.regD 200 clsOf (by kernel_rfl) Try.ntmps228 (by kernel_rfl) (by kernel_rfl) ?_
  intro A hA Q hQ
  simp
  refine hQ _ _ ?_
  clear hQ hA
  repeat (first | refine WK.seq ?_ | refine WK.block ?_ | refine WK.inBlock ?_ | refine WK.skip ?_ | refine WK.label ?_ | refine WK.scope ?_ | refine WK.inScope ?_ | refine WK.exit rfl ?_)
  refine WK.cond2 rfl (fun h => ?_) (fun h => ?_)
  · simp at h
    have hi : i < m := by omega
    have w1 : IntKind.i64.wrap ((i : Int) + 1) = i + 1 := wrap_i64 (by omega) (by omega)
    have w2 : IntKind.i64.wrap ((a : Int) + i) = (a + i : Nat) := by rw [wrap_i64 (by omega) (by omega)]; omega
    have w3 : IntKind.i64.wrap ((b : Int) + i) = (b + i : Nat) := by rw [wrap_i64 (by omega) (by omega)]; omega
    have l1 : a + i < n := by omega
    have l2 : b + i < n := by omega
    have g1 := roA_sub L (swF f a b i) n (a + i) l1
    have Bg1 : (a + i) * 11 + 11 ≤ n * 11 := by omega
    have g2 := roA_sub L (swF f a b i) n (b + i) l2
    have Bg2 : (b + i) * 11 + 11 ≤ n * 11 := by omega
    have s1 := roA_set L (swF f a b i) n (a + i) (swF f a b i (b + i)) l1
    have s2 := roA_set L (setF (swF f a b i) (a + i) (swF f a b i (b + i))) n (b + i) (swF f a b i (a + i)) l2
    have e1 := swF_succ f a b i (by omega)
    have l3 : a + i + 1 ≤ n := by omega
    have c1 : (0 : Int) ≤ (a : Int) + i := by omega
    have c2 : (a : Int) + i < n := by omega
    have c3 : ((a : Int) + i).toNat = a + i := by omega
    have c4 : (0 : Int) ≤ (b : Int) + i := by omega
    have c5 : (b : Int) + i < n := by omega
    have c6 : ((b : Int) + i).toNat = b + i := by omega
    have l4 : b + i + 1 ≤ n := by omega
    repeat (first | refine WK.seq ?_ | refine WK.block ?_ | refine WK.inBlock ?_ | refine WK.skip ?_ | refine WK.label ?_ | refine WK.scope ?_ | refine WK.inScope ?_ | refine WK.exit rfl ?_)
    first | refine WK.reg 300 Try.ntmps228 (by kernel_rfl) ?_ | refine WK.regD 300 (clsM [(29, 0), (35, 0), (36, 0), (37, 0)]) (by kernel_rfl) Try.ntmps228 (by kernel_rfl) (by kernel_rfl) ?_
    intro A hA Q hQ
    simp [w2, w3, g1, g2, l1, l2, l3, l4, s1, s2, e1, c1, c2, c3, c4, c5, c6, Bg1, Bg2]
    refine hQ _ _ ?_
    clear hQ hA
    repeat (first | refine WK.seq ?_ | refine WK.block ?_ | refine WK.inBlock ?_ | refine WK.skip ?_ | refine WK.label ?_ | refine WK.scope ?_ | refine WK.inScope ?_ | refine WK.exit rfl ?_)
    first | refine WK.reg 400 Try.ntmps228 (by kernel_rfl) ?_ | refine WK.regD 400 clsOf (by kernel_rfl) Try.ntmps228 (by kernel_rfl) (by kernel_rfl) ?_
    intro A hA Q hQ
    simp [w1]
    refine hQ _ _ ?_
    clear hQ hA
    repeat (first | refine WK.seq ?_ | refine WK.block ?_ | refine WK.inBlock ?_ | refine WK.skip ?_ | refine WK.label ?_ | refine WK.scope ?_ | refine WK.inScope ?_ | refine WK.exit rfl ?_)
    refine WK.next (fun n => n) (IH (i + 1) (by omega) (by first | omega | (dsimp only; omega))) (by repeat (first | exact TmW.nil | refine TmW.upd ?_ (by simp (maxDischargeDepth := 120) [hcl, e1, w1]))) (by repeat (first | exact BxW.nil | refine BxW.upd ?_ (by simp (maxDischargeDepth := 120) [hcl, e1, w1]))) (by first | exact InjW.id | exact InjW.nil | exact InjW.one | exact InjW.two (by simp) | exact InjW.three (by simp) (by simp) (by simp))
  · simp at h
    have hi : i = m := by omega
    subst hi
    repeat (first | refine WK.seq ?_ | refine WK.block ?_ | refine WK.inBlock ?_ | refine WK.skip ?_ | refine WK.label ?_ | refine WK.scope ?_ | refine WK.inScope ?_ | refine WK.exit rfl ?_)
    refine WK.retB Try.func228 (by simp (maxDischargeDepth := 120) [Try.results228]) (by simp) rfl (.inl rfl)
end Go.Proofs.Ytbncoeoamjcjjaa
end
