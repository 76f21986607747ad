/- Sorting in place, for at most twenty numbers: each is put behind those that are not less than it. -/
import Derived.Test.YtfgmjnmkcobhkaaW18
import Derived.Test.YtfgmjnmkcobhkaaAe
set_option linter.all false
set_option linter.unnecessarySimpa false
set_option linter.unusedVariables false
set_option linter.unusedSimpArgs false
namespace Go.Proofs.Ytfgmjnmkcobhkaa
open Go Go.AI Go.Proofs

/-- from the right, the place behind the first one that is not less -/
def posR (k : Int → Int) (x : Int) (p : List Int) : Nat → Nat
  | 0 => 0
  | j + 1 => if k (nth p j) < k x then posR k x p j else j + 1
theorem posR_le (k : Int → Int) (x : Int) (p : List Int) : ∀ j, posR k x p j ≤ j
  | 0 => Nat.le_refl _
  | j + 1 => by simp only [posR]; split; exact Nat.le_succ_of_le (posR_le k x p j); exact Nat.le_refl _
def insR (k : Int → Int) (x : Int) (p : List Int) : List Int := p.take (posR k x p p.length) ++ x :: p.drop (posR k x p p.length)
def ordN (k : Int → Int) : Nat → List Int
  | 0 => []
  | n + 1 => insR k n (ordN k n)
theorem ordN_len (k : Int → Int) : ∀ n, (ordN k n).length = n
  | 0 => rfl
  | n + 1 => by
    have h := posR_le k n (ordN k n) (ordN k n).length
    simp only [ordN, insR, List.length_append, List.length_take, List.length_cons, List.length_drop]
    rw [ordN_len k n] at h ⊢
    omega
theorem ordN_mem (k : Int → Int) : ∀ n x, x ∈ ordN k n → 0 ≤ x ∧ x < n
  | 0, x, h => by cases h
  | n + 1, x, h => by
    simp only [ordN, insR, List.mem_append, List.mem_cons] at h
    rcases h with h | h | h
    · have := ordN_mem k n x (List.mem_of_mem_take h); omega
    · omega
    · have := ordN_mem k n x (List.mem_of_mem_drop h); omega
/-- the numbers from `i` up to `n` -/
def upFrom (i n : Nat) : List Int := (List.range' i (n - i)).map fun j : Nat => (j : Int)
theorem upFrom_cons {i n : Nat} (h : i < n) : upFrom i n = (i : Int) :: upFrom (i + 1) n := by
  unfold upFrom
  rw [show n - i = (n - (i + 1)) + 1 by omega, List.range'_succ]; rfl
theorem upFrom_nil {i n : Nat} (h : n ≤ i) : upFrom i n = [] := by unfold upFrom; rw [show n - i = 0 by omega]; rfl
theorem upFrom_snoc (n : Nat) : upFrom 0 n ++ [(n : Int)] = upFrom 0 (n + 1) := by
  unfold upFrom
  simp [List.range'_concat]
theorem upFrom_len (i n : Nat) : (upFrom i n).length = n - i := by simp [upFrom]
/-- how the row lies while `x` is moved to the left -/
def rowAt (p : List Int) (x : Int) (rest : List Int) (j : Nat) : List Int := p.take j ++ x :: (p.drop j ++ rest)
theorem rowAt_len (p : List Int) (x : Int) (rest : List Int) (j : Nat) (h : j ≤ p.length) : (rowAt p x rest j).length = p.length + 1 + rest.length := by
  simp [rowAt]; omega
theorem rowAt_nth (p : List Int) (x : Int) (rest : List Int) (j : Nat) (h : j ≤ p.length) : nth (rowAt p x rest j) j = x := by
  unfold nth rowAt
  rw [List.getD_eq_getElem?_getD, List.getElem?_append_right (by simp; omega)]
  have : j - (p.take j).length = 0 := by simp; omega
  rw [this]; rfl
theorem rowAt_nth1 (p : List Int) (x : Int) (rest : List Int) (j : Nat) (h : j < p.length) : nth (rowAt p x rest (j + 1)) j = nth p j := by
  unfold nth rowAt
  rw [List.getD_eq_getElem?_getD, List.getD_eq_getElem?_getD, List.getElem?_append_left (by simp; omega), List.getElem?_take]
  simp
theorem rowAt_swap (p : List Int) (x : Int) (rest : List Int) (j : Nat) (h : j < p.length) : ((rowAt p x rest (j + 1)).set (j + 1) (nth p j)).set j x = rowAt p x rest j := by
  unfold rowAt
  have e1 : p.take (j + 1) = p.take j ++ [nth p j] := take_nth h
  have e2 : p.drop j = nth p j :: p.drop (j + 1) := by rw [List.drop_eq_getElem_cons h, nth_eq h]
  have hl : (p.take j).length = j := by simp; omega
  rw [e1, e2]
  have s1 : ((p.take j ++ [nth p j] ++ x :: (p.drop (j + 1) ++ rest)).set (j + 1) (nth p j)) = p.take j ++ [nth p j] ++ nth p j :: (p.drop (j + 1) ++ rest) := by
    rw [List.set_append_right _ _ (by simp; omega)]
    have : j + 1 - (p.take j ++ [nth p j]).length = 0 := by simp; omega
    rw [this]; rfl
  rw [s1, List.append_assoc, List.set_append_right _ _ (by omega)]
  have : j - (p.take j).length = 0 := by omega
  rw [this]; rfl
theorem rowAt_full (p : List Int) (i : Nat) (n : Nat) (h : i < n) (hp : p.length = i) : rowAt p i (upFrom (i + 1) n) i = p ++ upFrom i n := by
  unfold rowAt
  rw [List.take_of_length_le (by omega), List.drop_of_length_le (by omega), upFrom_cons h]; rfl
theorem int_set (L : List Int) (i : Nat) (v : Int) (h : i < L.length) : (intL L).take i ++ .int .i64 v :: (intL L).drop (i + 1) = intL (L.set i v) := by
  unfold intL
  rw [List.map_set, List.set_eq_take_append_cons_drop]
  simp [h]
/-- what a comparing by keys answers: the greater key first -/
def cmpK (k : Int → Int) (x y : Int) : Int := if k x > k y then -1 else if k x < k y then 1 else 0
theorem cmpK_neg (k : Int → Int) (x y : Int) : decide (cmpK k x y < 0) = decide (k y < k x) := by
  unfold cmpK
  by_cases h : k x > k y
  · simp [h]
  · by_cases h2 : k x < k y <;> simp [h, h2]
theorem w64_1 : IntKind.i64.wrap 1 = 1 := rfl
set_option maxHeartbeats 2000000 in
theorem insSort_c (fid : Nat) (caps : List AV) (k : Int → Int) (n : Nat) (hcl : ClL caps = true) (hn : n ≤ 1000000)
    (hf : ∀ x y : Int, (0 ≤ x ∧ x < n) → (0 ≤ y ∧ y < n) → FnP Try.prog fid (.int .i64 x :: .int .i64 y :: caps) (.int .i64 (cmpK k x y))) :
    FnB Try.prog 147 [.msl 0 0 n, .int .i64 0, .int .i64 n, .fn fid caps] (.buf 1 (intL (upFrom 0 n))) (.tup []) (.buf 1 (intL (ordN k n))) := by
  have e0 : upFrom 0 n = ordN k (min 1 n) ++ upFrom 1 n := by
    by_cases h : n = 0
    · subst h; rfl
    · rw [show min 1 n = 1 by omega, upFrom_cons (show 0 < n by omega)]; rfl
  refine FnB.intro Try.func147 rfl rfl fun G w l => ?_
  repeat (first | refine WK.seq ?_ | refine WK.block ?_ | refine WK.inBlock ?_ | refine WK.skip ?_ | refine WK.label ?_ | refine WK.scope ?_ | refine WK.inScope ?_ | refine WK.exit rfl ?_)
  first | refine WK.reg 100 Try.ntmps147 (by kernel_rfl) ?_ | refine WK.regD 100 clsOf (by kernel_rfl) Try.ntmps147 (by kernel_rfl) (by kernel_rfl) ?_
  intro A hA Q hQ
  simp [w64_1]
  refine hQ _ _ ?_
  clear hQ hA
  repeat (first | refine WK.seq ?_ | refine WK.block ?_ | refine WK.inBlock ?_ | refine WK.skip ?_ | refine WK.label ?_ | refine WK.scope ?_ | refine WK.inScope ?_ | refine WK.exit rfl ?_)
  refine WK.loopI (fun n => n) (fun i : Nat => (⟨(upd (upd (upd (upd (upd J 0 (.msl 0 0 n)) 1 (.int .i64 0)) 2 (.int .i64 n)) 3 (.fn fid caps)) 8 (.int .i64 i)), (upd B0 0 (.buf 1 (intL (ordN k (min i n) ++ upFrom i n)))), 0⟩ : St)) (fun i => 1 ≤ i ∧ i ≤ n + 1) (fun i => n + 1 - i) (1) (by repeat (first | exact TmW.nil | refine TmW.upd ?_ (by simp (maxDischargeDepth := 120) [hcl, e0]))) (by repeat (first | exact BxW.nil | refine BxW.upd ?_ (by simp (maxDischargeDepth := 120) [hcl, e0]))) (by first | exact InjW.id | exact InjW.nil | exact InjW.one | exact InjW.two (by simp) | exact InjW.three (by simp) (by simp) (by simp)) (⟨by omega, by omega⟩) (fun i hi IH => ?_)
  repeat (first | refine WK.seq ?_ | refine WK.block ?_ | refine WK.inBlock ?_ | refine WK.skip ?_ | refine WK.label ?_ | refine WK.scope ?_ | refine WK.inScope ?_ | refine WK.exit rfl ?_)
  first | refine WK.reg 200 Try.ntmps147 (by kernel_rfl) ?_ | refine WK.regD 200 clsOf (by kernel_rfl) Try.ntmps147 (by kernel_rfl) (by kernel_rfl) ?_
  intro A hA Q hQ
  simp
  refine hQ _ _ ?_
  clear hQ hA
  repeat (first | refine WK.seq ?_ | refine WK.block ?_ | refine WK.inBlock ?_ | refine WK.skip ?_ | refine WK.label ?_ | refine WK.scope ?_ | refine WK.inScope ?_ | refine WK.exit rfl ?_)
  refine WK.cond2 rfl (fun h1 => ?_) (fun h1 => ?_)
  · simp at h1
    have h2 : i < n := by omega
    have h6 : IntKind.i64.wrap ((i : Int) + 1) = i + 1 := wrap_i64 (by omega) (by omega)
    have hp : (ordN k i).length = i := ordN_len k i
    have hmin : min i n = i := by omega
    have e1 := rowAt_full (ordN k i) i n h2 hp
    have hr : (upFrom (i + 1) n).length = n - (i + 1) := upFrom_len _ _
    repeat (first | refine WK.seq ?_ | refine WK.block ?_ | refine WK.inBlock ?_ | refine WK.skip ?_ | refine WK.label ?_ | refine WK.scope ?_ | refine WK.inScope ?_ | refine WK.exit rfl ?_)
    first | refine WK.reg 300 Try.ntmps147 (by kernel_rfl) ?_ | refine WK.regD 300 clsOf (by kernel_rfl) Try.ntmps147 (by kernel_rfl) (by kernel_rfl) ?_
    intro A hA Q hQ
    simp
    refine hQ _ _ ?_
    clear hQ hA
    repeat (first | refine WK.seq ?_ | refine WK.block ?_ | refine WK.inBlock ?_ | refine WK.skip ?_ | refine WK.label ?_ | refine WK.scope ?_ | refine WK.inScope ?_ | refine WK.exit rfl ?_)
    refine WK.loopI (fun n => n) (fun j : Nat => (⟨(upd (upd (upd (upd (upd (upd J 0 (.msl 0 0 n)) 1 (.int .i64 0)) 2 (.int .i64 n)) 3 (.fn fid caps)) 8 (.int .i64 i)) 9 (.int .i64 j)), (upd B0 0 (.buf 1 (intL (rowAt (ordN k i) i (upFrom (i + 1) n) j)))), 0⟩ : St)) (fun j => j ≤ i ∧ posR k i (ordN k i) i = posR k i (ordN k i) j) (fun j => j) (i) (by repeat (first | exact TmW.nil | refine TmW.upd ?_ (by simp (maxDischargeDepth := 120) [hcl, hmin, e1]))) (by repeat (first | exact BxW.nil | refine BxW.upd ?_ (by simp (maxDischargeDepth := 120) [hcl, hmin, e1]))) (by first | exact InjW.id | exact InjW.nil | exact InjW.one | exact InjW.two (by simp) | exact InjW.three (by simp) (by simp) (by simp)) (⟨by omega, rfl⟩) (fun j hj IHj => ?_)
    have out : posR k i (ordN k i) j = j → rowAt (ordN k i) i (upFrom (i + 1) n) j = ordN k (min (i + 1) n) ++ upFrom (i + 1) n := by
      intro h
      rw [show min (i + 1) n = i + 1 by omega]
      simp only [ordN, insR, hp]
      rw [hj.2, h]
      simp [rowAt]
    by_cases hj0 : j = 0
    · subst hj0
      have e2 := out rfl
      repeat (first | refine WK.seq ?_ | refine WK.block ?_ | refine WK.inBlock ?_ | refine WK.skip ?_ | refine WK.label ?_ | refine WK.scope ?_ | refine WK.inScope ?_ | refine WK.exit rfl ?_)
      first | refine WK.reg 400 Try.ntmps147 (by kernel_rfl) ?_ | refine WK.regD 400 clsOf (by kernel_rfl) Try.ntmps147 (by kernel_rfl) (by kernel_rfl) ?_
      intro A hA Q hQ
      have hg3 : (A[3]?).bind (·.dst) = some 21 := by rw [hA]; rfl
      simp [hg3]
      refine hQ _ _ ?_
      clear hQ hA
      repeat (first | refine WK.seq ?_ | refine WK.block ?_ | refine WK.inBlock ?_ | refine WK.skip ?_ | refine WK.label ?_ | refine WK.scope ?_ | refine WK.inScope ?_ | refine WK.exit rfl ?_)
      refine WK.cond2 rfl (fun h => ?_) (fun h => ?_)
      · cases h
      repeat (first | refine WK.seq ?_ | refine WK.block ?_ | refine WK.inBlock ?_ | refine WK.skip ?_ | refine WK.label ?_ | refine WK.scope ?_ | refine WK.inScope ?_ | refine WK.exit rfl ?_)
      first | refine WK.reg 500 Try.ntmps147 (by kernel_rfl) ?_ | refine WK.regD 500 clsOf (by kernel_rfl) Try.ntmps147 (by kernel_rfl) (by kernel_rfl) ?_
      intro A hA Q hQ
      simp [h6]
      refine hQ _ _ ?_
      clear hQ hA
      repeat (first | refine WK.seq ?_ | refine WK.block ?_ | refine WK.inBlock ?_ | refine WK.skip ?_ | refine WK.label ?_ | refine WK.scope ?_ | refine WK.inScope ?_ | refine WK.exit rfl ?_)
      refine WK.next (fun n => n) (IH (i + 1) (⟨by omega, by omega⟩) (by omega)) (by repeat (first | exact TmW.nil | refine TmW.upd ?_ (by simp (maxDischargeDepth := 120) [hcl, e2, h6]))) (by repeat (first | exact BxW.nil | refine BxW.upd ?_ (by simp (maxDischargeDepth := 120) [hcl, e2, h6]))) (by first | exact InjW.id | exact InjW.nil | exact InjW.one | exact InjW.two (by simp) | exact InjW.three (by simp) (by simp) (by simp))
    obtain ⟨q, rfl⟩ : ∃ q, j = q + 1 := ⟨j - 1, by omega⟩
    have hq : q < i := by omega
    have hql : q < (ordN k i).length := by rw [hp]; exact hq
    have hL := rowAt_len (ordN k i) i (upFrom (i + 1) n) (q + 1) (by rw [hp]; omega)
    have hL' : (rowAt (ordN k i) i (upFrom (i + 1) n) (q + 1)).length = n := by rw [hL, hp, hr]; omega
    have n1 := rowAt_nth (ordN k i) i (upFrom (i + 1) n) (q + 1) (by rw [hp]; omega)
    have n2 := rowAt_nth1 (ordN k i) i (upFrom (i + 1) n) q hql
    have g1 := int_sub (rowAt (ordN k i) i (upFrom (i + 1) n) (q + 1)) (q + 1) (by rw [hL']; omega)
    have g2 := int_sub (rowAt (ordN k i) i (upFrom (i + 1) n) (q + 1)) q (by rw [hL']; omega)
    have hm := ordN_mem k i _ (nth_mem hql)
    have w1 : IntKind.i64.wrap (q : Int) = q := wrap_i64 (by omega) (by omega)
    have b1 : q + 1 < n := by omega
    have b2 : q < n := by omega
    have b3 : (q : Int) + 1 < n := by omega
    have b4 : (0 : Int) ≤ (q : Int) + 1 := by omega
    have b5 : ((q : Int) + 1).toNat = q + 1 := by omega
    have b6 : (0 : Int) < (q : Int) + 1 := by omega
    have b7 : q + 1 + 1 ≤ n := by omega
    have b8 : q + 1 ≤ n := by omega
    have hc := cmpK_neg k i (nth (ordN k i) q)
    repeat (first | refine WK.seq ?_ | refine WK.block ?_ | refine WK.inBlock ?_ | refine WK.skip ?_ | refine WK.label ?_ | refine WK.scope ?_ | refine WK.inScope ?_ | refine WK.exit rfl ?_)
    first | refine WK.reg 600 Try.ntmps147 (by kernel_rfl) ?_ | refine WK.regD 600 (clsM [(25, 0), (30, 0)]) (by kernel_rfl) Try.ntmps147 (by kernel_rfl) (by kernel_rfl) ?_
    intro A hA Q hQ
    have hg3 : (A[3]?).bind (·.dst) = some 21 := by rw [hA]; rfl
    simp [g1, g2, n1, n2, hL', w1, b1, b2, b3, b4, b5, b6, hg3]
    refine RunQ.callG rfl rfl (by simp [hcl, hc, hg3]) rfl (by rfl) (by simp (maxDischargeDepth := 120) [hcl, hc, hg3]) (hf i (nth (ordN k i) q) ⟨by omega, by omega⟩ ⟨by omega, by omega⟩) (by simp [hcl, hc, hg3]) ?_
    refine RunQ.eval ?_
    simp [hcl, hc, hg3]
    refine hQ _ _ ?_
    clear hQ hA
    repeat (first | refine WK.seq ?_ | refine WK.block ?_ | refine WK.inBlock ?_ | refine WK.skip ?_ | refine WK.label ?_ | refine WK.scope ?_ | refine WK.inScope ?_ | refine WK.exit rfl ?_)
    refine WK.cond2 rfl (fun h => ?_) (fun h => ?_)
    · have hlt : k (nth (ordN k i) q) < k i := of_decide_eq_true h
      have e3 := rowAt_swap (ordN k i) i (upFrom (i + 1) n) q hql
      have s1 := int_set (rowAt (ordN k i) i (upFrom (i + 1) n) (q + 1)) (q + 1) (nth (ordN k i) q) (by rw [hL']; omega)
      have s2 := int_set ((rowAt (ordN k i) i (upFrom (i + 1) n) (q + 1)).set (q + 1) (nth (ordN k i) q)) q i (by rw [List.length_set, hL']; omega)
      repeat (first | refine WK.seq ?_ | refine WK.block ?_ | refine WK.inBlock ?_ | refine WK.skip ?_ | refine WK.label ?_ | refine WK.scope ?_ | refine WK.inScope ?_ | refine WK.exit rfl ?_)
      first | refine WK.reg 700 Try.ntmps147 (by kernel_rfl) ?_ | refine WK.regD 700 (clsM [(45, 0), (49, 0), (51, 0), (52, 0)]) (by kernel_rfl) Try.ntmps147 (by kernel_rfl) (by kernel_rfl) ?_
      intro A hA Q hQ
      simp [g1, g2, n1, n2, hL', w1, b1, b2, b3, b4, b5, b6, b7, b8, s1, s2, e3]
      refine hQ _ _ ?_
      clear hQ hA
      repeat (first | refine WK.seq ?_ | refine WK.block ?_ | refine WK.inBlock ?_ | refine WK.skip ?_ | refine WK.label ?_ | refine WK.scope ?_ | refine WK.inScope ?_ | refine WK.exit rfl ?_)
      first | refine WK.reg 800 Try.ntmps147 (by kernel_rfl) ?_ | refine WK.regD 800 clsOf (by kernel_rfl) Try.ntmps147 (by kernel_rfl) (by kernel_rfl) ?_
      intro A hA Q hQ
      simp [w1]
      refine hQ _ _ ?_
      clear hQ hA
      repeat (first | refine WK.seq ?_ | refine WK.block ?_ | refine WK.inBlock ?_ | refine WK.skip ?_ | refine WK.label ?_ | refine WK.scope ?_ | refine WK.inScope ?_ | refine WK.exit rfl ?_)
      refine WK.next (fun n => n) (IHj (q) (⟨by omega, by rw [hj.2, posR, if_pos hlt]⟩) (by omega)) (by repeat (first | exact TmW.nil | refine TmW.upd ?_ (by simp (maxDischargeDepth := 120) [hcl, e3]))) (by repeat (first | exact BxW.nil | refine BxW.upd ?_ (by simp (maxDischargeDepth := 120) [hcl, e3]))) (by first | exact InjW.id | exact InjW.nil | exact InjW.one | exact InjW.two (by simp) | exact InjW.three (by simp) (by simp) (by simp))
    · have hge : ¬ k (nth (ordN k i) q) < k i := of_decide_eq_false h
      have e2 := out (by rw [posR, if_neg hge])
      repeat (first | refine WK.seq ?_ | refine WK.block ?_ | refine WK.inBlock ?_ | refine WK.skip ?_ | refine WK.label ?_ | refine WK.scope ?_ | refine WK.inScope ?_ | refine WK.exit rfl ?_)
      first | refine WK.reg 900 Try.ntmps147 (by kernel_rfl) ?_ | refine WK.regD 900 clsOf (by kernel_rfl) Try.ntmps147 (by kernel_rfl) (by kernel_rfl) ?_
      intro A hA Q hQ
      simp [h6]
      refine hQ _ _ ?_
      clear hQ hA
      repeat (first | refine WK.seq ?_ | refine WK.block ?_ | refine WK.inBlock ?_ | refine WK.skip ?_ | refine WK.label ?_ | refine WK.scope ?_ | refine WK.inScope ?_ | refine WK.exit rfl ?_)
      refine WK.next (fun n => n) (IH (i + 1) (⟨by omega, by omega⟩) (by omega)) (by repeat (first | exact TmW.nil | refine TmW.upd ?_ (by simp (maxDischargeDepth := 120) [hcl, e2, h6]))) (by repeat (first | exact BxW.nil | refine BxW.upd ?_ (by simp (maxDischargeDepth := 120) [hcl, e2, h6]))) (by first | exact InjW.id | exact InjW.nil | exact InjW.one | exact InjW.two (by simp) | exact InjW.three (by simp) (by simp) (by simp))
  · simp at h1
    have e4 : ordN k (min i n) ++ upFrom i n = ordN k n := by rw [upFrom_nil (by omega), show min i n = n by omega, List.append_nil]
    repeat (first | refine WK.seq ?_ | refine WK.block ?_ | refine WK.inBlock ?_ | refine WK.skip ?_ | refine WK.label ?_ | refine WK.scope ?_ | refine WK.inScope ?_ | refine WK.exit rfl ?_)
    refine WK.retB Try.func147 (by simp (maxDischargeDepth := 120) [Try.results147, e4]) (by simp [e4]) rfl (.inl rfl)
theorem insNone_c (fid : Nat) (caps : List AV) (L : List Int) (n a : Nat) (hcl : ClL caps = true) (hn : n ≤ 1000000) (ha : n ≤ a + 1) (ha2 : a ≤ 1000000) :
    FnB Try.prog 147 [.msl 0 0 n, .int .i64 a, .int .i64 n, .fn fid caps] (.buf 1 (intL L)) (.tup []) (.buf 1 (intL L)) := by
  have h6 : IntKind.i64.wrap ((a : Int) + 1) = a + 1 := wrap_i64 (by omega) (by omega)
  have h7 : decide ((a : Int) + 1 < n) = false := decide_eq_false (by omega)
  refine FnB.intro Try.func147 rfl rfl fun G w l => ?_
  repeat (first | refine WK.seq ?_ | refine WK.block ?_ | refine WK.inBlock ?_ | refine WK.skip ?_ | refine WK.label ?_ | refine WK.scope ?_ | refine WK.inScope ?_ | refine WK.exit rfl ?_)
  first | refine WK.reg 100 Try.ntmps147 (by kernel_rfl) ?_ | refine WK.regD 100 clsOf (by kernel_rfl) Try.ntmps147 (by kernel_rfl) (by kernel_rfl) ?_
  intro A hA Q hQ
  simp [h6]
  refine hQ _ _ ?_
  clear hQ hA
  repeat (first | refine WK.seq ?_ | refine WK.block ?_ | refine WK.inBlock ?_ | refine WK.skip ?_ | refine WK.label ?_ | refine WK.scope ?_ | refine WK.inScope ?_ | refine WK.exit rfl ?_)
  refine WK.loop ?_
  repeat (first | refine WK.seq ?_ | refine WK.block ?_ | refine WK.inBlock ?_ | refine WK.skip ?_ | refine WK.label ?_ | refine WK.scope ?_ | refine WK.inScope ?_ | refine WK.exit rfl ?_)
  first | refine WK.reg 200 Try.ntmps147 (by kernel_rfl) ?_ | refine WK.regD 200 clsOf (by kernel_rfl) Try.ntmps147 (by kernel_rfl) (by kernel_rfl) ?_
  intro A hA Q hQ
  simp [h7]
  refine hQ _ _ ?_
  clear hQ hA
  repeat (first | refine WK.seq ?_ | refine WK.block ?_ | refine WK.inBlock ?_ | refine WK.skip ?_ | refine WK.label ?_ | refine WK.scope ?_ | refine WK.inScope ?_ | refine WK.exit rfl ?_)
  refine WK.cond2 rfl (fun h => ?_) (fun h => ?_)
  · cases h
  repeat (first | refine WK.seq ?_ | refine WK.block ?_ | refine WK.inBlock ?_ | refine WK.skip ?_ | refine WK.label ?_ | refine WK.scope ?_ | refine WK.inScope ?_ | refine WK.exit rfl ?_)
  refine WK.retB Try.func147 (by simp (maxDischargeDepth := 120) [Try.results147]) (by simp) rfl (.inl rfl)
set_option maxHeartbeats 2000000 in
theorem stable_c (fid : Nat) (caps : List AV) (k : Int → Int) (n : Nat) (hcl : ClL caps = true) (hn : n ≤ 20)
    (hf : ∀ x y : Int, (0 ≤ x ∧ x < n) → (0 ≤ y ∧ y < n) → FnP Try.prog fid (.int .i64 x :: .int .i64 y :: caps) (.int .i64 (cmpK k x y))) :
    FnB Try.prog 125 [.msl 0 0 n, .int .i64 n, .fn fid caps] (.buf 1 (intL (upFrom 0 n))) (.tup []) (.buf 1 (intL (ordN k n))) := by
  have w20 : IntKind.i64.wrap 40 = 40 := rfl
  by_cases h20 : n = 20
  · subst h20
    refine FnB.intro Try.func125 rfl rfl fun G w l => ?_
    repeat (first | refine WK.seq ?_ | refine WK.block ?_ | refine WK.inBlock ?_ | refine WK.skip ?_ | refine WK.label ?_ | refine WK.scope ?_ | refine WK.inScope ?_ | refine WK.exit rfl ?_)
    first | refine WK.reg 100 Try.ntmps125 (by kernel_rfl) ?_ | refine WK.regD 100 clsOf (by kernel_rfl) Try.ntmps125 (by kernel_rfl) (by kernel_rfl) ?_
    intro A hA Q hQ
    simp
    refine hQ _ _ ?_
    clear hQ hA
    repeat (first | refine WK.seq ?_ | refine WK.block ?_ | refine WK.inBlock ?_ | refine WK.skip ?_ | refine WK.label ?_ | refine WK.scope ?_ | refine WK.inScope ?_ | refine WK.exit rfl ?_)
    first | refine WK.reg 200 Try.ntmps125 (by kernel_rfl) ?_ | refine WK.regD 200 clsOf (by kernel_rfl) Try.ntmps125 (by kernel_rfl) (by kernel_rfl) ?_
    intro A hA Q hQ
    simp
    refine hQ _ _ ?_
    clear hQ hA
    repeat (first | refine WK.seq ?_ | refine WK.block ?_ | refine WK.inBlock ?_ | refine WK.skip ?_ | refine WK.label ?_ | refine WK.scope ?_ | refine WK.inScope ?_ | refine WK.exit rfl ?_)
    refine WK.loop ?_
    repeat (first | refine WK.seq ?_ | refine WK.block ?_ | refine WK.inBlock ?_ | refine WK.skip ?_ | refine WK.label ?_ | refine WK.scope ?_ | refine WK.inScope ?_ | refine WK.exit rfl ?_)
    first | refine WK.reg 300 Try.ntmps125 (by kernel_rfl) ?_ | refine WK.regD 300 clsOf (by kernel_rfl) Try.ntmps125 (by kernel_rfl) (by kernel_rfl) ?_
    intro A hA Q hQ
    simp
    refine hQ _ _ ?_
    clear hQ hA
    repeat (first | refine WK.seq ?_ | refine WK.block ?_ | refine WK.inBlock ?_ | refine WK.skip ?_ | refine WK.label ?_ | refine WK.scope ?_ | refine WK.inScope ?_ | refine WK.exit rfl ?_)
    refine WK.cond2 rfl (fun h => ?_) (fun h => ?_)
    · repeat (first | refine WK.seq ?_ | refine WK.block ?_ | refine WK.inBlock ?_ | refine WK.skip ?_ | refine WK.label ?_ | refine WK.scope ?_ | refine WK.inScope ?_ | refine WK.exit rfl ?_)
      first | refine WK.reg 400 Try.ntmps125 (by kernel_rfl) ?_ | refine WK.regD 400 clsOf (by kernel_rfl) Try.ntmps125 (by kernel_rfl) (by kernel_rfl) ?_
      intro A hA Q hQ
      simp [hcl]
      refine RunQ.callB 0 rfl rfl rfl (by simp [hcl]) (by rfl) (insSort_c fid caps k 20 hcl (by omega) hf) (by simp (maxDischargeDepth := 120) [hcl]) (by simp (maxDischargeDepth := 120) [hcl]) rfl rfl (by simp [hcl]) (by simp [hcl]) ?_
      refine RunQ.eval ?_
      simp [hcl]
      refine hQ _ _ ?_
      clear hQ hA
      repeat (first | refine WK.seq ?_ | refine WK.block ?_ | refine WK.inBlock ?_ | refine WK.skip ?_ | refine WK.label ?_ | refine WK.scope ?_ | refine WK.inScope ?_ | refine WK.exit rfl ?_)
      first | refine WK.reg 500 Try.ntmps125 (by kernel_rfl) ?_ | refine WK.regD 500 clsOf (by kernel_rfl) Try.ntmps125 (by kernel_rfl) (by kernel_rfl) ?_
      intro A hA Q hQ
      simp
      refine hQ _ _ ?_
      clear hQ hA
      repeat (first | refine WK.seq ?_ | refine WK.block ?_ | refine WK.inBlock ?_ | refine WK.skip ?_ | refine WK.label ?_ | refine WK.scope ?_ | refine WK.inScope ?_ | refine WK.exit rfl ?_)
      first | refine WK.reg 600 Try.ntmps125 (by kernel_rfl) ?_ | refine WK.regD 600 clsOf (by kernel_rfl) Try.ntmps125 (by kernel_rfl) (by kernel_rfl) ?_
      intro A hA Q hQ
      simp [w20]
      refine hQ _ _ ?_
      clear hQ hA
      repeat (first | refine WK.seq ?_ | refine WK.block ?_ | refine WK.inBlock ?_ | refine WK.skip ?_ | refine WK.label ?_ | refine WK.scope ?_ | refine WK.inScope ?_ | refine WK.exit rfl ?_)
      refine WK.inLoop ?_
      repeat (first | refine WK.seq ?_ | refine WK.block ?_ | refine WK.inBlock ?_ | refine WK.skip ?_ | refine WK.label ?_ | refine WK.scope ?_ | refine WK.inScope ?_ | refine WK.exit rfl ?_)
      first | refine WK.reg 700 Try.ntmps125 (by kernel_rfl) ?_ | refine WK.regD 700 clsOf (by kernel_rfl) Try.ntmps125 (by kernel_rfl) (by kernel_rfl) ?_
      intro A hA Q hQ
      simp
      refine hQ _ _ ?_
      clear hQ hA
      repeat (first | refine WK.seq ?_ | refine WK.block ?_ | refine WK.inBlock ?_ | refine WK.skip ?_ | refine WK.label ?_ | refine WK.scope ?_ | refine WK.inScope ?_ | refine WK.exit rfl ?_)
      refine WK.cond2 rfl (fun h => ?_) (fun h => ?_)
      · cases h
      repeat (first | refine WK.seq ?_ | refine WK.block ?_ | refine WK.inBlock ?_ | refine WK.skip ?_ | refine WK.label ?_ | refine WK.scope ?_ | refine WK.inScope ?_ | refine WK.exit rfl ?_)
      first | refine WK.reg 800 Try.ntmps125 (by kernel_rfl) ?_ | refine WK.regD 800 clsOf (by kernel_rfl) Try.ntmps125 (by kernel_rfl) (by kernel_rfl) ?_
      intro A hA Q hQ
      simp [hcl]
      refine RunQ.callB 0 rfl rfl rfl (by simp [hcl]) (by rfl) (insNone_c fid caps (ordN k 20) 20 20 hcl (by omega) (by omega) (by omega)) (by simp (maxDischargeDepth := 120) [hcl]) (by simp (maxDischargeDepth := 120) [hcl]) rfl rfl (by simp [hcl]) (by simp [hcl]) ?_
      refine RunQ.eval ?_
      simp [hcl]
      refine hQ _ _ ?_
      clear hQ hA
      repeat (first | refine WK.seq ?_ | refine WK.block ?_ | refine WK.inBlock ?_ | refine WK.skip ?_ | refine WK.label ?_ | refine WK.scope ?_ | refine WK.inScope ?_ | refine WK.exit rfl ?_)
      refine WK.loop ?_
      repeat (first | refine WK.seq ?_ | refine WK.block ?_ | refine WK.inBlock ?_ | refine WK.skip ?_ | refine WK.label ?_ | refine WK.scope ?_ | refine WK.inScope ?_ | refine WK.exit rfl ?_)
      first | refine WK.reg 900 Try.ntmps125 (by kernel_rfl) ?_ | refine WK.regD 900 clsOf (by kernel_rfl) Try.ntmps125 (by kernel_rfl) (by kernel_rfl) ?_
      intro A hA Q hQ
      simp
      refine hQ _ _ ?_
      clear hQ hA
      repeat (first | refine WK.seq ?_ | refine WK.block ?_ | refine WK.inBlock ?_ | refine WK.skip ?_ | refine WK.label ?_ | refine WK.scope ?_ | refine WK.inScope ?_ | refine WK.exit rfl ?_)
      refine WK.cond2 rfl (fun h => ?_) (fun h => ?_)
      · cases h
      repeat (first | refine WK.seq ?_ | refine WK.block ?_ | refine WK.inBlock ?_ | refine WK.skip ?_ | refine WK.label ?_ | refine WK.scope ?_ | refine WK.inScope ?_ | refine WK.exit rfl ?_)
      refine WK.retB Try.func125 (by simp (maxDischargeDepth := 120) [Try.results125]) (by simp) rfl (.inl rfl)
    · cases h
  · have h1 : decide ((20 : Int) ≤ n) = false := decide_eq_false (by omega)
    have h2 : decide ((20 : Int) < n) = false := decide_eq_false (by omega)
    refine FnB.intro Try.func125 rfl rfl fun G w l => ?_
    repeat (first | refine WK.seq ?_ | refine WK.block ?_ | refine WK.inBlock ?_ | refine WK.skip ?_ | refine WK.label ?_ | refine WK.scope ?_ | refine WK.inScope ?_ | refine WK.exit rfl ?_)
    first | refine WK.reg 100 Try.ntmps125 (by kernel_rfl) ?_ | refine WK.regD 100 clsOf (by kernel_rfl) Try.ntmps125 (by kernel_rfl) (by kernel_rfl) ?_
    intro A hA Q hQ
    simp
    refine hQ _ _ ?_
    clear hQ hA
    repeat (first | refine WK.seq ?_ | refine WK.block ?_ | refine WK.inBlock ?_ | refine WK.skip ?_ | refine WK.label ?_ | refine WK.scope ?_ | refine WK.inScope ?_ | refine WK.exit rfl ?_)
    first | refine WK.reg 200 Try.ntmps125 (by kernel_rfl) ?_ | refine WK.regD 200 clsOf (by kernel_rfl) Try.ntmps125 (by kernel_rfl) (by kernel_rfl) ?_
    intro A hA Q hQ
    simp
    refine hQ _ _ ?_
    clear hQ hA
    repeat (first | refine WK.seq ?_ | refine WK.block ?_ | refine WK.inBlock ?_ | refine WK.skip ?_ | refine WK.label ?_ | refine WK.scope ?_ | refine WK.inScope ?_ | refine WK.exit rfl ?_)
    refine WK.loop ?_
    repeat (first | refine WK.seq ?_ | refine WK.block ?_ | refine WK.inBlock ?_ | refine WK.skip ?_ | refine WK.label ?_ | refine WK.scope ?_ | refine WK.inScope ?_ | refine WK.exit rfl ?_)
    first | refine WK.reg 300 Try.ntmps125 (by kernel_rfl) ?_ | refine WK.regD 300 clsOf (by kernel_rfl) Try.ntmps125 (by kernel_rfl) (by kernel_rfl) ?_
    intro A hA Q hQ
    simp [h1]
    refine hQ _ _ ?_
    clear hQ hA
    repeat (first | refine WK.seq ?_ | refine WK.block ?_ | refine WK.inBlock ?_ | refine WK.skip ?_ | refine WK.label ?_ | refine WK.scope ?_ | refine WK.inScope ?_ | refine WK.exit rfl ?_)
    refine WK.cond2 rfl (fun h => ?_) (fun h => ?_)
    · cases h
    repeat (first | refine WK.seq ?_ | refine WK.block ?_ | refine WK.inBlock ?_ | refine WK.skip ?_ | refine WK.label ?_ | refine WK.scope ?_ | refine WK.inScope ?_ | refine WK.exit rfl ?_)
    first | refine WK.reg 400 Try.ntmps125 (by kernel_rfl) ?_ | refine WK.regD 400 clsOf (by kernel_rfl) Try.ntmps125 (by kernel_rfl) (by kernel_rfl) ?_
    intro A hA Q hQ
    simp [hcl]
    refine RunQ.callB 0 rfl rfl rfl (by simp [hcl]) (by rfl) (insSort_c fid caps k n hcl (by omega) hf) (by simp (maxDischargeDepth := 120) [hcl]) (by simp (maxDischargeDepth := 120) [hcl]) rfl rfl (by simp [hcl]) (by simp [hcl]) ?_
    refine RunQ.eval ?_
    simp [hcl]
    refine hQ _ _ ?_
    clear hQ hA
    repeat (first | refine WK.seq ?_ | refine WK.block ?_ | refine WK.inBlock ?_ | refine WK.skip ?_ | refine WK.label ?_ | refine WK.scope ?_ | refine WK.inScope ?_ | refine WK.exit rfl ?_)
    refine WK.loop ?_
    repeat (first | refine WK.seq ?_ | refine WK.block ?_ | refine WK.inBlock ?_ | refine WK.skip ?_ | refine WK.label ?_ | refine WK.scope ?_ | refine WK.inScope ?_ | refine WK.exit rfl ?_)
    first | refine WK.reg 500 Try.ntmps125 (by kernel_rfl) ?_ | refine WK.regD 500 clsOf (by kernel_rfl) Try.ntmps125 (by kernel_rfl) (by kernel_rfl) ?_
    intro A hA Q hQ
    simp [h2]
    refine hQ _ _ ?_
    clear hQ hA
    repeat (first | refine WK.seq ?_ | refine WK.block ?_ | refine WK.inBlock ?_ | refine WK.skip ?_ | refine WK.label ?_ | refine WK.scope ?_ | refine WK.inScope ?_ | refine WK.exit rfl ?_)
    refine WK.cond2 rfl (fun h => ?_) (fun h => ?_)
    · cases h
    repeat (first | refine WK.seq ?_ | refine WK.block ?_ | refine WK.inBlock ?_ | refine WK.skip ?_ | refine WK.label ?_ | refine WK.scope ?_ | refine WK.inScope ?_ | refine WK.exit rfl ?_)
    refine WK.retB Try.func125 (by simp (maxDischargeDepth := 120) [Try.results125]) (by simp) rfl (.inl rfl)
theorem sortStable_c (fid : Nat) (caps : List AV) (k : Int → Int) (n : Nat) (hcl : ClL caps = true) (hn : n ≤ 20)
    (hf : ∀ x y : Int, (0 ≤ x ∧ x < n) → (0 ≤ y ∧ y < n) → FnP Try.prog fid (.int .i64 x :: .int .i64 y :: caps) (.int .i64 (cmpK k x y))) :
    FnB Try.prog 82 [.msl 0 0 n, .fn fid caps] (.buf 1 (intL (upFrom 0 n))) (.tup []) (.buf 1 (intL (ordN k n))) := by
  refine FnB.intro Try.func82 rfl rfl fun G w l => ?_
  repeat (first | refine WK.seq ?_ | refine WK.block ?_ | refine WK.inBlock ?_ | refine WK.skip ?_ | refine WK.label ?_ | refine WK.scope ?_ | refine WK.inScope ?_ | refine WK.exit rfl ?_)
  first | refine WK.reg 100 Try.ntmps82 (by kernel_rfl) ?_ | refine WK.regD 100 clsOf (by kernel_rfl) Try.ntmps82 (by kernel_rfl) (by kernel_rfl) ?_
  intro A hA Q hQ
  simp [hcl]
  refine RunQ.callB 0 rfl rfl rfl (by simp [hcl]) (by rfl) (stable_c fid caps k n hcl hn hf) (by simp (maxDischargeDepth := 120) [hcl]) (by simp (maxDischargeDepth := 120) [hcl]) rfl rfl (by simp [hcl]) (by simp [hcl]) ?_
  refine RunQ.eval ?_
  simp [hcl]
  refine hQ _ _ ?_
  clear hQ hA
  repeat (first | refine WK.seq ?_ | refine WK.block ?_ | refine WK.inBlock ?_ | refine WK.skip ?_ | refine WK.label ?_ | refine WK.scope ?_ | refine WK.inScope ?_ | refine WK.exit rfl ?_)
  refine WK.retB Try.func82 (by simp (maxDischargeDepth := 120) [Try.results82]) (by simp) rfl (.inl rfl)
/-- the priority of the flow at a place -/
def prioAt (l : List Flow) (x : Int) : Int := (nth l x.toNat).prio
theorem flow_get1 (l : List Flow) (i : Nat) (h : i < l.length) (h' : i * 7 + 1 < (flowL l).length) : (flowL l)[i * 7 + 1] = .int .i64 (nth l i).prio := fm_get Flow.len l i 1 h (by omega) h'
theorem cmp1_c (l : List Flow) (x y : Int) (hl : l.length ≤ 1000000) (hx : 0 ≤ x ∧ x < l.length) (hy : 0 ≤ y ∧ y < l.length) :
    FnP Try.prog 83 [.int .i64 x, .int .i64 y, .iptr [.sl false l.length (flowL l)]] (.int .i64 (cmpK (prioAt l) x y)) := by
  obtain ⟨p, rfl⟩ : ∃ p : Nat, x = p := ⟨x.toNat, by omega⟩
  obtain ⟨q, rfl⟩ : ∃ q : Nat, y = q := ⟨y.toNat, by omega⟩
  have hp : p < l.length := by omega
  have hq : q < l.length := by omega
  have h1 := flow_get1 l p hp
  have h2 := flow_get1 l q hq
  have b1 : p * 7 + 1 < l.length * 7 := by omega
  have b2 : q * 7 + 1 < l.length * 7 := by omega
  have e1 : prioAt l p = (nth l p).prio := by simp [prioAt]
  have e2 : prioAt l q = (nth l q).prio := by simp [prioAt]
  refine FnP.intro Try.func83 rfl rfl fun G w => ?_
  repeat (first | refine WK.seq ?_ | refine WK.block ?_ | refine WK.inBlock ?_ | refine WK.skip ?_ | refine WK.label ?_ | refine WK.scope ?_ | refine WK.inScope ?_ | refine WK.exit rfl ?_)
  first | refine WK.reg 100 Try.ntmps83 (by kernel_rfl) ?_ | refine WK.regD 100 clsOf (by kernel_rfl) Try.ntmps83 (by kernel_rfl) (by kernel_rfl) ?_
  intro A hA Q hQ
  simp
  refine hQ _ _ ?_
  clear hQ hA
  repeat (first | refine WK.seq ?_ | refine WK.block ?_ | refine WK.inBlock ?_ | refine WK.skip ?_ | refine WK.label ?_ | refine WK.scope ?_ | refine WK.inScope ?_ | refine WK.exit rfl ?_)
  first | refine WK.reg 200 Try.ntmps83 (by kernel_rfl) ?_ | refine WK.regD 200 clsOf (by kernel_rfl) Try.ntmps83 (by kernel_rfl) (by kernel_rfl) ?_
  intro A hA Q hQ
  simp [hp, hq, h1, h2, b1, b2]
  refine hQ _ _ ?_
  clear hQ hA
  repeat (first | refine WK.seq ?_ | refine WK.block ?_ | refine WK.inBlock ?_ | refine WK.skip ?_ | refine WK.label ?_ | refine WK.scope ?_ | refine WK.inScope ?_ | refine WK.exit rfl ?_)
  refine WK.cond2 rfl (fun h => ?_) (fun h => ?_)
  · have h' : (nth l q).prio < (nth l p).prio := of_decide_eq_true h
    have e3 : cmpK (prioAt l) p q = -1 := by unfold cmpK; rw [e1, e2, if_pos h']
    repeat (first | refine WK.seq ?_ | refine WK.block ?_ | refine WK.inBlock ?_ | refine WK.skip ?_ | refine WK.label ?_ | refine WK.scope ?_ | refine WK.inScope ?_ | refine WK.exit rfl ?_)
    first | refine WK.reg 300 Try.ntmps83 (by kernel_rfl) ?_ | refine WK.regD 300 clsOf (by kernel_rfl) Try.ntmps83 (by kernel_rfl) (by kernel_rfl) ?_
    intro A hA Q hQ
    simp
    refine hQ _ _ ?_
    clear hQ hA
    repeat (first | refine WK.seq ?_ | refine WK.block ?_ | refine WK.inBlock ?_ | refine WK.skip ?_ | refine WK.label ?_ | refine WK.scope ?_ | refine WK.inScope ?_ | refine WK.exit rfl ?_)
    refine WK.ret Try.func83 (by simp (maxDischargeDepth := 120) [Try.results83, e3]) (by simp [e3])
  have h' : ¬ (nth l q).prio < (nth l p).prio := of_decide_eq_false h
  repeat (first | refine WK.seq ?_ | refine WK.block ?_ | refine WK.inBlock ?_ | refine WK.skip ?_ | refine WK.label ?_ | refine WK.scope ?_ | refine WK.inScope ?_ | refine WK.exit rfl ?_)
  first | refine WK.reg 400 Try.ntmps83 (by kernel_rfl) ?_ | refine WK.regD 400 clsOf (by kernel_rfl) Try.ntmps83 (by kernel_rfl) (by kernel_rfl) ?_
  intro A hA Q hQ
  simp [hp, hq, h1, h2, b1, b2]
  refine hQ _ _ ?_
  clear hQ hA
  repeat (first | refine WK.seq ?_ | refine WK.block ?_ | refine WK.inBlock ?_ | refine WK.skip ?_ | refine WK.label ?_ | refine WK.scope ?_ | refine WK.inScope ?_ | refine WK.exit rfl ?_)
  refine WK.cond2 rfl (fun h => ?_) (fun h => ?_)
  · have h'' : (nth l p).prio < (nth l q).prio := of_decide_eq_true h
    have e3 : cmpK (prioAt l) p q = 1 := by unfold cmpK; rw [e1, e2, if_neg h', if_pos h'']
    repeat (first | refine WK.seq ?_ | refine WK.block ?_ | refine WK.inBlock ?_ | refine WK.skip ?_ | refine WK.label ?_ | refine WK.scope ?_ | refine WK.inScope ?_ | refine WK.exit rfl ?_)
    first | refine WK.reg 500 Try.ntmps83 (by kernel_rfl) ?_ | refine WK.regD 500 clsOf (by kernel_rfl) Try.ntmps83 (by kernel_rfl) (by kernel_rfl) ?_
    intro A hA Q hQ
    simp
    refine hQ _ _ ?_
    clear hQ hA
    repeat (first | refine WK.seq ?_ | refine WK.block ?_ | refine WK.inBlock ?_ | refine WK.skip ?_ | refine WK.label ?_ | refine WK.scope ?_ | refine WK.inScope ?_ | refine WK.exit rfl ?_)
    refine WK.ret Try.func83 (by simp (maxDischargeDepth := 120) [Try.results83, e3]) (by simp [e3])
  have h'' : ¬ (nth l p).prio < (nth l q).prio := of_decide_eq_false h
  have e3 : cmpK (prioAt l) p q = 0 := by unfold cmpK; rw [e1, e2, if_neg h', if_neg h'']
  repeat (first | refine WK.seq ?_ | refine WK.block ?_ | refine WK.inBlock ?_ | refine WK.skip ?_ | refine WK.label ?_ | refine WK.scope ?_ | refine WK.inScope ?_ | refine WK.exit rfl ?_)
  first | refine WK.reg 600 Try.ntmps83 (by kernel_rfl) ?_ | refine WK.regD 600 clsOf (by kernel_rfl) Try.ntmps83 (by kernel_rfl) (by kernel_rfl) ?_
  intro A hA Q hQ
  simp
  refine hQ _ _ ?_
  clear hQ hA
  repeat (first | refine WK.seq ?_ | refine WK.block ?_ | refine WK.inBlock ?_ | refine WK.skip ?_ | refine WK.label ?_ | refine WK.scope ?_ | refine WK.inScope ?_ | refine WK.exit rfl ?_)
  refine WK.ret Try.func83 (by simp (maxDischargeDepth := 120) [Try.results83, e3]) (by simp [e3])
theorem order_c (l : List Flow) (hl : l.length ≤ 20) : FnP Try.prog 43 [flowS l] (intS (ordN (prioAt l) l.length)) := by
  unfold flowS
  have hb : 8 * l.length ≤ 140737488355328 := by omega
  refine FnP.intro Try.func43 rfl rfl fun G w => ?_
  repeat (first | refine WK.seq ?_ | refine WK.block ?_ | refine WK.inBlock ?_ | refine WK.skip ?_ | refine WK.label ?_ | refine WK.scope ?_ | refine WK.inScope ?_ | refine WK.exit rfl ?_)
  first | refine WK.reg 100 Try.ntmps43 (by kernel_rfl) ?_ | refine WK.regD 100 clsOf (by kernel_rfl) Try.ntmps43 (by kernel_rfl) (by kernel_rfl) ?_
  intro A hA Q hQ
  simp
  refine hQ _ _ ?_
  clear hQ hA
  repeat (first | refine WK.seq ?_ | refine WK.block ?_ | refine WK.inBlock ?_ | refine WK.skip ?_ | refine WK.label ?_ | refine WK.scope ?_ | refine WK.inScope ?_ | refine WK.exit rfl ?_)
  refine WK.ghost (Ghost.frzVar 1 rfl rfl) ?_
  repeat (first | refine WK.seq ?_ | refine WK.block ?_ | refine WK.inBlock ?_ | refine WK.skip ?_ | refine WK.label ?_ | refine WK.scope ?_ | refine WK.inScope ?_ | refine WK.exit rfl ?_)
  first | refine WK.reg 200 Try.ntmps43 (by kernel_rfl) ?_ | refine WK.regD 200 clsOf (by kernel_rfl) Try.ntmps43 (by kernel_rfl) (by kernel_rfl) ?_
  intro A hA Q hQ
  simp
  refine RunQ.make (n := 0) (c := l.length) (k := .i64) (k' := .i64) 900 appInt rfl (by simp) rfl (by simp) (by simp) (by omega) (hb) (by simp) ?_
  refine RunQ.eval ?_
  simp
  refine hQ _ _ ?_
  clear hQ hA
  repeat (first | refine WK.seq ?_ | refine WK.block ?_ | refine WK.inBlock ?_ | refine WK.skip ?_ | refine WK.label ?_ | refine WK.scope ?_ | refine WK.inScope ?_ | refine WK.exit rfl ?_)
  first | refine WK.reg 300 Try.ntmps43 (by kernel_rfl) ?_ | refine WK.regD 300 clsOf (by kernel_rfl) Try.ntmps43 (by kernel_rfl) (by kernel_rfl) ?_
  intro A hA Q hQ
  simp
  refine hQ _ _ ?_
  clear hQ hA
  repeat (first | refine WK.seq ?_ | refine WK.block ?_ | refine WK.inBlock ?_ | refine WK.skip ?_ | refine WK.label ?_ | refine WK.scope ?_ | refine WK.inScope ?_ | refine WK.exit rfl ?_)
  refine WK.loopI (fun _ => 900) (fun i : Nat => (⟨(upd (upd (upd (upd J 1 (.iptr [.sl false l.length (flowL l)])) 3 (.msl 1 0 i)) 9 (.int .i64 l.length)) 10 (.int .i64 i)), (upd B0 1 (.buf 1 (intL (upFrom 0 i)))), 0⟩ : St)) (fun i => i ≤ l.length) (fun i => l.length - i) (0) (by repeat (first | exact TmW.nil | refine TmW.upd ?_ (by simp (maxDischargeDepth := 120) [upFrom, intL]))) (by repeat (first | exact BxW.nil | refine BxW.upd ?_ (by simp (maxDischargeDepth := 120) [upFrom, intL]))) (by first | exact InjW.id | exact InjW.nil | exact InjW.one | exact InjW.two (by simp) | exact InjW.three (by simp) (by simp) (by simp)) (by omega) (fun i hi IH => ?_)
  repeat (first | refine WK.seq ?_ | refine WK.block ?_ | refine WK.inBlock ?_ | refine WK.skip ?_ | refine WK.label ?_ | refine WK.scope ?_ | refine WK.inScope ?_ | refine WK.exit rfl ?_)
  first | refine WK.reg 400 Try.ntmps43 (by kernel_rfl) ?_ | refine WK.regD 400 clsOf (by kernel_rfl) Try.ntmps43 (by kernel_rfl) (by kernel_rfl) ?_
  intro A hA Q hQ
  simp
  refine hQ _ _ ?_
  clear hQ hA
  repeat (first | refine WK.seq ?_ | refine WK.block ?_ | refine WK.inBlock ?_ | refine WK.skip ?_ | refine WK.label ?_ | refine WK.scope ?_ | refine WK.inScope ?_ | refine WK.exit rfl ?_)
  refine WK.cond2 rfl (fun h1 => ?_) (fun h1 => ?_)
  · simp at h1
    have h2 : i < l.length := by omega
    have h6 : IntKind.i64.wrap ((i : Int) + 1) = i + 1 := wrap_i64 (by omega) (by omega)
    have hb2 : (i + 1) * 8 ≤ 140737488355328 := by omega
    have hL : (upFrom 0 i).length = i := by rw [upFrom_len]; omega
    have e1 : intL (upFrom 0 i) ++ [.int .i64 i] = intL (upFrom 0 (i + 1)) := by rw [← upFrom_snoc]; simp [intL]
    repeat (first | refine WK.seq ?_ | refine WK.block ?_ | refine WK.inBlock ?_ | refine WK.skip ?_ | refine WK.label ?_ | refine WK.scope ?_ | refine WK.inScope ?_ | refine WK.exit rfl ?_)
    first | refine WK.reg 500 Try.ntmps43 (by kernel_rfl) ?_ | refine WK.regD 500 clsOf (by kernel_rfl) Try.ntmps43 (by kernel_rfl) (by kernel_rfl) ?_
    intro A hA Q hQ
    simp
    refine hQ _ _ ?_
    clear hQ hA
    repeat (first | refine WK.seq ?_ | refine WK.block ?_ | refine WK.inBlock ?_ | refine WK.skip ?_ | refine WK.label ?_ | refine WK.scope ?_ | refine WK.inScope ?_ | refine WK.exit rfl ?_)
    first | refine WK.reg 600 Try.ntmps43 (by kernel_rfl) ?_ | refine WK.regD 600 clsOf (by kernel_rfl) Try.ntmps43 (by kernel_rfl) (by kernel_rfl) ?_
    intro A hA Q hQ
    simp
    refine RunQ.append 901 appInt rfl rfl rfl rfl rfl rfl rfl (by simp [hb2, hL]) rfl (by simp [hb2, hL]) (by simp [hb2, hL]) (by simp [hb2, hL]) (by simp [hb2, hL]) ?_
    refine RunQ.eval ?_
    simp [hb2, hL]
    refine hQ _ _ ?_
    clear hQ hA
    repeat (first | refine WK.seq ?_ | refine WK.block ?_ | refine WK.inBlock ?_ | refine WK.skip ?_ | refine WK.label ?_ | refine WK.scope ?_ | refine WK.inScope ?_ | refine WK.exit rfl ?_)
    first | refine WK.reg 700 Try.ntmps43 (by kernel_rfl) ?_ | refine WK.regD 700 clsOf (by kernel_rfl) Try.ntmps43 (by kernel_rfl) (by kernel_rfl) ?_
    intro A hA Q hQ
    simp [h6]
    refine hQ _ _ ?_
    clear hQ hA
    repeat (first | refine WK.seq ?_ | refine WK.block ?_ | refine WK.inBlock ?_ | refine WK.skip ?_ | refine WK.label ?_ | refine WK.scope ?_ | refine WK.inScope ?_ | refine WK.exit rfl ?_)
    refine WK.next (fun _ => 901) (IH (i + 1) (by omega) (by omega)) (by repeat (first | exact TmW.nil | refine TmW.upd ?_ (by simp (maxDischargeDepth := 120) [e1, h6]))) (by repeat (first | exact BxW.nil | refine BxW.upd ?_ (by simp (maxDischargeDepth := 120) [e1, h6]))) (by first | exact InjW.id | exact InjW.nil | exact InjW.one | exact InjW.two (by simp) | exact InjW.three (by simp) (by simp) (by simp))
  · simp at h1
    have h2 : i = l.length := by omega
    subst h2
    repeat (first | refine WK.seq ?_ | refine WK.block ?_ | refine WK.inBlock ?_ | refine WK.skip ?_ | refine WK.label ?_ | refine WK.scope ?_ | refine WK.inScope ?_ | refine WK.exit rfl ?_)
    first | refine WK.reg 800 Try.ntmps43 (by kernel_rfl) ?_ | refine WK.regD 800 clsOf (by kernel_rfl) Try.ntmps43 (by kernel_rfl) (by kernel_rfl) ?_
    intro A hA Q hQ
    simp
    refine RunQ.callB 1 rfl rfl rfl (by simp) (by rfl) (sortStable_c 83 [.iptr [.sl false l.length (flowL l)]] (prioAt l) l.length (by simp) hl (fun x y hx hy => cmp1_c l x y (by omega) hx hy)) (by simp (maxDischargeDepth := 120)) (by simp (maxDischargeDepth := 120)) rfl rfl (by simp) (by simp) ?_
    refine RunQ.eval ?_
    simp
    refine hQ _ _ ?_
    clear hQ hA
    have hL := ordN_len (prioAt l) l.length
    repeat (first | refine WK.seq ?_ | refine WK.block ?_ | refine WK.inBlock ?_ | refine WK.skip ?_ | refine WK.label ?_ | refine WK.scope ?_ | refine WK.inScope ?_ | refine WK.exit rfl ?_)
    first | refine WK.reg 900 Try.ntmps43 (by kernel_rfl) ?_ | refine WK.regD 900 clsOf (by kernel_rfl) Try.ntmps43 (by kernel_rfl) (by kernel_rfl) ?_
    intro A hA Q hQ
    simp
    refine hQ _ _ ?_
    clear hQ hA
    repeat (first | refine WK.seq ?_ | refine WK.block ?_ | refine WK.inBlock ?_ | refine WK.skip ?_ | refine WK.label ?_ | refine WK.scope ?_ | refine WK.inScope ?_ | refine WK.exit rfl ?_)
    refine WK.ghost (Ghost.frzSl 2 1 rfl rfl) ?_
    have hT : (intL (ordN (prioAt l) l.length)).take l.length = intL (ordN (prioAt l) l.length) := List.take_of_length_le (by simp [hL])
    repeat (first | refine WK.seq ?_ | refine WK.block ?_ | refine WK.inBlock ?_ | refine WK.skip ?_ | refine WK.label ?_ | refine WK.scope ?_ | refine WK.inScope ?_ | refine WK.exit rfl ?_)
    refine WK.ret Try.func43 (by simp (maxDischargeDepth := 120) [Try.results43, intS, hL, hT]) (by simp [intS, hL, hT])
end Go.Proofs.Ytfgmjnmkcobhkaa
