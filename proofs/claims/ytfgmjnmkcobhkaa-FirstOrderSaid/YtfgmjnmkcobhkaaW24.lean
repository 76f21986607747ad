/- Rows of numbers as functions: swapping two ranges, and turning two blocks round. -/
import Derived.Test.YtfgmjnmkcobhkaaW22
set_option linter.all false
set_option linter.unnecessarySimpa false
set_option linter.unusedVariables false
set_option linter.unusedSimpArgs false
namespace Go.Proofs.Ytfgmjnmkcobhkaa
open Go Go.AI Go.Proofs

/-- the first `n` values of a function -/
def ro (f : Nat → Int) (n : Nat) : List Int := (List.range n).map f
def setF (f : Nat → Int) (i : Nat) (v : Int) : Nat → Int := fun x => if x = i then v else f x
@[simp] theorem ro_len (f : Nat → Int) (n : Nat) : (ro f n).length = n := by simp [ro]
theorem ro_nth (f : Nat → Int) (n i : Nat) (h : i < n) : nth (ro f n) i = f i := by
  unfold nth ro
  rw [List.getD_eq_getElem?_getD, List.getElem?_map, List.getElem?_range h]; rfl
theorem ro_sub (f : Nat → Int) (n i : Nat) (h : i < n) (h' : i < (intL (ro f n)).length) : (intL (ro f n))[i] = .int .i64 (f i) := by
  rw [int_sub (ro f n) i (by simpa using h) h', ro_nth f n i h]
theorem ro_set (f : Nat → Int) (n i : Nat) (v : Int) (h : i < n) : (intL (ro f n)).take i ++ .int .i64 v :: (intL (ro f n)).drop (i + 1) = intL (ro (setF f i v) n) := by
  rw [int_set (ro f n) i v (by simpa using h)]
  congr 1
  apply List.ext_getElem?
  intro j
  simp only [ro, List.getElem?_set, List.getElem?_map, List.length_map, List.length_range]
  by_cases hj : i = j
  · subst hj; simp [h, List.getElem?_range h, setF]
  · by_cases hjn : j < n
    · have hj2 : ¬ j = i := fun e => hj e.symm
      simp [hj, List.getElem?_range hjn, setF, hj2]
    · simp [hj, List.getElem?_eq_none, hjn]
theorem setF_at (f : Nat → Int) (i : Nat) (v : Int) : setF f i v i = v := by simp [setF]
/-- two ranges of `i` places swapped -/
def swF (f : Nat → Int) (a b i : Nat) : Nat → Int := fun x => if a ≤ x ∧ x < a + i then f (x - a + b) else if b ≤ x ∧ x < b + i then f (x - b + a) else f x
theorem swF_zero (f : Nat → Int) (a b : Nat) : swF f a b 0 = f := by
  funext x; unfold swF; rw [if_neg (by omega), if_neg (by omega)]
theorem swF_l (f : Nat → Int) (a b i : Nat) (h : a + i < b) : swF f a b i (a + i) = f (a + i) := by
  unfold swF; rw [if_neg (by omega), if_neg (by omega)]
theorem swF_r (f : Nat → Int) (a b i : Nat) (h : a + i < b) : swF f a b i (b + i) = f (b + i) := by
  unfold swF; rw [if_neg (by omega), if_neg (by omega)]
theorem swF_succ (f : Nat → Int) (a b i : Nat) (h : a + i < b) : setF (setF (swF f a b i) (a + i) (swF f a b i (b + i))) (b + i) (swF f a b i (a + i)) = swF f a b (i + 1) := by
  rw [swF_l f a b i h, swF_r f a b i h]
  funext x
  simp only [setF, swF]
  repeat' split
  all_goals first | rfl | (exfalso; omega) | (congr 1; omega)
set_option maxHeartbeats 2000000 in
theorem swap_c (fid : Nat) (caps : List AV) (n : Nat) (f : Nat → Int) (a b m : Nat) (hcl : ClL caps = true) (hn : n ≤ 1000000) (h1 : a + m ≤ b) (h2 : b + m ≤ n) :
    FnB Try.prog 160 [.msl 0 0 n, .int .i64 a, .int .i64 b, .int .i64 m, .fn fid caps] (.buf 1 (intL (ro f n))) (.tup []) (.buf 1 (intL (ro (swF f a b m) n))) := by
  have e0 := swF_zero f a b
  refine FnB.intro Try.func160 rfl rfl fun G w l => ?_
  repeat (first | refine WK.seq ?_ | refine WK.block ?_ | refine WK.inBlock ?_ | refine WK.skip ?_ | refine WK.label ?_ | refine WK.scope ?_ | refine WK.inScope ?_ | refine WK.exit rfl ?_)
  first | refine WK.reg 100 Try.ntmps160 (by kernel_rfl) ?_ | refine WK.regD 100 clsOf (by kernel_rfl) Try.ntmps160 (by kernel_rfl) (by kernel_rfl) ?_
  intro A hA Q hQ
  simp
  refine hQ _ _ ?_
  clear hQ hA
  repeat (first | refine WK.seq ?_ | refine WK.block ?_ | refine WK.inBlock ?_ | refine WK.skip ?_ | refine WK.label ?_ | refine WK.scope ?_ | refine WK.inScope ?_ | refine WK.exit rfl ?_)
  refine WK.loopI (fun n => n) (fun i : Nat => (⟨(upd (upd (upd (upd (upd (upd J 0 (.msl 0 0 n)) 1 (.int .i64 a)) 2 (.int .i64 b)) 3 (.int .i64 m)) 4 (.fn fid caps)) 10 (.int .i64 i)), (upd B0 0 (.buf 1 (intL (ro (swF f a b i) n)))), 0⟩ : St)) (fun i => i ≤ m) (fun i => m - i) (0) (by repeat (first | exact TmW.nil | refine TmW.upd ?_ (by simp (maxDischargeDepth := 120) [hcl, e0]))) (by repeat (first | exact BxW.nil | refine BxW.upd ?_ (by simp (maxDischargeDepth := 120) [hcl, e0]))) (by first | exact InjW.id | exact InjW.nil | exact InjW.one | exact InjW.two (by simp) | exact InjW.three (by simp) (by simp) (by simp)) (by omega) (fun i hi IH => ?_)
  repeat (first | refine WK.seq ?_ | refine WK.block ?_ | refine WK.inBlock ?_ | refine WK.skip ?_ | refine WK.label ?_ | refine WK.scope ?_ | refine WK.inScope ?_ | refine WK.exit rfl ?_)
  first | refine WK.reg 200 Try.ntmps160 (by kernel_rfl) ?_ | refine WK.regD 200 clsOf (by kernel_rfl) Try.ntmps160 (by kernel_rfl) (by kernel_rfl) ?_
  intro A hA Q hQ
  simp
  refine hQ _ _ ?_
  clear hQ hA
  repeat (first | refine WK.seq ?_ | refine WK.block ?_ | refine WK.inBlock ?_ | refine WK.skip ?_ | refine WK.label ?_ | refine WK.scope ?_ | refine WK.inScope ?_ | refine WK.exit rfl ?_)
  refine WK.cond2 rfl (fun h => ?_) (fun h => ?_)
  · simp at h
    have hi : i < m := by omega
    have w1 : IntKind.i64.wrap ((i : Int) + 1) = i + 1 := wrap_i64 (by omega) (by omega)
    have w2 : IntKind.i64.wrap ((a : Int) + i) = (a + i : Nat) := by rw [wrap_i64 (by omega) (by omega)]; omega
    have w3 : IntKind.i64.wrap ((b : Int) + i) = (b + i : Nat) := by rw [wrap_i64 (by omega) (by omega)]; omega
    have l1 : a + i < n := by omega
    have l2 : b + i < n := by omega
    have g1 := ro_sub (swF f a b i) n (a + i) l1
    have g2 := ro_sub (swF f a b i) n (b + i) l2
    have s1 := ro_set (swF f a b i) n (a + i) (swF f a b i (b + i)) l1
    have s2 := ro_set (setF (swF f a b i) (a + i) (swF f a b i (b + i))) n (b + i) (swF f a b i (a + i)) l2
    have e1 := swF_succ f a b i (by omega)
    have l3 : a + i + 1 ≤ n := by omega
    have c1 : (0 : Int) ≤ (a : Int) + i := by omega
    have c2 : (a : Int) + i < n := by omega
    have c3 : ((a : Int) + i).toNat = a + i := by omega
    have c4 : (0 : Int) ≤ (b : Int) + i := by omega
    have c5 : (b : Int) + i < n := by omega
    have c6 : ((b : Int) + i).toNat = b + i := by omega
    have l4 : b + i + 1 ≤ n := by omega
    repeat (first | refine WK.seq ?_ | refine WK.block ?_ | refine WK.inBlock ?_ | refine WK.skip ?_ | refine WK.label ?_ | refine WK.scope ?_ | refine WK.inScope ?_ | refine WK.exit rfl ?_)
    first | refine WK.reg 300 Try.ntmps160 (by kernel_rfl) ?_ | refine WK.regD 300 (clsM [(29, 0), (35, 0), (36, 0), (37, 0)]) (by kernel_rfl) Try.ntmps160 (by kernel_rfl) (by kernel_rfl) ?_
    intro A hA Q hQ
    simp [w2, w3, g1, g2, l1, l2, l3, l4, s1, s2, e1, c1, c2, c3, c4, c5, c6]
    refine hQ _ _ ?_
    clear hQ hA
    repeat (first | refine WK.seq ?_ | refine WK.block ?_ | refine WK.inBlock ?_ | refine WK.skip ?_ | refine WK.label ?_ | refine WK.scope ?_ | refine WK.inScope ?_ | refine WK.exit rfl ?_)
    first | refine WK.reg 400 Try.ntmps160 (by kernel_rfl) ?_ | refine WK.regD 400 clsOf (by kernel_rfl) Try.ntmps160 (by kernel_rfl) (by kernel_rfl) ?_
    intro A hA Q hQ
    simp [w1]
    refine hQ _ _ ?_
    clear hQ hA
    repeat (first | refine WK.seq ?_ | refine WK.block ?_ | refine WK.inBlock ?_ | refine WK.skip ?_ | refine WK.label ?_ | refine WK.scope ?_ | refine WK.inScope ?_ | refine WK.exit rfl ?_)
    refine WK.next (fun n => n) (IH (i + 1) (by omega) (by omega)) (by repeat (first | exact TmW.nil | refine TmW.upd ?_ (by simp (maxDischargeDepth := 120) [hcl, e1, w1]))) (by repeat (first | exact BxW.nil | refine BxW.upd ?_ (by simp (maxDischargeDepth := 120) [hcl, e1, w1]))) (by first | exact InjW.id | exact InjW.nil | exact InjW.one | exact InjW.two (by simp) | exact InjW.three (by simp) (by simp) (by simp))
  · simp at h
    have hi : i = m := by omega
    subst hi
    repeat (first | refine WK.seq ?_ | refine WK.block ?_ | refine WK.inBlock ?_ | refine WK.skip ?_ | refine WK.label ?_ | refine WK.scope ?_ | refine WK.inScope ?_ | refine WK.exit rfl ?_)
    refine WK.retB Try.func160 (by simp (maxDischargeDepth := 120) [Try.results160]) (by simp) rfl (.inl rfl)
end Go.Proofs.Ytfgmjnmkcobhkaa
