/- The order of flows by the reference; the laws of what comes first. -/
import Derived.Test.YtfgmjnmkcobhkaaW20
set_option linter.all false
set_option linter.unnecessarySimpa false
set_option linter.unusedVariables false
set_option linter.unusedSimpArgs false
namespace Go.Proofs.Ytfgmjnmkcobhkaa
open Go Go.AI Go.Proofs

theorem rowAt_set (p : List Int) (x y : Int) (rest : List Int) (j : Nat) (h : j ≤ p.length) : (rowAt p x rest j).set j y = rowAt p y rest j := by
  unfold rowAt
  rw [List.set_append_right _ _ (by simp; omega)]
  have : j - (p.take j).length = 0 := by simp; omega
  rw [this]; rfl
theorem rowAt_shift (p : List Int) (x : Int) (j : Nat) (h : j < p.length) : (rowAt p x [] (j + 1)).set (j + 1) (nth p j) = rowAt p (nth p j) [] j := by
  rw [rowAt_set _ _ _ _ _ (by omega)]
  unfold rowAt
  have e1 : p.take (j + 1) = p.take j ++ [nth p j] := take_nth h
  have e2 : p.drop j = nth p j :: p.drop (j + 1) := by rw [List.drop_eq_getElem_cons h, nth_eq h]
  rw [e1, e2]; simp
def shiftX (p : List Int) (n j : Nat) : Int := if j = n then 0 else nth p j
set_option maxHeartbeats 2000000 in
theorem rorder_c (l : List Flow) (hl : l.length ≤ 1000000) : FnP Try.prog 47 [flowS l] (intS (orderOf l)) := by
  unfold flowS
  refine FnP.intro Try.func47 rfl rfl fun G w => ?_
  repeat (first | refine WK.seq ?_ | refine WK.block ?_ | refine WK.inBlock ?_ | refine WK.skip ?_ | refine WK.label ?_ | refine WK.scope ?_ | refine WK.inScope ?_ | refine WK.exit rfl ?_)
  first | refine WK.reg 100 Try.ntmps47 (by kernel_rfl) ?_ | refine WK.regD 100 clsOf (by kernel_rfl) Try.ntmps47 (by kernel_rfl) (by kernel_rfl) ?_
  intro A hA Q hQ
  simp
  refine hQ _ _ ?_
  clear hQ hA
  repeat (first | refine WK.seq ?_ | refine WK.block ?_ | refine WK.inBlock ?_ | refine WK.skip ?_ | refine WK.label ?_ | refine WK.scope ?_ | refine WK.inScope ?_ | refine WK.exit rfl ?_)
  first | refine WK.reg 200 Try.ntmps47 (by kernel_rfl) ?_ | refine WK.regD 200 clsOf (by kernel_rfl) Try.ntmps47 (by kernel_rfl) (by kernel_rfl) ?_
  intro A hA Q hQ
  simp
  refine hQ _ _ ?_
  clear hQ hA
  repeat (first | refine WK.seq ?_ | refine WK.block ?_ | refine WK.inBlock ?_ | refine WK.skip ?_ | refine WK.label ?_ | refine WK.scope ?_ | refine WK.inScope ?_ | refine WK.exit rfl ?_)
  refine WK.ghost (Ghost.own 3 900 1 rfl rfl) ?_
  repeat (first | refine WK.seq ?_ | refine WK.block ?_ | refine WK.inBlock ?_ | refine WK.skip ?_ | refine WK.label ?_ | refine WK.scope ?_ | refine WK.inScope ?_ | refine WK.exit rfl ?_)
  first | refine WK.reg 300 Try.ntmps47 (by kernel_rfl) ?_ | refine WK.regD 300 clsOf (by kernel_rfl) Try.ntmps47 (by kernel_rfl) (by kernel_rfl) ?_
  intro A hA Q hQ
  simp
  refine hQ _ _ ?_
  clear hQ hA
  repeat (first | refine WK.seq ?_ | refine WK.block ?_ | refine WK.inBlock ?_ | refine WK.skip ?_ | refine WK.label ?_ | refine WK.scope ?_ | refine WK.inScope ?_ | refine WK.exit rfl ?_)
  refine WK.loopI (fun _ => 900) (fun i : Nat => (⟨(upd (upd (upd J 0 (.sl false l.length (flowL l))) 3 (.msl 1 0 i)) 4 (.int .i64 i)), (upd B0 1 (.buf 1 (intL (ordN (prioAt l) i)))), 0⟩ : St)) (fun i => i ≤ l.length) (fun i => l.length - i) (0) (by repeat (first | exact TmW.nil | refine TmW.upd ?_ (by simp (maxDischargeDepth := 120) [ordN, intL]))) (by repeat (first | exact BxW.nil | refine BxW.upd ?_ (by simp (maxDischargeDepth := 120) [ordN, intL]))) (by first | exact InjW.id | exact InjW.nil | exact InjW.one | exact InjW.two (by simp) | exact InjW.three (by simp) (by simp) (by simp)) (by omega) (fun i hi IH => ?_)
  repeat (first | refine WK.seq ?_ | refine WK.block ?_ | refine WK.inBlock ?_ | refine WK.skip ?_ | refine WK.label ?_ | refine WK.scope ?_ | refine WK.inScope ?_ | refine WK.exit rfl ?_)
  first | refine WK.reg 400 Try.ntmps47 (by kernel_rfl) ?_ | refine WK.regD 400 clsOf (by kernel_rfl) Try.ntmps47 (by kernel_rfl) (by kernel_rfl) ?_
  intro A hA Q hQ
  simp
  refine hQ _ _ ?_
  clear hQ hA
  repeat (first | refine WK.seq ?_ | refine WK.block ?_ | refine WK.inBlock ?_ | refine WK.skip ?_ | refine WK.label ?_ | refine WK.scope ?_ | refine WK.inScope ?_ | refine WK.exit rfl ?_)
  refine WK.cond2 rfl (fun h1 => ?_) (fun h1 => ?_)
  · simp at h1
    have h2 : i < l.length := by omega
    have h6 : IntKind.i64.wrap ((i : Int) + 1) = i + 1 := wrap_i64 (by omega) (by omega)
    have hp : (ordN (prioAt l) i).length = i := ordN_len _ i
    have hb2 : (i + 1) * 8 ≤ 140737488355328 := by omega
    have hi1 := flow_get1 l i h2
    have b0 : i * 7 + 1 < l.length * 7 := by omega
    have ei : prioAt l i = (nth l i).prio := by simp [prioAt]
    repeat (first | refine WK.seq ?_ | refine WK.block ?_ | refine WK.inBlock ?_ | refine WK.skip ?_ | refine WK.label ?_ | refine WK.scope ?_ | refine WK.inScope ?_ | refine WK.exit rfl ?_)
    first | refine WK.reg 500 Try.ntmps47 (by kernel_rfl) ?_ | refine WK.regD 500 clsOf (by kernel_rfl) Try.ntmps47 (by kernel_rfl) (by kernel_rfl) ?_
    intro A hA Q hQ
    simp
    refine hQ _ _ ?_
    clear hQ hA
    repeat (first | refine WK.seq ?_ | refine WK.block ?_ | refine WK.inBlock ?_ | refine WK.skip ?_ | refine WK.label ?_ | refine WK.scope ?_ | refine WK.inScope ?_ | refine WK.exit rfl ?_)
    refine WK.loopI (fun n => n) (fun j : Nat => (⟨(upd (upd (upd (upd J 0 (.sl false l.length (flowL l))) 3 (.msl 1 0 i)) 4 (.int .i64 i)) 5 (.int .i64 j)), (upd B0 1 (.buf 1 (intL (ordN (prioAt l) i)))), 0⟩ : St)) (fun j => j ≤ i ∧ posR (prioAt l) i (ordN (prioAt l) i) i = posR (prioAt l) i (ordN (prioAt l) i) j) (fun j => j) (i) (by repeat (first | exact TmW.nil | refine TmW.upd ?_ (by simp (maxDischargeDepth := 120)))) (by repeat (first | exact BxW.nil | refine BxW.upd ?_ (by simp (maxDischargeDepth := 120)))) (by first | exact InjW.id | exact InjW.nil | exact InjW.one | exact InjW.two (by simp) | exact InjW.three (by simp) (by simp) (by simp)) (⟨by omega, rfl⟩) (fun j hj IHj => ?_)
    apply WK.cut (⟨upd (upd (upd (upd J 0 (.sl false l.length (flowL l))) 3 (.msl 1 0 i)) 4 (.int .i64 i)) 5 (.int .i64 (posR (prioAt l) i (ordN (prioAt l) i) i)), upd B0 1 (.buf 1 (intL (ordN (prioAt l) i))), 0⟩ : St)
    · intro hcut
      by_cases hj0 : j = 0
      · subst hj0
        have e2 : posR (prioAt l) i (ordN (prioAt l) i) i = 0 := by rw [hj.2]; rfl
        repeat (first | refine WK.seq ?_ | refine WK.block ?_ | refine WK.inBlock ?_ | refine WK.skip ?_ | refine WK.label ?_ | refine WK.scope ?_ | refine WK.inScope ?_ | refine WK.exit rfl ?_)
        first | refine WK.reg 600 Try.ntmps47 (by kernel_rfl) ?_ | refine WK.regD 600 (clsM [(23, 1)]) (by kernel_rfl) Try.ntmps47 (by kernel_rfl) (by kernel_rfl) ?_
        intro A hA Q hQ
        have hg2 : (A[2]?).bind (·.dst) = some 18 := by rw [hA]; rfl
        simp [hg2]
        refine hQ _ _ ?_
        clear hQ hA
        repeat (first | refine WK.seq ?_ | refine WK.block ?_ | refine WK.inBlock ?_ | refine WK.skip ?_ | refine WK.label ?_ | refine WK.scope ?_ | refine WK.inScope ?_ | refine WK.exit rfl ?_)
        refine WK.cond2 rfl (fun h => ?_) (fun h => ?_)
        · cases h
        repeat (first | refine WK.seq ?_ | refine WK.block ?_ | refine WK.inBlock ?_ | refine WK.skip ?_ | refine WK.label ?_ | refine WK.scope ?_ | refine WK.inScope ?_ | refine WK.exit rfl ?_)
        refine WK.next (fun n => n) hcut (by repeat (first | exact TmW.nil | refine TmW.upd ?_ (by simp (maxDischargeDepth := 120) [e2]))) (by repeat (first | exact BxW.nil | refine BxW.upd ?_ (by simp (maxDischargeDepth := 120) [e2]))) (by first | exact InjW.id | exact InjW.nil | exact InjW.one | exact InjW.two (by simp) | exact InjW.three (by simp) (by simp) (by simp))
      obtain ⟨q, rfl⟩ : ∃ q, j = q + 1 := ⟨j - 1, by omega⟩
      have hq : q < i := by omega
      have hql : q < (ordN (prioAt l) i).length := by rw [hp]; exact hq
      obtain ⟨r, hr, hrl⟩ : ∃ r : Nat, nth (ordN (prioAt l) i) q = r ∧ r < l.length := by
        have := ordN_mem _ i _ (nth_mem hql)
        exact ⟨(nth (ordN (prioAt l) i) q).toNat, by omega, by omega⟩
      have hr1 := flow_get1 l r hrl
      have b1 : r * 7 + 1 < l.length * 7 := by omega
      have er : prioAt l (nth (ordN (prioAt l) i) q) = (nth l r).prio := by rw [hr]; simp [prioAt]
      have g1 := int_sub (ordN (prioAt l) i) q hql
      have w1 : IntKind.i64.wrap (q : Int) = q := wrap_i64 (by omega) (by omega)
      have b6 : (0 : Int) < (q : Int) + 1 := by omega
      repeat (first | refine WK.seq ?_ | refine WK.block ?_ | refine WK.inBlock ?_ | refine WK.skip ?_ | refine WK.label ?_ | refine WK.scope ?_ | refine WK.inScope ?_ | refine WK.exit rfl ?_)
      first | refine WK.reg 700 Try.ntmps47 (by kernel_rfl) ?_ | refine WK.regD 700 (clsM [(23, 1)]) (by kernel_rfl) Try.ntmps47 (by kernel_rfl) (by kernel_rfl) ?_
      intro A hA Q hQ
      have hg2 : (A[2]?).bind (·.dst) = some 18 := by rw [hA]; rfl
      simp [g1, hp, hq, w1, b6, hr, hr1, hrl, b1, h2, hi1, b0, hg2]
      refine hQ _ _ ?_
      clear hQ hA
      repeat (first | refine WK.seq ?_ | refine WK.block ?_ | refine WK.inBlock ?_ | refine WK.skip ?_ | refine WK.label ?_ | refine WK.scope ?_ | refine WK.inScope ?_ | refine WK.exit rfl ?_)
      refine WK.cond2 rfl (fun h => ?_) (fun h => ?_)
      · have hlt : prioAt l (nth (ordN (prioAt l) i) q) < prioAt l i := by rw [er, ei]; exact of_decide_eq_true h
        repeat (first | refine WK.seq ?_ | refine WK.block ?_ | refine WK.inBlock ?_ | refine WK.skip ?_ | refine WK.label ?_ | refine WK.scope ?_ | refine WK.inScope ?_ | refine WK.exit rfl ?_)
        first | refine WK.reg 800 Try.ntmps47 (by kernel_rfl) ?_ | refine WK.regD 800 clsOf (by kernel_rfl) Try.ntmps47 (by kernel_rfl) (by kernel_rfl) ?_
        intro A hA Q hQ
        simp [w1]
        refine hQ _ _ ?_
        clear hQ hA
        repeat (first | refine WK.seq ?_ | refine WK.block ?_ | refine WK.inBlock ?_ | refine WK.skip ?_ | refine WK.label ?_ | refine WK.scope ?_ | refine WK.inScope ?_ | refine WK.exit rfl ?_)
        refine WK.next (fun n => n) (IHj (q) (⟨by omega, by rw [hj.2, posR, if_pos hlt]⟩) (by omega)) (by repeat (first | exact TmW.nil | refine TmW.upd ?_ (by simp (maxDischargeDepth := 120)))) (by repeat (first | exact BxW.nil | refine BxW.upd ?_ (by simp (maxDischargeDepth := 120)))) (by first | exact InjW.id | exact InjW.nil | exact InjW.one | exact InjW.two (by simp) | exact InjW.three (by simp) (by simp) (by simp))
      · have hge : ¬ prioAt l (nth (ordN (prioAt l) i) q) < prioAt l i := by rw [er, ei]; exact of_decide_eq_false h
        have e2 : posR (prioAt l) i (ordN (prioAt l) i) i = q + 1 := by rw [hj.2, posR, if_neg hge]
        repeat (first | refine WK.seq ?_ | refine WK.block ?_ | refine WK.inBlock ?_ | refine WK.skip ?_ | refine WK.label ?_ | refine WK.scope ?_ | refine WK.inScope ?_ | refine WK.exit rfl ?_)
        refine WK.next (fun n => n) hcut (by repeat (first | exact TmW.nil | refine TmW.upd ?_ (by simp (maxDischargeDepth := 120) [e2]))) (by repeat (first | exact BxW.nil | refine BxW.upd ?_ (by simp (maxDischargeDepth := 120) [e2]))) (by first | exact InjW.id | exact InjW.nil | exact InjW.one | exact InjW.two (by simp) | exact InjW.three (by simp) (by simp) (by simp))
    have hle := posR_le (prioAt l) i (ordN (prioAt l) i) i
    have e1 : intL (ordN (prioAt l) i) ++ [.int .i64 0] = intL (rowAt (ordN (prioAt l) i) (shiftX (ordN (prioAt l) i) i i) [] i) := by
      simp only [shiftX, if_true, rowAt]
      rw [List.take_of_length_le (by omega), List.drop_of_length_le (by omega)]
      simp [intL]
    repeat (first | refine WK.seq ?_ | refine WK.block ?_ | refine WK.inBlock ?_ | refine WK.skip ?_ | refine WK.label ?_ | refine WK.scope ?_ | refine WK.inScope ?_ | refine WK.exit rfl ?_)
    first | refine WK.reg 900 Try.ntmps47 (by kernel_rfl) ?_ | refine WK.regD 900 clsOf (by kernel_rfl) Try.ntmps47 (by kernel_rfl) (by kernel_rfl) ?_
    intro A hA Q hQ
    simp
    refine RunQ.append 901 appInt rfl rfl rfl rfl rfl rfl rfl (by simp [hb2, hp]) rfl (by simp [hb2, hp]) (by simp [hb2, hp]) (by simp [hb2, hp]) (by simp [hb2, hp]) ?_
    refine RunQ.eval ?_
    simp [hb2, hp]
    refine hQ _ _ ?_
    clear hQ hA
    have w2 : IntKind.i64.wrap ((i : Int)) = i := wrap_i64 (by omega) (by omega)
    repeat (first | refine WK.seq ?_ | refine WK.block ?_ | refine WK.inBlock ?_ | refine WK.skip ?_ | refine WK.label ?_ | refine WK.scope ?_ | refine WK.inScope ?_ | refine WK.exit rfl ?_)
    first | refine WK.reg 1000 Try.ntmps47 (by kernel_rfl) ?_ | refine WK.regD 1000 clsOf (by kernel_rfl) Try.ntmps47 (by kernel_rfl) (by kernel_rfl) ?_
    intro A hA Q hQ
    simp [w2]
    refine hQ _ _ ?_
    clear hQ hA
    repeat (first | refine WK.seq ?_ | refine WK.block ?_ | refine WK.inBlock ?_ | refine WK.skip ?_ | refine WK.label ?_ | refine WK.scope ?_ | refine WK.inScope ?_ | refine WK.exit rfl ?_)
    refine WK.loopI (fun _ => 901) (fun j : Nat => (⟨(upd (upd (upd (upd (upd J 0 (.sl false l.length (flowL l))) 3 (.msl 1 0 (i + 1))) 4 (.int .i64 i)) 5 (.int .i64 (posR (prioAt l) i (ordN (prioAt l) i) i))) 6 (.int .i64 j)), (upd B0 1 (.buf 1 (intL (rowAt (ordN (prioAt l) i) (shiftX (ordN (prioAt l) i) i j) [] j)))), 0⟩ : St)) (fun j => j ≤ i ∧ posR (prioAt l) i (ordN (prioAt l) i) i ≤ j) (fun j => j) (i) (by repeat (first | exact TmW.nil | refine TmW.upd ?_ (by simp (maxDischargeDepth := 120) [e1, w2]))) (by repeat (first | exact BxW.nil | refine BxW.upd ?_ (by simp (maxDischargeDepth := 120) [e1, w2]))) (by first | exact InjW.id | exact InjW.nil | exact InjW.one | exact InjW.two (by simp) | exact InjW.three (by simp) (by simp) (by simp)) (⟨by omega, hle⟩) (fun j hj IHj => ?_)
    have hL := rowAt_len (ordN (prioAt l) i) (shiftX (ordN (prioAt l) i) i j) [] j (by omega)
    have hL' : (rowAt (ordN (prioAt l) i) (shiftX (ordN (prioAt l) i) i j) [] j).length = i + 1 := by rw [hL, hp]; rfl
    by_cases hj0 : j = posR (prioAt l) i (ordN (prioAt l) i) i
    · have hd : ¬ posR (prioAt l) i (ordN (prioAt l) i) i < j := by omega
      have c1 : (posR (prioAt l) i (ordN (prioAt l) i) i : Int) < (i : Int) + 1 := by omega
      have b1 : posR (prioAt l) i (ordN (prioAt l) i) i < i + 1 := by omega
      have b2 : posR (prioAt l) i (ordN (prioAt l) i) i + 1 ≤ i + 1 := by omega
      have s1 := int_set (rowAt (ordN (prioAt l) i) (shiftX (ordN (prioAt l) i) i j) [] j) (posR (prioAt l) i (ordN (prioAt l) i) i) i (by rw [hL']; omega)
      have s2 : (rowAt (ordN (prioAt l) i) (shiftX (ordN (prioAt l) i) i j) [] j).set (posR (prioAt l) i (ordN (prioAt l) i) i) i = ordN (prioAt l) (i + 1) := by
        rw [← hj0, rowAt_set _ _ _ _ _ (by omega)]
        simp only [ordN, insR, hp, ← hj0]
        simp [rowAt]
      rw [s2] at s1
      repeat (first | refine WK.seq ?_ | refine WK.block ?_ | refine WK.inBlock ?_ | refine WK.skip ?_ | refine WK.label ?_ | refine WK.scope ?_ | refine WK.inScope ?_ | refine WK.exit rfl ?_)
      first | refine WK.reg 1100 Try.ntmps47 (by kernel_rfl) ?_ | refine WK.regD 1100 clsOf (by kernel_rfl) Try.ntmps47 (by kernel_rfl) (by kernel_rfl) ?_
      intro A hA Q hQ
      simp [hd]
      refine hQ _ _ ?_
      clear hQ hA
      repeat (first | refine WK.seq ?_ | refine WK.block ?_ | refine WK.inBlock ?_ | refine WK.skip ?_ | refine WK.label ?_ | refine WK.scope ?_ | refine WK.inScope ?_ | refine WK.exit rfl ?_)
      refine WK.cond2 rfl (fun h => ?_) (fun h => ?_)
      · cases h
      repeat (first | refine WK.seq ?_ | refine WK.block ?_ | refine WK.inBlock ?_ | refine WK.skip ?_ | refine WK.label ?_ | refine WK.scope ?_ | refine WK.inScope ?_ | refine WK.exit rfl ?_)
      first | refine WK.reg 1200 Try.ntmps47 (by kernel_rfl) ?_ | refine WK.regD 1200 clsOf (by kernel_rfl) Try.ntmps47 (by kernel_rfl) (by kernel_rfl) ?_
      intro A hA Q hQ
      simp [b1, b2, c1, hL', s1]
      refine hQ _ _ ?_
      clear hQ hA
      repeat (first | refine WK.seq ?_ | refine WK.block ?_ | refine WK.inBlock ?_ | refine WK.skip ?_ | refine WK.label ?_ | refine WK.scope ?_ | refine WK.inScope ?_ | refine WK.exit rfl ?_)
      first | refine WK.reg 1300 Try.ntmps47 (by kernel_rfl) ?_ | refine WK.regD 1300 clsOf (by kernel_rfl) Try.ntmps47 (by kernel_rfl) (by kernel_rfl) ?_
      intro A hA Q hQ
      simp [h6]
      refine hQ _ _ ?_
      clear hQ hA
      repeat (first | refine WK.seq ?_ | refine WK.block ?_ | refine WK.inBlock ?_ | refine WK.skip ?_ | refine WK.label ?_ | refine WK.scope ?_ | refine WK.inScope ?_ | refine WK.exit rfl ?_)
      refine WK.next (fun _ => 1) (IH (i + 1) (by omega) (by omega)) (by repeat (first | exact TmW.nil | refine TmW.upd ?_ (by simp (maxDischargeDepth := 120) [h6]))) (by repeat (first | exact BxW.nil | refine BxW.upd ?_ (by simp (maxDischargeDepth := 120) [h6]))) (by first | exact InjW.id | exact InjW.nil | exact InjW.one | exact InjW.two (by simp) | exact InjW.three (by simp) (by simp) (by simp))
    · obtain ⟨q, rfl⟩ : ∃ q, j = q + 1 := ⟨j - 1, by omega⟩
      have hd : decide ((posR (prioAt l) i (ordN (prioAt l) i) i : Int) < (q : Int) + 1) = true := decide_eq_true (by omega)
      have hql : q < (ordN (prioAt l) i).length := by omega
      have w1 : IntKind.i64.wrap (q : Int) = q := wrap_i64 (by omega) (by omega)
      have n2 := rowAt_nth1 (ordN (prioAt l) i) (shiftX (ordN (prioAt l) i) i (q + 1)) [] q hql
      have g2 := int_sub (rowAt (ordN (prioAt l) i) (shiftX (ordN (prioAt l) i) i (q + 1)) [] (q + 1)) q (by rw [hL']; omega)
      have s1 := int_set (rowAt (ordN (prioAt l) i) (shiftX (ordN (prioAt l) i) i (q + 1)) [] (q + 1)) (q + 1) (nth (ordN (prioAt l) i) q) (by rw [hL']; omega)
      have sx : nth (ordN (prioAt l) i) q = shiftX (ordN (prioAt l) i) i q := by unfold shiftX; rw [if_neg (by omega)]
      have s2 := rowAt_shift (ordN (prioAt l) i) (shiftX (ordN (prioAt l) i) i (q + 1)) q hql
      rw [s2] at s1
      have b1 : (q : Int) + 1 < (i : Int) + 1 := by omega
      have b2 : (0 : Int) ≤ (q : Int) + 1 := by omega
      have b3 : ((q : Int) + 1).toNat = q + 1 := by omega
      have b4 : q + 1 ≤ i := by omega
      have b5 : q < i + 1 := by omega
      have b6 : q < i := by omega
      have c1 : (q : Int) < (i : Int) + 1 := by omega
      repeat (first | refine WK.seq ?_ | refine WK.block ?_ | refine WK.inBlock ?_ | refine WK.skip ?_ | refine WK.label ?_ | refine WK.scope ?_ | refine WK.inScope ?_ | refine WK.exit rfl ?_)
      first | refine WK.reg 1400 Try.ntmps47 (by kernel_rfl) ?_ | refine WK.regD 1400 clsOf (by kernel_rfl) Try.ntmps47 (by kernel_rfl) (by kernel_rfl) ?_
      intro A hA Q hQ
      simp [hd]
      refine hQ _ _ ?_
      clear hQ hA
      repeat (first | refine WK.seq ?_ | refine WK.block ?_ | refine WK.inBlock ?_ | refine WK.skip ?_ | refine WK.label ?_ | refine WK.scope ?_ | refine WK.inScope ?_ | refine WK.exit rfl ?_)
      refine WK.cond2 rfl (fun h => ?_) (fun h => ?_)
      · repeat (first | refine WK.seq ?_ | refine WK.block ?_ | refine WK.inBlock ?_ | refine WK.skip ?_ | refine WK.label ?_ | refine WK.scope ?_ | refine WK.inScope ?_ | refine WK.exit rfl ?_)
        first | refine WK.reg 1500 Try.ntmps47 (by kernel_rfl) ?_ | refine WK.regD 1500 (clsM [(53, 1), (55, 1)]) (by kernel_rfl) Try.ntmps47 (by kernel_rfl) (by kernel_rfl) ?_
        intro A hA Q hQ
        simp [g2, n2, hL', w1, b1, b2, b3, b4, b5, b6, c1, s1]
        refine hQ _ _ ?_
        clear hQ hA
        repeat (first | refine WK.seq ?_ | refine WK.block ?_ | refine WK.inBlock ?_ | refine WK.skip ?_ | refine WK.label ?_ | refine WK.scope ?_ | refine WK.inScope ?_ | refine WK.exit rfl ?_)
        first | refine WK.reg 1600 Try.ntmps47 (by kernel_rfl) ?_ | refine WK.regD 1600 clsOf (by kernel_rfl) Try.ntmps47 (by kernel_rfl) (by kernel_rfl) ?_
        intro A hA Q hQ
        simp [w1]
        refine hQ _ _ ?_
        clear hQ hA
        repeat (first | refine WK.seq ?_ | refine WK.block ?_ | refine WK.inBlock ?_ | refine WK.skip ?_ | refine WK.label ?_ | refine WK.scope ?_ | refine WK.inScope ?_ | refine WK.exit rfl ?_)
        refine WK.next (fun n => n) (IHj (q) (⟨by omega, by omega⟩) (by omega)) (by repeat (first | exact TmW.nil | refine TmW.upd ?_ (by simp (maxDischargeDepth := 120) [sx]))) (by repeat (first | exact BxW.nil | refine BxW.upd ?_ (by simp (maxDischargeDepth := 120) [sx]))) (by first | exact InjW.id | exact InjW.nil | exact InjW.one | exact InjW.two (by simp) | exact InjW.three (by simp) (by simp) (by simp))
      · cases h
  · simp at h1
    have e : i = l.length := by omega
    subst e
    have hL := orderOf_len l
    have hT : (intL (orderOf l)).take l.length = intL (orderOf l) := List.take_of_length_le (by simp [hL])
    unfold orderOf at hT hL
    repeat (first | refine WK.seq ?_ | refine WK.block ?_ | refine WK.inBlock ?_ | refine WK.skip ?_ | refine WK.label ?_ | refine WK.scope ?_ | refine WK.inScope ?_ | refine WK.exit rfl ?_)
    first | refine WK.reg 1700 Try.ntmps47 (by kernel_rfl) ?_ | refine WK.regD 1700 clsOf (by kernel_rfl) Try.ntmps47 (by kernel_rfl) (by kernel_rfl) ?_
    intro A hA Q hQ
    simp
    refine hQ _ _ ?_
    clear hQ hA
    repeat (first | refine WK.seq ?_ | refine WK.block ?_ | refine WK.inBlock ?_ | refine WK.skip ?_ | refine WK.label ?_ | refine WK.scope ?_ | refine WK.inScope ?_ | refine WK.exit rfl ?_)
    refine WK.ghost (Ghost.frzSl 2 1 rfl rfl) ?_
    repeat (first | refine WK.seq ?_ | refine WK.block ?_ | refine WK.inBlock ?_ | refine WK.skip ?_ | refine WK.label ?_ | refine WK.scope ?_ | refine WK.inScope ?_ | refine WK.exit rfl ?_)
    refine WK.ret Try.func47 (by simp (maxDischargeDepth := 120) [Try.results47, intS, orderOf, hT, hL]) (by simp [intS, orderOf, hT, hL])
end Go.Proofs.Ytfgmjnmkcobhkaa
