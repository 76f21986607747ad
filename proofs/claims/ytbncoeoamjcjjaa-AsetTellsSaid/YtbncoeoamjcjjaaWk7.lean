/- Rows of actions compared and looked through; sets of actions: each place once. -/
import Derived.Test.YtbncoeoamjcjjaaWk6
import Derived.Test.YtbncoeoamjcjjaaWk2
set_option linter.all false
set_option linter.unnecessarySimpa false
section
set_option linter.unusedVariables false
set_option linter.unusedSimpArgs false
namespace Go.Proofs.Ytbncoeoamjcjjaa
open Go Go.AI Go.Proofs
attribute [local irreducible] FnP FnO FnB FnT FnSeq WK RunQ RunQW RunX RunXW

theorem aequal_c (l m : List Action) (hl : l.length ≤ 1000000) : FnP Try.prog 35 [actS l, actS m] (.bool (eqBy (· == ·) l m)) := by
  unfold actS
  refine FnP.intro Try.func35 rfl rfl fun G w => ?_
  repeat (first | refine WK.seq ?_ | refine WK.block ?_ | refine WK.inBlock ?_ | refine WK.skip ?_ | refine WK.label ?_ | refine WK.scope ?_ | refine WK.inScope ?_ | refine WK.exit rfl ?_)
  first | refine WK.reg 100 Try.ntmps35 (by kernel_rfl) ?_ | refine WK.regD 100 clsOf (by kernel_rfl) Try.ntmps35 (by kernel_rfl) (by kernel_rfl) ?_
  intro A hA Q hQ
  simp
  refine hQ _ _ ?_
  clear hQ hA
  repeat (first | refine WK.seq ?_ | refine WK.block ?_ | refine WK.inBlock ?_ | refine WK.skip ?_ | refine WK.label ?_ | refine WK.scope ?_ | refine WK.inScope ?_ | refine WK.exit rfl ?_)
  first | refine WK.reg 200 Try.ntmps35 (by kernel_rfl) ?_ | refine WK.regD 200 clsOf (by kernel_rfl) Try.ntmps35 (by kernel_rfl) (by kernel_rfl) ?_
  intro A hA Q hQ
  simp
  refine hQ _ _ ?_
  clear hQ hA
  repeat (first | refine WK.seq ?_ | refine WK.block ?_ | refine WK.inBlock ?_ | refine WK.skip ?_ | refine WK.label ?_ | refine WK.scope ?_ | refine WK.inScope ?_ | refine WK.exit rfl ?_)
  refine WK.cond2 rfl (fun h => ?_) (fun h => ?_)
  · simp at h
    have e : eqBy (· == ·) l m = false := by unfold eqBy; simp; intro e; omega
    repeat (first | refine WK.seq ?_ | refine WK.block ?_ | refine WK.inBlock ?_ | refine WK.skip ?_ | refine WK.label ?_ | refine WK.scope ?_ | refine WK.inScope ?_ | refine WK.exit rfl ?_)
    first | refine WK.reg 300 Try.ntmps35 (by kernel_rfl) ?_ | refine WK.regD 300 clsOf (by kernel_rfl) Try.ntmps35 (by kernel_rfl) (by kernel_rfl) ?_
    intro A hA Q hQ
    simp
    refine hQ _ _ ?_
    clear hQ hA
    repeat (first | refine WK.seq ?_ | refine WK.block ?_ | refine WK.inBlock ?_ | refine WK.skip ?_ | refine WK.label ?_ | refine WK.scope ?_ | refine WK.inScope ?_ | refine WK.exit rfl ?_)
    refine WK.ret Try.func35 (by simp (maxDischargeDepth := 120) [Try.results35, e]) (by simp [e])
  · simp at h
    have hlm : l.length = m.length := by omega
    repeat (first | refine WK.seq ?_ | refine WK.block ?_ | refine WK.inBlock ?_ | refine WK.skip ?_ | refine WK.label ?_ | refine WK.scope ?_ | refine WK.inScope ?_ | refine WK.exit rfl ?_)
    first | refine WK.reg 400 Try.ntmps35 (by kernel_rfl) ?_ | refine WK.regD 400 clsOf (by kernel_rfl) Try.ntmps35 (by kernel_rfl) (by kernel_rfl) ?_
    intro A hA Q hQ
    simp
    refine hQ _ _ ?_
    clear hQ hA
    repeat (first | refine WK.seq ?_ | refine WK.block ?_ | refine WK.inBlock ?_ | refine WK.skip ?_ | refine WK.label ?_ | refine WK.scope ?_ | refine WK.inScope ?_ | refine WK.exit rfl ?_)
    refine WK.loopI (fun n => n) (fun i : Nat => (⟨(upd (upd (upd (upd J 0 (.sl false l.length (actL l))) 1 (.sl false m.length (actL m))) 12 (.int .i64 l.length)) 13 (.int .i64 i)), B0, 0⟩ : St)) (fun i => i ≤ l.length ∧ ∀ j, j < i → (nth l j == nth m j) = true) (fun i => l.length - i) (0) (by repeat (first | exact TmW.nil | refine TmW.upd ?_ (by simp (maxDischargeDepth := 120)))) (by repeat (first | exact BxW.nil | refine BxW.upd ?_ (by simp (maxDischargeDepth := 120)))) (by first | exact InjW.id | exact InjW.nil | exact InjW.one | exact InjW.two (by simp) | exact InjW.three (by simp) (by simp) (by simp)) (⟨by omega, by simp⟩) (fun i hi IH => ?_)
    by_cases h1 : i < l.length
    · obtain ⟨h4, h3⟩ := act_load l i h1
      obtain ⟨h4', h3'⟩ := act_load m i (by omega)
      have h1m : i < m.length := by omega
      have h6 : IntKind.i64.wrap ((i : Int) + 1) = i + 1 := wrap_i64 (by omega) (by omega)
      clear h
      cases h5 : nth l i == nth m i
      · have e : eqBy (· == ·) l m = false := by unfold eqBy; rw [all_range_false (p := fun i => (nth l i == nth m i)) h1 h5]; simp
        clear hlm
        repeat' (first
         | refine WK.seq ?_
         | refine WK.block ?_
         | refine WK.inBlock ?_
         | refine WK.skip ?_
         | refine WK.label ?_
         | refine WK.scope ?_
         | refine WK.inScope ?_
         | refine WK.exit rfl ?_
         | refine WK.condT rfl ?_
         | refine WK.condF rfl ?_
         | (refine Hid.h hQ _ _ ?_; clear hQ hA)
         | refine WK.condAny rfl ?_ ?_
         | ((first | refine WK.cond2 rfl (fun h => ?_) (fun h => ?_)) <;> (first | (simp [*] at h; done) | (have h2 := h; simp at h2; exfalso; omega) | (have h2 := h; simp at h2; try simp only [Bool.not_eq_true', Bool.not_eq_false'] at h) | skip))
         | ((first | refine WK.regH Try.ntmps35 (by kernel_rfl) ?_ | refine WK.regX (by kernel_rfl) Try.ntmps35 (by kernel_rfl) ?_); intro A hA Q hQ; simp [*])
         | (refine Hid.h hQ _ _ _ (by decide +kernel) ?_; clear hQ hA)
         | (refine WK.ret Try.func35 ?_ ?_ <;> simp (maxDischargeDepth := 120) [Try.results35, e, *])
         | fail)
      · clear hlm
        repeat' (first
         | refine WK.seq ?_
         | refine WK.block ?_
         | refine WK.inBlock ?_
         | refine WK.skip ?_
         | refine WK.label ?_
         | refine WK.scope ?_
         | refine WK.inScope ?_
         | refine WK.exit rfl ?_
         | refine WK.condT rfl ?_
         | refine WK.condF rfl ?_
         | (refine Hid.h hQ _ _ ?_; clear hQ hA)
         | refine WK.condAny rfl ?_ ?_
         | ((first | refine WK.cond2 rfl (fun h => ?_) (fun h => ?_)) <;> (first | (simp [*] at h; done) | (have h2 := h; simp at h2; exfalso; omega) | (have h2 := h; simp at h2; try simp only [Bool.not_eq_true', Bool.not_eq_false'] at h) | skip))
         | ((first | refine WK.regH Try.ntmps35 (by kernel_rfl) ?_ | refine WK.regX (by kernel_rfl) Try.ntmps35 (by kernel_rfl) ?_); intro A hA Q hQ; simp [*])
         | (refine Hid.h hQ _ _ _ (by decide +kernel) ?_; clear hQ hA)
         | fail)
        repeat (first | refine WK.seq ?_ | refine WK.block ?_ | refine WK.inBlock ?_ | refine WK.skip ?_ | refine WK.label ?_ | refine WK.scope ?_ | refine WK.inScope ?_ | refine WK.exit rfl ?_)
        refine WK.next (fun n => n) (IH (i + 1) (⟨by omega, fun j hj => by by_cases h7 : j = i; (subst h7; simpa using h5); exact hi.2 j (by omega)⟩) (by first | omega | (dsimp only; omega))) (by repeat (first | exact TmW.nil | refine TmW.upd ?_ (by simp (maxDischargeDepth := 120)))) (by repeat (first | exact BxW.nil | refine BxW.upd ?_ (by simp (maxDischargeDepth := 120)))) (by first | exact InjW.id | exact InjW.nil | exact InjW.one | exact InjW.two (by simp) | exact InjW.three (by simp) (by simp) (by simp))
    · have e : eqBy (· == ·) l m = true := by unfold eqBy; rw [all_range_true (p := fun i => (nth l i == nth m i)) (fun j hj => hi.2 j (by omega))]; simp [hlm]
      repeat' (first
       | refine WK.seq ?_
       | refine WK.block ?_
       | refine WK.inBlock ?_
       | refine WK.skip ?_
       | refine WK.label ?_
       | refine WK.scope ?_
       | refine WK.inScope ?_
       | refine WK.exit rfl ?_
       | refine WK.condT rfl ?_
       | refine WK.condF rfl ?_
       | (refine Hid.h hQ _ _ ?_; clear hQ hA)
       | refine WK.condAny rfl ?_ ?_
       | ((first | refine WK.cond2 rfl (fun h => ?_) (fun h => ?_)) <;> (first | (simp [*] at h; done) | (have h2 := h; simp at h2; exfalso; omega) | (have h2 := h; simp at h2; try simp only [Bool.not_eq_true', Bool.not_eq_false'] at h) | skip))
       | ((first | refine WK.regH Try.ntmps35 (by kernel_rfl) ?_ | refine WK.regX (by kernel_rfl) Try.ntmps35 (by kernel_rfl) ?_); intro A hA Q hQ; simp [*])
       | (refine Hid.h hQ _ _ _ (by decide +kernel) ?_; clear hQ hA)
       | (refine WK.ret Try.func35 ?_ ?_ <;> simp (maxDischargeDepth := 120) [Try.results35, e, *])
       | fail)
end Go.Proofs.Ytbncoeoamjcjjaa
end

section
set_option linter.unusedVariables false
set_option linter.unusedSimpArgs false
namespace Go.Proofs.Ytbncoeoamjcjjaa
open Go Go.AI Go.Proofs
attribute [local irreducible] FnP FnO FnB FnT FnSeq WK RunQ RunQW RunX RunXW

theorem aLike_iff (a b : Action) : aLike a b = true ↔ aSpot a = aSpot b := by unfold aLike; rw [beq_iff_eq]
theorem aLike_comm (a b : Action) : aLike a b = aLike b a := by rw [Bool.eq_iff_iff, aLike_iff, aLike_iff]; exact ⟨Eq.symm, Eq.symm⟩
theorem awriteP_c (set l : List Action) (hs : set.length ≤ 500000) (hl : l.length ≤ 500000) : FnP Try.prog 16 [actS set, actS l] (actS (aWrite set l)) := by
  have h := (awriteO_c set l hs hl).toP (by simp)
  rw [act_full _ _ rfl] at h
  exact h
theorem alistP_c (set : List Action) (hs : set.length ≤ 500000) : FnP Try.prog 37 [actS set] (actS (aList set)) := by
  have h := (alist_c set hs).toP (by simp)
  rw [act_full _ _ rfl] at h
  exact h
def K28 (k p : Int) : Action := ⟨k, p, 0, 0, 0, oxm0⟩
theorem f28a : aWrite [] [K28 0 1, K28 0 2, K28 18 0] = [K28 0 2, K28 18 0] := by kernel_rfl
theorem f28b : aList [K28 0 2, K28 18 0] = [K28 18 0, K28 0 2] := by kernel_rfl
theorem f28c : aList [K28 22 0, K28 0 0] = [K28 22 0] := by kernel_rfl
end Go.Proofs.Ytbncoeoamjcjjaa
end

section
set_option linter.unusedVariables false
set_option linter.unusedSimpArgs false
namespace Go.Proofs.Ytbncoeoamjcjjaa
open Go Go.AI Go.Proofs
attribute [local irreducible] FnP FnO FnB FnT FnSeq WK RunQ RunQW RunX RunXW

theorem awake28_c : FnP Try.prog 15 [] (.bool true) := by
  have p := awriteP_c [] [K28 0 1, K28 0 2, K28 18 0] (by simp) (by simp)
  have q := alistP_c [K28 0 2, K28 18 0] (by simp)
  have q2 := alistP_c [K28 22 0, K28 0 0] (by simp)
  have r := arw_c (K28 17 0)
  rw [f28a] at p
  rw [f28b] at q
  rw [f28c] at q2
  rw [show aRw (K28 17 0) = rSet cubeZ 5 (bitW 12) (bitW 12) from rfl] at r
  have hg : (encC (rSet cubeZ 5 (bitW 12) (bitW 12)))[21]'(by simp) = .int .u64 4096 := by kernel_rfl
  obtain ⟨C, hC⟩ : ∃ C, rSet cubeZ 5 (bitW 12) (bitW 12) = C := ⟨_, rfl⟩
  rw [hC] at r hg
  clear hC
  simp only [actS, actL, K28, List.flatMap_cons, List.flatMap_nil, List.append_nil, List.cons_append, List.nil_append, List.length_cons, List.length_nil, Action.enc, oxm0, wideZ, uI_zero] at p q q2 r
  refine FnP.intro Try.func15 rfl rfl fun G w => ?_
  repeat' (first
   | refine WK.seq ?_
   | refine WK.block ?_
   | refine WK.inBlock ?_
   | refine WK.skip ?_
   | refine WK.label ?_
   | refine WK.scope ?_
   | refine WK.inScope ?_
   | refine WK.exit rfl ?_
   | refine WK.condT rfl ?_
   | refine WK.condF rfl ?_
   | (refine Hid.h hQ _ _ ?_; clear hQ hA)
   | refine WK.condAny rfl ?_ ?_
   | ((first | refine WK.cond2 rfl (fun h => ?_) (fun h => ?_) | refine Fork.mk (fun h => ?_) (fun h => ?_)) <;> (first | (simp [*] at h; done) | (have h2 := h; simp at h2; exfalso; omega) | (have h2 := h; simp at h2; try simp only [Bool.not_eq_true', Bool.not_eq_false'] at h) | skip))
   | (refine WK.regH Try.ntmps15 (by kernel_rfl) ?_; intro A hA Q hQ; simp [*])
   | (refine RunQ.gd rfl (by rw [hA.h]; rfl) ?_; simp [*])
   | ((first | ((first | refine RunQ.call rfl rfl rfl rfl rfl ?_ (p) ?_ ?_ | refine RunQW.call rfl rfl rfl rfl ?_ (p) ?_ ?_); (focus (simp (maxDischargeDepth := 120) [*]; done))) | ((first | refine RunQ.call rfl rfl rfl rfl rfl ?_ (q) ?_ ?_ | refine RunQW.call rfl rfl rfl rfl ?_ (q) ?_ ?_); (focus (simp (maxDischargeDepth := 120) [*]; done))) | ((first | refine RunQ.call rfl rfl rfl rfl rfl ?_ (q2) ?_ ?_ | refine RunQW.call rfl rfl rfl rfl ?_ (q2) ?_ ?_); (focus (simp (maxDischargeDepth := 120) [*]; done))) | ((first | refine RunQ.call rfl rfl rfl rfl rfl ?_ (r) ?_ ?_ | refine RunQW.call rfl rfl rfl rfl ?_ (r) ?_ ?_); (focus (simp (maxDischargeDepth := 120) [*]; done)))); (focus (simp [*]; done)); refine RunQ.evalH ?_; simp [*])
   | (refine WK.ret Try.func15 ?_ ?_ <;> simp (maxDischargeDepth := 120) [Try.results15, *])
   | fail)
end Go.Proofs.Ytbncoeoamjcjjaa
end

section
set_option linter.unusedVariables false
set_option linter.unusedSimpArgs false
namespace Go.Proofs.Ytbncoeoamjcjjaa
open Go Go.AI Go.Proofs
attribute [local irreducible] FnP FnO FnB FnT FnSeq WK RunQ RunQW RunX RunXW

theorem aList_len (set : List Action) (hs : set.length ≤ 500000) : (aList set).length = (aKept set).length := by
  obtain ⟨g, h1, h2, h3⟩ := alistO_c set hs
  have e : roB (aKept set) g (aKept set).length = aList set := sort_unique (roB_sorted h1) (aList_srt set) fun c => by
    rw [roB_stable h1 h2 c, aList_filter]
  have hl := roB_len (aKept set) g (aKept set).length
  rw [e] at hl
  exact hl
end Go.Proofs.Ytbncoeoamjcjjaa
end

section
set_option linter.unusedVariables false
set_option linter.unusedSimpArgs false
namespace Go.Proofs.Ytbncoeoamjcjjaa
open Go Go.AI Go.Proofs
attribute [local irreducible] FnP FnO FnB FnT FnSeq WK RunQ RunQW RunX RunXW

theorem eqBy_selfA (l : List Action) : eqBy (· == ·) l l = true := by unfold eqBy; simp
end Go.Proofs.Ytbncoeoamjcjjaa
end

section
set_option linter.unusedVariables false
set_option linter.unusedSimpArgs false
namespace Go.Proofs.Ytbncoeoamjcjjaa
open Go Go.AI Go.Proofs
attribute [local irreducible] FnP FnO FnB FnT FnSeq WK RunQ RunQW RunX RunXW

theorem r9clean_c (c : Cube) : FnP Try.prog 194 [.agg (encC c)] (.agg (encC (cubeClean c))) := by
  refine FnP.intro Try.func194 rfl rfl fun G w => ?_
  repeat (first | refine WK.seq ?_ | refine WK.block ?_ | refine WK.inBlock ?_ | refine WK.skip ?_ | refine WK.label ?_ | refine WK.scope ?_ | refine WK.inScope ?_ | refine WK.exit rfl ?_)
  first | refine WK.reg 100 Try.ntmps194 (by kernel_rfl) ?_ | refine WK.regD 100 clsOf (by kernel_rfl) Try.ntmps194 (by kernel_rfl) (by kernel_rfl) ?_
  intro A hA Q hQ
  simp
  refine hQ _ _ ?_
  clear hQ hA
  repeat (first | refine WK.seq ?_ | refine WK.block ?_ | refine WK.inBlock ?_ | refine WK.skip ?_ | refine WK.label ?_ | refine WK.scope ?_ | refine WK.inScope ?_ | refine WK.exit rfl ?_)
  first | refine WK.reg 200 Try.ntmps194 (by kernel_rfl) ?_ | refine WK.regD 200 clsOf (by kernel_rfl) Try.ntmps194 (by kernel_rfl) (by kernel_rfl) ?_
  intro A hA Q hQ
  simp
  refine hQ _ _ ?_
  clear hQ hA
  repeat (first | refine WK.seq ?_ | refine WK.block ?_ | refine WK.inBlock ?_ | refine WK.skip ?_ | refine WK.label ?_ | refine WK.scope ?_ | refine WK.inScope ?_ | refine WK.exit rfl ?_)
  refine WK.loopI (fun n => n) (fun i : Nat => (⟨(upd (upd (upd J 1 (.ptr 0 0)) 2 (.ptr 1 0)) 3 (.int .i64 i)), (upd (upd B0 0 (.var (encC fun j => if j < i then (c j).clean else c j))) 1 (.var (encC cubeZ))), 0⟩ : St)) (fun i => i ≤ 24) (fun i => 24 - i) (0) (by repeat (first | exact TmW.nil | refine TmW.upd ?_ (by simp (maxDischargeDepth := 120)))) (by repeat (first | exact BxW.nil | refine BxW.upd ?_ (by simp (maxDischargeDepth := 120)))) (by first | exact InjW.id | exact InjW.nil | exact InjW.one | exact InjW.two (by simp) | exact InjW.three (by simp) (by simp) (by simp)) (by omega) (fun i hi IH => ?_)
  repeat (first | refine WK.seq ?_ | refine WK.block ?_ | refine WK.inBlock ?_ | refine WK.skip ?_ | refine WK.label ?_ | refine WK.scope ?_ | refine WK.inScope ?_ | refine WK.exit rfl ?_)
  first | refine WK.reg 300 Try.ntmps194 (by kernel_rfl) ?_ | refine WK.regD 300 clsOf (by kernel_rfl) Try.ntmps194 (by kernel_rfl) (by kernel_rfl) ?_
  intro A hA Q hQ
  simp
  refine hQ _ _ ?_
  clear hQ hA
  repeat (first | refine WK.seq ?_ | refine WK.block ?_ | refine WK.inBlock ?_ | refine WK.skip ?_ | refine WK.label ?_ | refine WK.scope ?_ | refine WK.inScope ?_ | refine WK.exit rfl ?_)
  refine WK.cond2 rfl (fun h1 => ?_) (fun h1 => ?_)
  · simp at h1
    have h2 : i < 24 := by omega
    have h3 : i * 4 + 4 ≤ 96 := by omega
    have h6 : IntKind.i64.wrap ((i : Int) + 1) = i + 1 := wrap_i64 (by omega) (by omega)
    repeat (first | refine WK.seq ?_ | refine WK.block ?_ | refine WK.inBlock ?_ | refine WK.skip ?_ | refine WK.label ?_ | refine WK.scope ?_ | refine WK.inScope ?_ | refine WK.exit rfl ?_)
    first | refine WK.reg 400 Try.ntmps194 (by kernel_rfl) ?_ | refine WK.regD 400 clsOf (by kernel_rfl) Try.ntmps194 (by kernel_rfl) (by kernel_rfl) ?_
    intro A hA Q hQ
    simp [h1, h2, h3, encC_sub]
    refine RunQ.call rfl rfl rfl rfl (by rfl) (by simp (maxDischargeDepth := 120) [h1, h2, h3, encC_set]) (rclean_c (c i)) (by simp [h1, h2, h3, encC_set]) ?_
    refine RunQ.eval ?_
    simp [h1, h2, h3, encC_set]
    refine hQ _ _ ?_
    clear hQ hA
    have h7 : encC (fun j => if j = i then (c i).clean else if j < i then (c j).clean else c j) = encC (fun j => if j < i + 1 then (c j).clean else c j) :=
      encN_congr _ _ fun j hj => by
        by_cases e : j = i
        · subst e; simp
        · by_cases e2 : j < i
          · simp [e, e2, show j < i + 1 by omega]
          · simp [e, e2, show ¬ j < i + 1 by omega]
    repeat (first | refine WK.seq ?_ | refine WK.block ?_ | refine WK.inBlock ?_ | refine WK.skip ?_ | refine WK.label ?_ | refine WK.scope ?_ | refine WK.inScope ?_ | refine WK.exit rfl ?_)
    first | refine WK.reg 500 Try.ntmps194 (by kernel_rfl) ?_ | refine WK.regD 500 clsOf (by kernel_rfl) Try.ntmps194 (by kernel_rfl) (by kernel_rfl) ?_
    intro A hA Q hQ
    simp [h6]
    refine hQ _ _ ?_
    clear hQ hA
    repeat (first | refine WK.seq ?_ | refine WK.block ?_ | refine WK.inBlock ?_ | refine WK.skip ?_ | refine WK.label ?_ | refine WK.scope ?_ | refine WK.inScope ?_ | refine WK.exit rfl ?_)
    refine WK.next (fun n => n) (IH (i + 1) (by omega) (by first | omega | (dsimp only; omega))) (by repeat (first | exact TmW.nil | refine TmW.upd ?_ (by simp (maxDischargeDepth := 120) [h2, h7]))) (by repeat (first | exact BxW.nil | refine BxW.upd ?_ (by simp (maxDischargeDepth := 120) [h2, h7]))) (by first | exact InjW.id | exact InjW.nil | exact InjW.one | exact InjW.two (by simp) | exact InjW.three (by simp) (by simp) (by simp))
  · simp at h1
    repeat (first | refine WK.seq ?_ | refine WK.block ?_ | refine WK.inBlock ?_ | refine WK.skip ?_ | refine WK.label ?_ | refine WK.scope ?_ | refine WK.inScope ?_ | refine WK.exit rfl ?_)
    first | refine WK.reg 600 Try.ntmps194 (by kernel_rfl) ?_ | refine WK.regD 600 clsOf (by kernel_rfl) Try.ntmps194 (by kernel_rfl) (by kernel_rfl) ?_
    intro A hA Q hQ
    simp
    refine hQ _ _ ?_
    clear hQ hA
    have h8 : encC (fun j => if j < i then (c j).clean else c j) = encC (cubeClean c) := encN_congr _ _ fun j hj => by simp [show j < i by omega, cubeClean]
    repeat (first | refine WK.seq ?_ | refine WK.block ?_ | refine WK.inBlock ?_ | refine WK.skip ?_ | refine WK.label ?_ | refine WK.scope ?_ | refine WK.inScope ?_ | refine WK.exit rfl ?_)
    refine WK.ret Try.func194 (by simp (maxDischargeDepth := 120) [Try.results194, h8]) (by simp [h8])
def thenC (a b : Cube) : Cube := fun j => tOver (a j) (b j)
theorem encC_v (c : Cube) (i : Nat) (h : i < 24) : ((encC c).drop (i * 4)).take 2 = (c i).value.enc := by
  have e := encC_sub c i h
  have e2 : ((encC c).drop (i * 4)).take 2 = (((encC c).drop (i * 4)).take 4).take 2 := by rw [List.take_take]; rfl
  rw [e2, e]; rfl
theorem encC_m (c : Cube) (i : Nat) (h : i < 24) : ((encC c).drop (i * 4 + 2)).take 2 = (c i).mask.enc := by
  have e := encC_sub c i h
  have e2 : ((encC c).drop (i * 4 + 2)).take 2 = (((encC c).drop (i * 4)).take 4).drop 2 := by rw [List.drop_take, List.drop_drop]
  rw [e2, e]; rfl
set_option maxHeartbeats 1000000 in
theorem r9then_c (a b : Cube) : FnP Try.prog 154 [.agg (encC a), .agg (encC b)] (.agg (encC (thenC a b))) := by
  have k0 : encC (cubeClean a) = encC (fun j => if j < 0 then thenC a b j else (a j).clean) := encN_congr _ _ fun j hj => by simp [cubeClean]
  have c1 := r9clean_c a
  have c2 := r9clean_c b
  rw [k0] at c1
  clear k0
  refine FnP.intro Try.func154 rfl rfl fun G w => ?_
  repeat' (first
   | refine WK.seq ?_
   | refine WK.block ?_
   | refine WK.inBlock ?_
   | refine WK.skip ?_
   | refine WK.label ?_
   | refine WK.scope ?_
   | refine WK.inScope ?_
   | refine WK.exit rfl ?_
   | refine WK.condT rfl ?_
   | refine WK.condF rfl ?_
   | (refine Hid.h hQ _ _ ?_; clear hQ hA)
   | refine WK.condAny rfl ?_ ?_
   | ((first | refine WK.cond2 rfl (fun h => ?_) (fun h => ?_)) <;> (first | (simp [*] at h; done) | (have h2 := h; simp at h2; exfalso; omega) | (have h2 := h; simp at h2; try simp only [Bool.not_eq_true', Bool.not_eq_false'] at h) | skip))
   | ((first | refine WK.regH Try.ntmps154 (by kernel_rfl) ?_ | refine WK.regX (by kernel_rfl) Try.ntmps154 (by kernel_rfl) ?_); intro A hA Q hQ; simp [*])
   | (refine Hid.h hQ _ _ _ (by decide +kernel) ?_; clear hQ hA)
   | ((first | ((first | refine RunQ.call rfl rfl rfl rfl rfl ?_ (c1) ?_ ?_ | refine RunX.call rfl rfl rfl rfl ?_ (c1) ?_ ?_); (focus (simp (maxDischargeDepth := 120) [*]; done))) | ((first | refine RunQ.call rfl rfl rfl rfl rfl ?_ (c2) ?_ ?_ | refine RunX.call rfl rfl rfl rfl ?_ (c2) ?_ ?_); (focus (simp (maxDischargeDepth := 120) [*]; done)))); (focus (simp [*]; done)); (first | refine RunQ.evalH ?_ | refine RunX.evalY ?_); simp [*])
   | fail)
  repeat (first | refine WK.seq ?_ | refine WK.block ?_ | refine WK.inBlock ?_ | refine WK.skip ?_ | refine WK.label ?_ | refine WK.scope ?_ | refine WK.inScope ?_ | refine WK.exit rfl ?_)
  refine WK.loopI (fun n => n) (fun i : Nat => (⟨(upd (upd (upd (upd J 2 (.ptr 0 0)) 3 (.ptr 1 0)) 4 (.ptr 2 0)) 5 (.int .i64 i)), (upd (upd (upd B0 0 (.var (encC fun j => if j < i then thenC a b j else (a j).clean))) 1 (.var (encC (cubeClean b)))) 2 (.var (encC cubeZ))), 0⟩ : St)) (fun i => i ≤ 24) (fun i => 24 - i) (0) (by repeat (first | exact TmW.nil | refine TmW.upd ?_ (by simp (maxDischargeDepth := 120)))) (by repeat (first | exact BxW.nil | refine BxW.upd ?_ (by simp (maxDischargeDepth := 120)))) (by first | exact InjW.id | exact InjW.nil | exact InjW.one | exact InjW.two (by simp) | exact InjW.three (by simp) (by simp) (by simp)) (Nat.zero_le _) (fun i hi IH => ?_)
  obtain ⟨X, hX⟩ : ∃ X : Cube, (fun j => if j < i then thenC a b j else (a j).clean) = X := ⟨_, rfl⟩
  by_cases h1 : i < 24
  · have h1' : (i : Int) < 24 := by omega
    have h3 : i * 4 + 4 ≤ 96 := by omega
    have h3' : i * 4 + 2 ≤ 96 := by omega
    have h4 : 2 ≤ 96 - i * 4 := by omega
    have h4' : 2 ≤ 96 - (i * 4 + 2) := by omega
    have h6 : IntKind.i64.wrap ((i : Int) + 1) = i + 1 := wrap_i64 (by omega) (by omega)
    have xi : X i = (a i).clean := by rw [← hX]; simp
    have v1 := encC_v X i h1
    have m1 := encC_m X i h1
    have v2 := encC_v (cubeClean b) i h1
    have m2 := encC_m (cubeClean b) i h1
    have l1 := rless_c (X i).value (cubeClean b i).mask
    have l2 := ror_c ((X i).value.less (cubeClean b i).mask) (cubeClean b i).value
    have l3 := ror_c (X i).mask (cubeClean b i).mask
    have st := encC_set X i (thenC a b i) h1
    have hn : encC (fun j => if j = i then thenC a b i else X j) = encC (fun j => if j < i + 1 then thenC a b j else (a j).clean) := encN_congr _ _ fun j hj => by
      rw [← hX]
      by_cases e : j = i
      · subst e; simp
      · by_cases e2 : j < i
        · simp [e, e2, show j < i + 1 by omega]
        · simp [e, e2, show ¬ j < i + 1 by omega]
    rw [hn] at st
    have te : (thenC a b i).enc = ((((X i).value.less (cubeClean b i).mask).or (cubeClean b i).value).enc ++ ((X i).mask.or (cubeClean b i).mask).enc) := by rw [xi]; rfl
    rw [te] at st
    obtain ⟨p, hp⟩ : ∃ p, (X i).value = p := ⟨_, rfl⟩
    obtain ⟨q, hq⟩ : ∃ q, (X i).mask = q := ⟨_, rfl⟩
    obtain ⟨r, hr⟩ : ∃ r, (cubeClean b i).value = r := ⟨_, rfl⟩
    obtain ⟨s, hs⟩ : ∃ s, (cubeClean b i).mask = s := ⟨_, rfl⟩
    simp only [hp, hq, hr, hs] at v1 m1 v2 m2 l1 l2 l3 st
    rw [hX]
    clear hX hp hq hr hs xi te hn
    have st' : List.take (i * 4) (encC X) ++ (List.take 2 (((p.less s).or r).enc ++ [AV.int IntKind.u64 0, AV.int IntKind.u64 0]) ++ ((q.or s).enc ++ (List.drop 4 (((p.less s).or r).enc ++ [AV.int IntKind.u64 0, AV.int IntKind.u64 0]) ++ List.drop (i * 4 + 4) (encC X)))) = encC fun j => if j < i + 1 then thenC a b j else (a j).clean := st
    repeat' (first
     | refine WK.seq ?_
     | refine WK.block ?_
     | refine WK.inBlock ?_
     | refine WK.skip ?_
     | refine WK.label ?_
     | refine WK.scope ?_
     | refine WK.inScope ?_
     | refine WK.exit rfl ?_
     | refine WK.condT rfl ?_
     | refine WK.condF rfl ?_
     | (refine Hid.h hQ _ _ ?_; clear hQ hA)
     | refine WK.condAny rfl ?_ ?_
     | ((first | refine WK.cond2 rfl (fun h => ?_) (fun h => ?_)) <;> (first | (simp [*] at h; done) | (have h2 := h; simp at h2; exfalso; omega) | (have h2 := h; simp at h2; try simp only [Bool.not_eq_true', Bool.not_eq_false'] at h) | skip))
     | ((first | refine WK.regH Try.ntmps154 (by kernel_rfl) ?_ | refine WK.regX (by kernel_rfl) Try.ntmps154 (by kernel_rfl) ?_); intro A hA Q hQ; simp [*])
     | (refine Hid.h hQ _ _ _ (by decide +kernel) ?_; clear hQ hA)
     | ((first | ((first | refine RunQ.call rfl rfl rfl rfl rfl ?_ (l1) ?_ ?_ | refine RunX.call rfl rfl rfl rfl ?_ (l1) ?_ ?_); (focus (simp (maxDischargeDepth := 120) [*]; done))) | ((first | refine RunQ.call rfl rfl rfl rfl rfl ?_ (l2) ?_ ?_ | refine RunX.call rfl rfl rfl rfl ?_ (l2) ?_ ?_); (focus (simp (maxDischargeDepth := 120) [*]; done))) | ((first | refine RunQ.call rfl rfl rfl rfl rfl ?_ (l3) ?_ ?_ | refine RunX.call rfl rfl rfl rfl ?_ (l3) ?_ ?_); (focus (simp (maxDischargeDepth := 120) [*]; done)))); (focus (simp [*]; done)); (first | refine RunQ.evalH ?_ | refine RunX.evalY ?_); simp [*])
     | fail)
    repeat (first | refine WK.seq ?_ | refine WK.block ?_ | refine WK.inBlock ?_ | refine WK.skip ?_ | refine WK.label ?_ | refine WK.scope ?_ | refine WK.inScope ?_ | refine WK.exit rfl ?_)
    refine WK.next (fun n => n) (IH (i + 1) (by omega) (by first | omega | (dsimp only; omega))) (by repeat (first | exact TmW.nil | refine TmW.upd ?_ (by simp (maxDischargeDepth := 120) [st']))) (by repeat (first | exact BxW.nil | refine BxW.upd ?_ (by simp (maxDischargeDepth := 120) [st']))) (by first | exact InjW.id | exact InjW.nil | exact InjW.one | exact InjW.two (by simp) | exact InjW.three (by simp) (by simp) (by simp))
  · have h1' : ¬ (i : Int) < 24 := by omega
    have h8 : encC X = encC (thenC a b) := encN_congr _ _ fun j hj => by rw [← hX]; simp [show j < i by omega]
    rw [hX, h8]
    clear hX h8
    repeat' (first
     | refine WK.seq ?_
     | refine WK.block ?_
     | refine WK.inBlock ?_
     | refine WK.skip ?_
     | refine WK.label ?_
     | refine WK.scope ?_
     | refine WK.inScope ?_
     | refine WK.exit rfl ?_
     | refine WK.condT rfl ?_
     | refine WK.condF rfl ?_
     | (refine Hid.h hQ _ _ ?_; clear hQ hA)
     | refine WK.condAny rfl ?_ ?_
     | ((first | refine WK.cond2 rfl (fun h => ?_) (fun h => ?_)) <;> (first | (simp [*] at h; done) | (have h2 := h; simp at h2; exfalso; omega) | (have h2 := h; simp at h2; try simp only [Bool.not_eq_true', Bool.not_eq_false'] at h) | skip))
     | ((first | refine WK.regH Try.ntmps154 (by kernel_rfl) ?_ | refine WK.regX (by kernel_rfl) Try.ntmps154 (by kernel_rfl) ?_); intro A hA Q hQ; simp [*])
     | (refine Hid.h hQ _ _ _ (by decide +kernel) ?_; clear hQ hA)
     | (refine WK.ret Try.func154 ?_ ?_ <;> simp (maxDischargeDepth := 120) [Try.results154, *])
     | fail)
theorem then_set (c : Cube) (f : Int) (v m : Wide) (hr : fRight f = true) : thenC c (fun j => if (j : Int) = f then ⟨v, m⟩ else ternZ) = rSet c f v m := by
  funext j
  unfold thenC rSet
  rw [if_pos hr]
  by_cases e : (j : Int) = f
  · simp only [e, if_true]; rw [tOver_clean]
  · simp only [e, if_false]; rw [tOver_zero]
theorem then_none (c : Cube) (f : Int) (v m : Wide) (hr : fRight f = false) : thenC c cubeZ = rSet c f v m := by
  funext j
  unfold thenC rSet
  rw [hr, if_neg Bool.false_ne_true]
  exact tOver_zero _
theorem r9set_c (c : Cube) (f : Int) (v m : Wide) : FnP Try.prog 107 [.agg (encC c), .int .i64 f, .agg v.enc, .agg m.enc] (.agg (encC (rSet c f v m))) := by
  have hrf := rfright_c f
  cases hr : fRight f
  · have t := r9then_c c cubeZ
    rw [then_none c f v m hr] at t
    rw [hr] at hrf
    refine FnP.intro Try.func107 rfl rfl fun G w => ?_
    repeat' (first
     | refine WK.seq ?_
     | refine WK.block ?_
     | refine WK.inBlock ?_
     | refine WK.skip ?_
     | refine WK.label ?_
     | refine WK.scope ?_
     | refine WK.inScope ?_
     | refine WK.exit rfl ?_
     | refine WK.condT rfl ?_
     | refine WK.condF rfl ?_
     | (refine Hid.h hQ _ _ ?_; clear hQ hA)
     | refine WK.condAny rfl ?_ ?_
     | ((first | refine WK.cond2 rfl (fun h => ?_) (fun h => ?_)) <;> (first | (simp [*] at h; done) | (have h2 := h; simp at h2; exfalso; omega) | (have h2 := h; simp at h2; try simp only [Bool.not_eq_true', Bool.not_eq_false'] at h) | skip))
     | (refine WK.regH Try.ntmps107 (by kernel_rfl) ?_; intro A hA Q hQ; simp [*])
     | ((first | (refine RunQ.call rfl rfl rfl rfl rfl ?_ (hrf) ?_ ?_; (focus (simp (maxDischargeDepth := 120) [*]; done))) | (refine RunQ.call rfl rfl rfl rfl rfl ?_ (t) ?_ ?_; (focus (simp (maxDischargeDepth := 120) [*]; done)))); (focus (simp [*]; done)); refine RunQ.evalH ?_; simp [*])
     | (refine WK.ret Try.func107 ?_ ?_ <;> simp (maxDischargeDepth := 120) [Try.results107, *])
     | fail)
  · obtain ⟨n, hn⟩ : ∃ n : Nat, f = n := ⟨f.toNat, by simp [fRight] at hr; omega⟩
    have t := r9then_c c (fun j => if (j : Int) = f then ⟨v, m⟩ else ternZ)
    rw [then_set c f v m hr] at t
    rw [hr] at hrf
    subst hn
    have h2 : n < 24 := by simp [fRight] at hr; omega
    have h3 : n * 4 + 4 ≤ 96 := by omega
    have h1 : (n : Int) < 24 := by omega
    have st := encC_set cubeZ n ⟨v, m⟩ h2
    have e : encC (fun j => if j = n then ⟨v, m⟩ else cubeZ j) = encC (fun j : Nat => if (j : Int) = (n : Int) then ⟨v, m⟩ else ternZ) := encN_congr _ _ fun j hj => by
      by_cases e : j = n
      · subst e; simp
      · have : ¬ (j : Int) = n := by omega
        simp [e, this, cubeZ]
    rw [e] at st
    obtain ⟨C, hC⟩ : ∃ C : Cube, (fun j : Nat => if (j : Int) = (n : Int) then (⟨v, m⟩ : Tern) else ternZ) = C := ⟨_, rfl⟩
    rw [hC] at st t
    clear hC e
    have st' : List.take (n * 4) (encC cubeZ) ++ (List.take 2 (v.enc ++ [AV.int IntKind.u64 0, AV.int IntKind.u64 0]) ++ (m.enc ++ (List.drop 4 (v.enc ++ [AV.int IntKind.u64 0, AV.int IntKind.u64 0]) ++ List.drop (n * 4 + 4) (encC cubeZ)))) = encC C := st
    clear st
    refine FnP.intro Try.func107 rfl rfl fun G w => ?_
    repeat' (first
     | refine WK.seq ?_
     | refine WK.block ?_
     | refine WK.inBlock ?_
     | refine WK.skip ?_
     | refine WK.label ?_
     | refine WK.scope ?_
     | refine WK.inScope ?_
     | refine WK.exit rfl ?_
     | refine WK.condT rfl ?_
     | refine WK.condF rfl ?_
     | (refine Hid.h hQ _ _ ?_; clear hQ hA)
     | refine WK.condAny rfl ?_ ?_
     | ((first | refine WK.cond2 rfl (fun h => ?_) (fun h => ?_)) <;> (first | (simp [*] at h; done) | (have h2 := h; simp at h2; exfalso; omega) | (have h2 := h; simp at h2; try simp only [Bool.not_eq_true', Bool.not_eq_false'] at h) | skip))
     | (refine WK.regH Try.ntmps107 (by kernel_rfl) ?_; intro A hA Q hQ; simp [*])
     | ((first | (refine RunQ.call rfl rfl rfl rfl rfl ?_ (hrf) ?_ ?_; (focus (simp (maxDischargeDepth := 120) [*]; done))) | (refine RunQ.call rfl rfl rfl rfl rfl ?_ (t) ?_ ?_; (focus (simp (maxDischargeDepth := 120) [*]; done)))); (focus (simp [*]; done)); refine RunQ.evalH ?_; simp [*])
     | (refine WK.ret Try.func107 ?_ ?_ <;> simp (maxDischargeDepth := 120) [Try.results107, *])
     | fail)
theorem r9none_c : FnP Try.prog 108 [] (.agg (encC cubeZ)) := by
  refine FnP.intro Try.func108 rfl rfl fun G w => ?_
  repeat' (first
   | refine WK.seq ?_
   | refine WK.block ?_
   | refine WK.inBlock ?_
   | refine WK.skip ?_
   | refine WK.label ?_
   | refine WK.scope ?_
   | refine WK.inScope ?_
   | refine WK.exit rfl ?_
   | refine WK.condT rfl ?_
   | refine WK.condF rfl ?_
   | (refine Hid.h hQ _ _ ?_; clear hQ hA)
   | refine WK.condAny rfl ?_ ?_
   | ((first | refine WK.cond2 rfl (fun h => ?_) (fun h => ?_)) <;> (first | (simp [*] at h; done) | (have h2 := h; simp at h2; exfalso; omega) | (have h2 := h; simp at h2; try simp only [Bool.not_eq_true', Bool.not_eq_false'] at h) | skip))
   | (refine WK.regH Try.ntmps108 (by kernel_rfl) ?_; intro A hA Q hQ; simp [*])
   | (refine WK.ret Try.func108 ?_ ?_ <;> simp (maxDischargeDepth := 120) [Try.results108, *])
   | fail)
theorem r28rw_c (a : Action) : FnP Try.prog 40 [.agg a.enc] (.agg (encC (aRw a))) := by
  have hl := rlow2_c 13 (by decide)
  have hl2 := rlow2_c 3 (by decide)
  have hb := rbit_c 12 (by decide)
  have hz : (Wide.enc wideZ) = [.int .u64 0, .int .u64 0] := rfl
  by_cases k1 : a.kind = 25
  · have e : aRw a = rSet cubeZ a.oxm.field a.oxm.tern.value a.oxm.tern.mask := by unfold aRw; rw [if_pos k1]
    obtain ⟨o, ho⟩ : ∃ o, a.oxm = o := ⟨_, rfl⟩
    rw [ho] at e
    have hs := r9set_c cubeZ o.field o.tern.value o.tern.mask
    have ht := rotern_c o
    obtain ⟨t, hT⟩ : ∃ t, o.tern = t := ⟨_, rfl⟩
    rw [hT] at hs ht e
    refine FnP.intro Try.func40 rfl rfl fun G w => ?_
    repeat' (first
     | refine WK.seq ?_
     | refine WK.block ?_
     | refine WK.inBlock ?_
     | refine WK.skip ?_
     | refine WK.label ?_
     | refine WK.scope ?_
     | refine WK.inScope ?_
     | refine WK.exit rfl ?_
     | refine WK.condT rfl ?_
     | refine WK.condF rfl ?_
     | (refine Hid.h hQ _ _ ?_; clear hQ hA)
     | refine WK.condAny rfl ?_ ?_
     | ((first | refine WK.cond2 rfl (fun h => ?_) (fun h => ?_)) <;> (first | (simp [*] at h; done) | (have h2 := h; simp at h2; exfalso; omega) | (have h2 := h; simp at h2; try simp only [Bool.not_eq_true', Bool.not_eq_false'] at h) | skip))
     | ((first | refine WK.regH Try.ntmps40 (by kernel_rfl) ?_ | refine WK.regX (by kernel_rfl) Try.ntmps40 (by kernel_rfl) ?_); intro A hA Q hQ; simp [Action.enc, Oxm.enc, Tern.enc, Wide.enc, *])
     | (refine Hid.h hQ _ _ _ (by decide +kernel) ?_; clear hQ hA)
     | ((first | ((first | refine RunQ.call rfl rfl rfl rfl rfl ?_ (r9none_c) ?_ ?_ | refine RunX.call rfl rfl rfl rfl ?_ (r9none_c) ?_ ?_); (focus (simp (maxDischargeDepth := 120) [Action.enc, Oxm.enc, Tern.enc, Wide.enc, *]; done))) | ((first | refine RunQ.call rfl rfl rfl rfl rfl ?_ (ht) ?_ ?_ | refine RunX.call rfl rfl rfl rfl ?_ (ht) ?_ ?_); (focus (simp (maxDischargeDepth := 120) [Action.enc, Oxm.enc, Tern.enc, Wide.enc, *]; done))) | ((first | refine RunQ.call rfl rfl rfl rfl rfl ?_ (hs) ?_ ?_ | refine RunX.call rfl rfl rfl rfl ?_ (hs) ?_ ?_); (focus (simp (maxDischargeDepth := 120) [Action.enc, Oxm.enc, Tern.enc, Wide.enc, *]; done)))); (focus (simp [Action.enc, Oxm.enc, Tern.enc, Wide.enc, *]; done)); (first | refine RunQ.evalH ?_ | refine RunX.evalY ?_); simp [Action.enc, Oxm.enc, Tern.enc, Wide.enc, *])
     | (refine WK.ret Try.func40 ?_ ?_ <;> simp (maxDischargeDepth := 120) [Try.results40, Action.enc, Oxm.enc, Tern.enc, Wide.enc, e, *])
     | fail)
  by_cases k2 : a.kind = 17
  · have e : aRw a = rSet cubeZ 5 (bitW 12) (bitW 12) := by unfold aRw; rw [if_neg k1, if_pos k2]
    have hs := r9set_c cubeZ 5 (bitW 12) (bitW 12)
    have hb' : FnP Try.prog 109 [.int .i64 12] (.agg (bitW 12).enc) := hb
    refine FnP.intro Try.func40 rfl rfl fun G w => ?_
    repeat' (first
     | refine WK.seq ?_
     | refine WK.block ?_
     | refine WK.inBlock ?_
     | refine WK.skip ?_
     | refine WK.label ?_
     | refine WK.scope ?_
     | refine WK.inScope ?_
     | refine WK.exit rfl ?_
     | refine WK.condT rfl ?_
     | refine WK.condF rfl ?_
     | (refine Hid.h hQ _ _ ?_; clear hQ hA)
     | refine WK.condAny rfl ?_ ?_
     | ((first | refine WK.cond2 rfl (fun h => ?_) (fun h => ?_)) <;> (first | (simp [*] at h; done) | (have h2 := h; simp at h2; exfalso; omega) | (have h2 := h; simp at h2; try simp only [Bool.not_eq_true', Bool.not_eq_false'] at h) | skip))
     | ((first | refine WK.regH Try.ntmps40 (by kernel_rfl) ?_ | refine WK.regX (by kernel_rfl) Try.ntmps40 (by kernel_rfl) ?_); intro A hA Q hQ; simp [Action.enc, *])
     | (refine Hid.h hQ _ _ _ (by decide +kernel) ?_; clear hQ hA)
     | ((first | ((first | refine RunQ.call rfl rfl rfl rfl rfl ?_ (r9none_c) ?_ ?_ | refine RunX.call rfl rfl rfl rfl ?_ (r9none_c) ?_ ?_); (focus (simp (maxDischargeDepth := 120) [Action.enc, *]; done))) | ((first | refine RunQ.call rfl rfl rfl rfl rfl ?_ (hb') ?_ ?_ | refine RunX.call rfl rfl rfl rfl ?_ (hb') ?_ ?_); (focus (simp (maxDischargeDepth := 120) [Action.enc, *]; done))) | ((first | refine RunQ.call rfl rfl rfl rfl rfl ?_ (hs) ?_ ?_ | refine RunX.call rfl rfl rfl rfl ?_ (hs) ?_ ?_); (focus (simp (maxDischargeDepth := 120) [Action.enc, *]; done)))); (focus (simp [Action.enc, *]; done)); (first | refine RunQ.evalH ?_ | refine RunX.evalY ?_); simp [Action.enc, *])
     | (refine WK.ret Try.func40 ?_ ?_ <;> simp (maxDischargeDepth := 120) [Try.results40, Action.enc, e, *])
     | fail)
  by_cases k3 : a.kind = 18
  · have e : aRw a = rSet (rSet cubeZ 5 wideZ (lowW 13)) 6 wideZ (lowW 3) := by unfold aRw; rw [if_neg k1, if_neg k2, if_pos k3]
    have hs := r9set_c cubeZ 5 wideZ (lowW 13)
    have hs2 := r9set_c (rSet cubeZ 5 wideZ (lowW 13)) 6 wideZ (lowW 3)
    rw [hz] at hs hs2
    refine FnP.intro Try.func40 rfl rfl fun G w => ?_
    repeat' (first
     | refine WK.seq ?_
     | refine WK.block ?_
     | refine WK.inBlock ?_
     | refine WK.skip ?_
     | refine WK.label ?_
     | refine WK.scope ?_
     | refine WK.inScope ?_
     | refine WK.exit rfl ?_
     | refine WK.condT rfl ?_
     | refine WK.condF rfl ?_
     | (refine Hid.h hQ _ _ ?_; clear hQ hA)
     | refine WK.condAny rfl ?_ ?_
     | ((first | refine WK.cond2 rfl (fun h => ?_) (fun h => ?_)) <;> (first | (simp [*] at h; done) | (have h2 := h; simp at h2; exfalso; omega) | (have h2 := h; simp at h2; try simp only [Bool.not_eq_true', Bool.not_eq_false'] at h) | skip))
     | ((first | refine WK.regH Try.ntmps40 (by kernel_rfl) ?_ | refine WK.regX (by kernel_rfl) Try.ntmps40 (by kernel_rfl) ?_); intro A hA Q hQ; simp [Action.enc, *])
     | (refine Hid.h hQ _ _ _ (by decide +kernel) ?_; clear hQ hA)
     | ((first | ((first | refine RunQ.call rfl rfl rfl rfl rfl ?_ (r9none_c) ?_ ?_ | refine RunX.call rfl rfl rfl rfl ?_ (r9none_c) ?_ ?_); (focus (simp (maxDischargeDepth := 120) [Action.enc, *]; done))) | ((first | refine RunQ.call rfl rfl rfl rfl rfl ?_ (hl) ?_ ?_ | refine RunX.call rfl rfl rfl rfl ?_ (hl) ?_ ?_); (focus (simp (maxDischargeDepth := 120) [Action.enc, *]; done))) | ((first | refine RunQ.call rfl rfl rfl rfl rfl ?_ (hl2) ?_ ?_ | refine RunX.call rfl rfl rfl rfl ?_ (hl2) ?_ ?_); (focus (simp (maxDischargeDepth := 120) [Action.enc, *]; done))) | ((first | refine RunQ.call rfl rfl rfl rfl rfl ?_ (hs) ?_ ?_ | refine RunX.call rfl rfl rfl rfl ?_ (hs) ?_ ?_); (focus (simp (maxDischargeDepth := 120) [Action.enc, *]; done))) | ((first | refine RunQ.call rfl rfl rfl rfl rfl ?_ (hs2) ?_ ?_ | refine RunX.call rfl rfl rfl rfl ?_ (hs2) ?_ ?_); (focus (simp (maxDischargeDepth := 120) [Action.enc, *]; done)))); (focus (simp [Action.enc, *]; done)); (first | refine RunQ.evalH ?_ | refine RunX.evalY ?_); simp [Action.enc, *])
     | (refine WK.ret Try.func40 ?_ ?_ <;> simp (maxDischargeDepth := 120) [Try.results40, Action.enc, e, *])
     | fail)
  · have e : aRw a = cubeZ := by unfold aRw; rw [if_neg k1, if_neg k2, if_neg k3]
    refine FnP.intro Try.func40 rfl rfl fun G w => ?_
    repeat' (first
     | refine WK.seq ?_
     | refine WK.block ?_
     | refine WK.inBlock ?_
     | refine WK.skip ?_
     | refine WK.label ?_
     | refine WK.scope ?_
     | refine WK.inScope ?_
     | refine WK.exit rfl ?_
     | refine WK.condT rfl ?_
     | refine WK.condF rfl ?_
     | (refine Hid.h hQ _ _ ?_; clear hQ hA)
     | refine WK.condAny rfl ?_ ?_
     | ((first | refine WK.cond2 rfl (fun h => ?_) (fun h => ?_)) <;> (first | (simp [*] at h; done) | (have h2 := h; simp at h2; exfalso; omega) | (have h2 := h; simp at h2; try simp only [Bool.not_eq_true', Bool.not_eq_false'] at h) | skip))
     | ((first | refine WK.regH Try.ntmps40 (by kernel_rfl) ?_ | refine WK.regX (by kernel_rfl) Try.ntmps40 (by kernel_rfl) ?_); intro A hA Q hQ; simp [Action.enc, *])
     | (refine Hid.h hQ _ _ _ (by decide +kernel) ?_; clear hQ hA)
     | (((first | refine RunQ.call rfl rfl rfl rfl rfl ?_ (r9none_c) ?_ ?_ | refine RunX.call rfl rfl rfl rfl ?_ (r9none_c) ?_ ?_); (focus (simp (maxDischargeDepth := 120) [Action.enc, *]; done))); (focus (simp [Action.enc, *]; done)); (first | refine RunQ.evalH ?_ | refine RunX.evalY ?_); simp [Action.enc, *])
     | (refine WK.ret Try.func40 ?_ ?_ <;> simp (maxDischargeDepth := 120) [Try.results40, Action.enc, e, *])
     | fail)
end Go.Proofs.Ytbncoeoamjcjjaa
end

section
set_option linter.unusedVariables false
set_option linter.unusedSimpArgs false
namespace Go.Proofs.Ytbncoeoamjcjjaa
open Go Go.AI Go.Proofs
attribute [local irreducible] FnP FnO FnB FnT FnSeq WK RunQ RunQW RunX RunXW

theorem rlike28_c (a b : Action) : FnP Try.prog 93 [.agg a.enc, .agg b.enc] (.bool (aLike a b)) := by
  have e : aLike a b = (a.kind == b.kind && (!(a.kind == 25) || a.oxm.field == b.oxm.field)) := by
    rw [Bool.eq_iff_iff, aLike_iff]
    unfold aSpot
    by_cases h1 : a.kind = b.kind
    · by_cases h2 : a.kind = 25
      · have h3 : b.kind = 25 := by omega
        simp [h2, h3]
      · have h3 : ¬ b.kind = 25 := by omega
        simp [h1, h3]
    · simp [h1]
  rw [e]
  cases h1 : a.kind == b.kind
  · refine FnP.intro Try.func93 rfl rfl fun G w => ?_
    repeat' (first
     | refine WK.seq ?_
     | refine WK.block ?_
     | refine WK.inBlock ?_
     | refine WK.skip ?_
     | refine WK.label ?_
     | refine WK.scope ?_
     | refine WK.inScope ?_
     | refine WK.exit rfl ?_
     | refine WK.condT rfl ?_
     | refine WK.condF rfl ?_
     | (refine Hid.h hQ _ _ ?_; clear hQ hA)
     | refine WK.condAny rfl ?_ ?_
     | ((first | refine WK.cond2 rfl (fun h => ?_) (fun h => ?_) | refine Fork.mk (fun h => ?_) (fun h => ?_)) <;> (first | (simp [*] at h; done) | (have h2 := h; simp at h2; exfalso; omega) | (have h2 := h; simp at h2; try simp only [Bool.not_eq_true', Bool.not_eq_false'] at h) | skip))
     | (refine WK.regH Try.ntmps93 (by kernel_rfl) ?_; intro A hA Q hQ; simp [Action.enc, Oxm.enc, *])
     | (refine RunQ.gd rfl (by rw [hA.h]; rfl) ?_; simp [Action.enc, Oxm.enc, *])
     | (refine WK.ret Try.func93 ?_ ?_ <;> simp (maxDischargeDepth := 120) [Try.results93, Action.enc, Oxm.enc, *])
     | fail)
  · cases h2 : a.kind == 25
    · have h3 : bne a.kind 25 = true := by unfold bne; rw [h2]; rfl
      refine FnP.intro Try.func93 rfl rfl fun G w => ?_
      repeat' (first
       | refine WK.seq ?_
       | refine WK.block ?_
       | refine WK.inBlock ?_
       | refine WK.skip ?_
       | refine WK.label ?_
       | refine WK.scope ?_
       | refine WK.inScope ?_
       | refine WK.exit rfl ?_
       | refine WK.condT rfl ?_
       | refine WK.condF rfl ?_
       | (refine Hid.h hQ _ _ ?_; clear hQ hA)
       | refine WK.condAny rfl ?_ ?_
       | ((first | refine WK.cond2 rfl (fun h => ?_) (fun h => ?_) | refine Fork.mk (fun h => ?_) (fun h => ?_)) <;> (first | (simp [*] at h; done) | (have h2 := h; simp at h2; exfalso; omega) | (have h2 := h; simp at h2; try simp only [Bool.not_eq_true', Bool.not_eq_false'] at h) | skip))
       | (refine WK.regH Try.ntmps93 (by kernel_rfl) ?_; intro A hA Q hQ; simp [Action.enc, Oxm.enc, *])
       | (refine RunQ.gd rfl (by rw [hA.h]; rfl) ?_; simp [Action.enc, Oxm.enc, *])
       | (refine WK.ret Try.func93 ?_ ?_ <;> simp (maxDischargeDepth := 120) [Try.results93, Action.enc, Oxm.enc, *])
       | fail)
    · have h3 : bne a.kind 25 = false := by unfold bne; rw [h2]; rfl
      refine FnP.intro Try.func93 rfl rfl fun G w => ?_
      repeat' (first
       | refine WK.seq ?_
       | refine WK.block ?_
       | refine WK.inBlock ?_
       | refine WK.skip ?_
       | refine WK.label ?_
       | refine WK.scope ?_
       | refine WK.inScope ?_
       | refine WK.exit rfl ?_
       | refine WK.condT rfl ?_
       | refine WK.condF rfl ?_
       | (refine Hid.h hQ _ _ ?_; clear hQ hA)
       | refine WK.condAny rfl ?_ ?_
       | ((first | refine WK.cond2 rfl (fun h => ?_) (fun h => ?_) | refine Fork.mk (fun h => ?_) (fun h => ?_)) <;> (first | (simp [*] at h; done) | (have h2 := h; simp at h2; exfalso; omega) | (have h2 := h; simp at h2; try simp only [Bool.not_eq_true', Bool.not_eq_false'] at h) | skip))
       | (refine WK.regH Try.ntmps93 (by kernel_rfl) ?_; intro A hA Q hQ; simp [Action.enc, Oxm.enc, *])
       | (refine RunQ.gd rfl (by rw [hA.h]; rfl) ?_; simp [Action.enc, Oxm.enc, *])
       | (refine WK.ret Try.func93 ?_ ?_ <;> simp (maxDischargeDepth := 120) [Try.results93, Action.enc, Oxm.enc, *])
       | fail)
theorem firstI_cases (p : Nat → Bool) (n : Nat) : (firstI p n = -1 ∧ ∀ j, j < n → p j = false) ∨ ∃ i, i < n ∧ firstI p n = i ∧ p i = true ∧ ∀ j, j < i → p j = false := by
  unfold firstI
  cases h : (List.range n).find? p with
  | none =>
    rw [List.find?_range_eq_none] at h
    exact .inl ⟨rfl, fun j hj => by simpa using h j hj⟩
  | some i =>
    rw [List.find?_range_eq_some] at h
    exact .inr ⟨i, by simpa using h.2.1, rfl, h.1, fun j hj => by simpa using h.2.2 j hj⟩
theorem firstI_succ (p : Nat → Bool) (n : Nat) : firstI p (n + 1) = if firstI p n < 0 then (if p n then (n : Int) else -1) else firstI p n := by
  rcases firstI_cases p n with ⟨e, hn⟩ | ⟨i, hi, e, hp, hn⟩
  · rw [e, if_pos (by decide)]
    cases hp : p n
    · rw [if_neg Bool.false_ne_true]
      exact firstI_none fun j hj => by
        by_cases e : j = n
        · rw [e]; exact hp
        · exact hn j (by omega)
    · rw [if_pos rfl]; exact firstI_some (by omega) hp hn
  · rw [e, if_neg (by omega)]
    exact firstI_some (by omega) hp hn
theorem firstI_zero (p : Nat → Bool) : firstI p 0 = -1 := rfl
theorem aPut_idx (W : List Action) (x : Action) : (firstI (fun j => aLike (nth W j) x) W.length = -1 ∧ aPut W x = W ++ [x]) ∨
    ∃ k, k < W.length ∧ firstI (fun j => aLike (nth W j) x) W.length = (k : Nat) ∧ aPut W x = W.set k x := by
  rcases firstI_cases (fun j => aLike (nth W j) x) W.length with ⟨e, hn⟩ | ⟨k, hk, e, hp, hn⟩
  · refine .inl ⟨e, ?_⟩
    unfold aPut
    have : W.findIdx? (aLike x) = none := by
      rw [List.findIdx?_eq_none_iff]; intro y hy
      obtain ⟨j, hj, rfl⟩ := mem_nth hy
      rw [aLike_comm]; exact hn j hj
    rw [this]
  · refine .inr ⟨k, hk, e, ?_⟩
    unfold aPut
    have : W.findIdx? (aLike x) = some k := by
      rw [List.findIdx?_eq_some_iff_getElem]
      refine ⟨hk, by rw [← nth_eq hk, aLike_comm]; exact hp, fun j hj => ?_⟩
      have := hn j hj
      rw [aLike_comm, nth_eq (by omega)] at this
      simp [this]
    rw [this]
set_option maxHeartbeats 4000000 in
theorem rwriteO_c (set l : List Action) (hs : set.length ≤ 500000) (hl : l.length ≤ 500000) : FnO Try.prog 36 [actS set, actS l] (aWrite set l).length 11 (actL (aWrite set l)) := by
  have hb0 : set.length * 88 ≤ 140737488355328 := by omega
  unfold actS
  refine FnO.intro Try.func36 rfl rfl fun G w => ?_
  repeat' (first
   | refine WK.seq ?_
   | refine WK.block ?_
   | refine WK.inBlock ?_
   | refine WK.skip ?_
   | refine WK.label ?_
   | refine WK.scope ?_
   | refine WK.inScope ?_
   | refine WK.exit rfl ?_
   | refine WK.condT rfl ?_
   | refine WK.condF rfl ?_
   | (refine Hid.h hQ _ _ ?_; clear hQ hA)
   | refine WK.condAny rfl ?_ ?_
   | ((first | refine WK.cond2 rfl (fun h => ?_) (fun h => ?_) | refine Fork.mk (fun h => ?_) (fun h => ?_)) <;> (first | (simp [*] at h; done) | (have h2 := h; simp at h2; exfalso; omega) | (have h2 := h; simp at h2; try simp only [Bool.not_eq_true', Bool.not_eq_false'] at h) | skip))
   | ((first | refine WK.regH Try.ntmps36 (by kernel_rfl) ?_ | refine WK.regX (by kernel_rfl) Try.ntmps36 (by kernel_rfl) ?_); intro A hA Q hQ; simp [*])
   | (refine Hid.h hQ _ _ _ (by decide +kernel) ?_; clear hQ hA)
   | ((first | refine RunQ.gd rfl (by rw [hA.h]; rfl) ?_ | refine RunX.gd rfl (by rw [hA.h]; rfl) ?_); simp [*])
   | (refine RunQ.append0 900 901 appAct rfl rfl rfl rfl rfl rfl rfl ?_ rfl ?_ ?_ ?_ ?_ ?_ ?_; (focus (simp [*]; done)); (focus (first | omega | (simp [*]; done); done)); (focus (first | omega | (simp [*]; done); done)); (focus (simp [*]; done)); (focus (simp [*]; done)); (focus (simp [*]; done)); refine RunQ.evalH ?_; simp [*])
   | (refine RunQW.by (fun hw => ?_); refine RunQ.append0 900 901 appAct rfl rfl rfl rfl rfl rfl rfl ?_ hw ?_ ?_ ?_ ?_ ?_ ?_; (focus (simp [*]; done)); (focus (first | omega | (simp [*]; done); done)); (focus (first | omega | (simp [*]; done); done)); (focus (simp [*]; done)); (focus (simp [*]; done)); (focus (simp [*]; done)); clear hw; refine RunQ.evalH ?_; simp [*])
   | (refine RunX.append0 900 901 appAct rfl rfl rfl rfl rfl rfl ?_ rfl ?_ ?_ ?_ ?_ ?_ ?_; (focus (simp [*]; done)); (focus (first | omega | (simp [*]; done); done)); (focus (first | omega | (simp [*]; done); done)); (focus (simp [*]; done)); (focus (simp [*]; done)); (focus (simp [*]; done)); refine RunX.evalY ?_; simp [*])
   | (refine RunX.by (fun hw => ?_); refine RunX.append0 900 901 appAct rfl rfl rfl rfl rfl rfl ?_ hw ?_ ?_ ?_ ?_ ?_ ?_; (focus (simp [*]; done)); (focus (first | omega | (simp [*]; done); done)); (focus (first | omega | (simp [*]; done); done)); (focus (simp [*]; done)); (focus (simp [*]; done)); (focus (simp [*]; done)); clear hw; refine RunX.evalY ?_; simp [*])
   | fail)
  repeat (first | refine WK.seq ?_ | refine WK.block ?_ | refine WK.inBlock ?_ | refine WK.skip ?_ | refine WK.label ?_ | refine WK.scope ?_ | refine WK.inScope ?_ | refine WK.exit rfl ?_)
  refine WK.loopI (fun n => if n = 1 then 901 else n) (fun i : Nat => (⟨(upd (upd (upd J 1 (.sl false l.length (actL l))) 5 (.msl 1 0 (aWrite set (l.take i)).length)) 6 (.int .i64 i)), (upd B0 1 (.buf 11 (actL (aWrite set (l.take i))))), 0⟩ : St)) (fun i => i ≤ l.length) (fun i => l.length - i) (0) (by repeat (first | exact TmW.nil | refine TmW.upd ?_ (by simp (maxDischargeDepth := 120) [aWrite]))) (by repeat (first | exact BxW.nil | refine BxW.upd ?_ (by simp (maxDischargeDepth := 120) [aWrite]))) (by first | exact InjW.id | exact InjW.nil | exact InjW.one | exact InjW.two (by simp) | exact InjW.three (by simp) (by simp) (by simp)) (Nat.zero_le _) (fun i hi IH => ?_)
  have hln := aWrite_len set (l.take i)
  have htl : (l.take i).length ≤ l.length := List.length_take_le' _ _
  by_cases h1 : i < l.length
  · obtain ⟨h4, h3⟩ := act_load l i h1
    have h6 : IntKind.i64.wrap ((i : Int) + 1) = i + 1 := wrap_i64 (by omega) (by omega)
    have hnx := aWrite_succ (set := set) h1
    have hbi : i * 11 + 11 ≤ l.length * 11 := by omega
    obtain ⟨W, hW⟩ : ∃ W, aWrite set (l.take i) = W := ⟨_, rfl⟩
    obtain ⟨x, hx⟩ : ∃ x, nth l i = x := ⟨_, rfl⟩
    rw [hx] at h4 hnx
    rw [hW] at hln hnx ⊢
    have hWl : W.length ≤ 1000000 := by omega
    clear hW hx hln htl
    repeat' (first
     | refine WK.seq ?_
     | refine WK.block ?_
     | refine WK.inBlock ?_
     | refine WK.skip ?_
     | refine WK.label ?_
     | refine WK.scope ?_
     | refine WK.inScope ?_
     | refine WK.exit rfl ?_
     | refine WK.condT rfl ?_
     | refine WK.condF rfl ?_
     | (refine Hid.h hQ _ _ ?_; clear hQ hA)
     | refine WK.condAny rfl ?_ ?_
     | ((first | refine WK.cond2 rfl (fun h => ?_) (fun h => ?_) | refine Fork.mk (fun h => ?_) (fun h => ?_)) <;> (first | (simp [*] at h; done) | (have h2 := h; simp at h2; exfalso; omega) | (have h2 := h; simp at h2; try simp only [Bool.not_eq_true', Bool.not_eq_false'] at h) | skip))
     | ((first | refine WK.regH Try.ntmps36 (by kernel_rfl) ?_ | refine WK.regX (by kernel_rfl) Try.ntmps36 (by kernel_rfl) ?_); intro A hA Q hQ; simp [*])
     | (refine Hid.h hQ _ _ _ (by decide +kernel) ?_; clear hQ hA)
     | ((first | refine RunQ.gd rfl (by rw [hA.h]; rfl) ?_ | refine RunX.gd rfl (by rw [hA.h]; rfl) ?_); simp [*])
     | fail)
    repeat (first | refine WK.seq ?_ | refine WK.block ?_ | refine WK.inBlock ?_ | refine WK.skip ?_ | refine WK.label ?_ | refine WK.scope ?_ | refine WK.inScope ?_ | refine WK.exit rfl ?_)
    refine WK.loopI (fun n => n) (fun j : Nat => (⟨(upd (upd (upd (upd (upd J 1 (.sl false l.length (actL l))) 5 (.msl 1 0 W.length)) 6 (.int .i64 i)) 7 (.int .i64 (firstI (fun j => aLike (nth W j) x) j))) 8 (.int .i64 j)), (upd B0 1 (.buf 11 (actL W))), 0⟩ : St)) (fun j => j ≤ W.length) (fun j => W.length - j) (0) (by repeat (first | exact TmW.nil | refine TmW.upd ?_ (by simp (maxDischargeDepth := 120) [firstI_zero]))) (by repeat (first | exact BxW.nil | refine BxW.upd ?_ (by simp (maxDischargeDepth := 120) [firstI_zero]))) (by first | exact InjW.id | exact InjW.nil | exact InjW.one | exact InjW.two (by simp) | exact InjW.three (by simp) (by simp) (by simp)) (Nat.zero_le _) (fun j hj IHj => ?_)
    by_cases h2 : j < W.length
    · have hjx : (j : Int) < W.length := by omega
      have w6 : IntKind.i64.wrap ((j : Int) + 1) = j + 1 := wrap_i64 (by omega) (by omega)
      obtain ⟨w4, w3⟩ := act_load W j h2
      have w5 : j * 11 + 11 ≤ W.length * 11 := by omega
      have hsu := firstI_succ (fun j => aLike (nth W j) x) j
      have lk := rlike28_c (nth W j) x
      have hF1 : firstI (fun j => aLike (nth W j) x) j < 0 → firstI (fun j => aLike (nth W j) x) j = -1 := fun h => by
        rcases firstI_cases (fun j => aLike (nth W j) x) j with ⟨e, _⟩ | ⟨k, _, e, _⟩
        · exact e
        · omega
      obtain ⟨F, hF⟩ : ∃ F, firstI (fun j => aLike (nth W j) x) j = F := ⟨_, rfl⟩
      rw [hF] at hsu hF1 ⊢
      clear hF
      by_cases h5 : F < 0
      · rw [if_pos h5] at hsu
        obtain ⟨y, hy⟩ : ∃ y, nth W j = y := ⟨_, rfl⟩
        simp only [hy] at hsu lk
        rw [hy] at w4
        cases hp : aLike y x
        · rw [hp] at lk hsu
          rw [if_neg Bool.false_ne_true, ← hF1 h5] at hsu
          clear hy hp hF1
          repeat' (first
           | refine WK.seq ?_
           | refine WK.block ?_
           | refine WK.inBlock ?_
           | refine WK.skip ?_
           | refine WK.label ?_
           | refine WK.scope ?_
           | refine WK.inScope ?_
           | refine WK.exit rfl ?_
           | refine WK.condT rfl ?_
           | refine WK.condF rfl ?_
           | (refine Hid.h hQ _ _ ?_; clear hQ hA)
           | refine WK.condAny rfl ?_ ?_
           | ((first | refine WK.cond2 rfl (fun h => ?_) (fun h => ?_) | refine Fork.mk (fun h => ?_) (fun h => ?_)) <;> (first | (simp [*] at h; done) | (have h2 := h; simp at h2; exfalso; omega) | (have h2 := h; simp at h2; try simp only [Bool.not_eq_true', Bool.not_eq_false'] at h) | skip))
           | ((first | refine WK.regH Try.ntmps36 (by kernel_rfl) ?_ | refine WK.regX (by kernel_rfl) Try.ntmps36 (by kernel_rfl) ?_); intro A hA Q hQ; simp [*])
           | (refine Hid.h hQ _ _ _ (by decide +kernel) ?_; clear hQ hA)
           | ((first | refine RunQ.gd rfl (by rw [hA.h]; rfl) ?_ | refine RunX.gd rfl (by rw [hA.h]; rfl) ?_); simp [*])
           | (((first | refine RunQ.call rfl rfl rfl rfl rfl ?_ (lk) ?_ ?_ | refine RunQW.call rfl rfl rfl rfl ?_ (lk) ?_ ?_ | refine RunX.call rfl rfl rfl rfl ?_ (lk) ?_ ?_ | refine RunXW.call rfl rfl rfl ?_ (lk) ?_ ?_); (focus (simp (maxDischargeDepth := 120) [*]; done))); (focus (simp [*]; done)); (first | refine RunQ.evalH ?_ | refine RunX.evalY ?_); simp [*])
           | fail)
          repeat (first | refine WK.seq ?_ | refine WK.block ?_ | refine WK.inBlock ?_ | refine WK.skip ?_ | refine WK.label ?_ | refine WK.scope ?_ | refine WK.inScope ?_ | refine WK.exit rfl ?_)
          refine WK.next (fun n => n) (IHj (j + 1) (by omega) (by first | omega | (dsimp only; omega))) (by repeat (first | exact TmW.nil | refine TmW.upd ?_ (by simp (maxDischargeDepth := 120) [hsu]))) (by repeat (first | exact BxW.nil | refine BxW.upd ?_ (by simp (maxDischargeDepth := 120) [hsu]))) (by first | exact InjW.id | exact InjW.nil | exact InjW.one | exact InjW.two (by simp) | exact InjW.three (by simp) (by simp) (by simp))
        · rw [hp] at lk hsu
          rw [if_pos rfl] at hsu
          clear hy hp hF1
          repeat' (first
           | refine WK.seq ?_
           | refine WK.block ?_
           | refine WK.inBlock ?_
           | refine WK.skip ?_
           | refine WK.label ?_
           | refine WK.scope ?_
           | refine WK.inScope ?_
           | refine WK.exit rfl ?_
           | refine WK.condT rfl ?_
           | refine WK.condF rfl ?_
           | (refine Hid.h hQ _ _ ?_; clear hQ hA)
           | refine WK.condAny rfl ?_ ?_
           | ((first | refine WK.cond2 rfl (fun h => ?_) (fun h => ?_) | refine Fork.mk (fun h => ?_) (fun h => ?_)) <;> (first | (simp [*] at h; done) | (have h2 := h; simp at h2; exfalso; omega) | (have h2 := h; simp at h2; try simp only [Bool.not_eq_true', Bool.not_eq_false'] at h) | skip))
           | ((first | refine WK.regH Try.ntmps36 (by kernel_rfl) ?_ | refine WK.regX (by kernel_rfl) Try.ntmps36 (by kernel_rfl) ?_); intro A hA Q hQ; simp [*])
           | (refine Hid.h hQ _ _ _ (by decide +kernel) ?_; clear hQ hA)
           | ((first | refine RunQ.gd rfl (by rw [hA.h]; rfl) ?_ | refine RunX.gd rfl (by rw [hA.h]; rfl) ?_); simp [*])
           | (((first | refine RunQ.call rfl rfl rfl rfl rfl ?_ (lk) ?_ ?_ | refine RunQW.call rfl rfl rfl rfl ?_ (lk) ?_ ?_ | refine RunX.call rfl rfl rfl rfl ?_ (lk) ?_ ?_ | refine RunXW.call rfl rfl rfl ?_ (lk) ?_ ?_); (focus (simp (maxDischargeDepth := 120) [*]; done))); (focus (simp [*]; done)); (first | refine RunQ.evalH ?_ | refine RunX.evalY ?_); simp [*])
           | fail)
          repeat (first | refine WK.seq ?_ | refine WK.block ?_ | refine WK.inBlock ?_ | refine WK.skip ?_ | refine WK.label ?_ | refine WK.scope ?_ | refine WK.inScope ?_ | refine WK.exit rfl ?_)
          refine WK.next (fun n => n) (IHj (j + 1) (by omega) (by first | omega | (dsimp only; omega))) (by repeat (first | exact TmW.nil | refine TmW.upd ?_ (by simp (maxDischargeDepth := 120) [hsu]))) (by repeat (first | exact BxW.nil | refine BxW.upd ?_ (by simp (maxDischargeDepth := 120) [hsu]))) (by first | exact InjW.id | exact InjW.nil | exact InjW.one | exact InjW.two (by simp) | exact InjW.three (by simp) (by simp) (by simp))
      · rw [if_neg h5] at hsu
        clear hF1
        repeat' (first
         | refine WK.seq ?_
         | refine WK.block ?_
         | refine WK.inBlock ?_
         | refine WK.skip ?_
         | refine WK.label ?_
         | refine WK.scope ?_
         | refine WK.inScope ?_
         | refine WK.exit rfl ?_
         | refine WK.condT rfl ?_
         | refine WK.condF rfl ?_
         | (refine Hid.h hQ _ _ ?_; clear hQ hA)
         | refine WK.condAny rfl ?_ ?_
         | ((first | refine WK.cond2 rfl (fun h => ?_) (fun h => ?_) | refine Fork.mk (fun h => ?_) (fun h => ?_)) <;> (first | (simp [*] at h; done) | (have h2 := h; simp at h2; exfalso; omega) | (have h2 := h; simp at h2; try simp only [Bool.not_eq_true', Bool.not_eq_false'] at h) | skip))
         | ((first | refine WK.regH Try.ntmps36 (by kernel_rfl) ?_ | refine WK.regX (by kernel_rfl) Try.ntmps36 (by kernel_rfl) ?_); intro A hA Q hQ; simp [*])
         | (refine Hid.h hQ _ _ _ (by decide +kernel) ?_; clear hQ hA)
         | ((first | refine RunQ.gd rfl (by rw [hA.h]; rfl) ?_ | refine RunX.gd rfl (by rw [hA.h]; rfl) ?_); simp [*])
         | fail)
        repeat (first | refine WK.seq ?_ | refine WK.block ?_ | refine WK.inBlock ?_ | refine WK.skip ?_ | refine WK.label ?_ | refine WK.scope ?_ | refine WK.inScope ?_ | refine WK.exit rfl ?_)
        refine WK.next (fun n => n) (IHj (j + 1) (by omega) (by first | omega | (dsimp only; omega))) (by repeat (first | exact TmW.nil | refine TmW.upd ?_ (by simp (maxDischargeDepth := 120) [hsu]))) (by repeat (first | exact BxW.nil | refine BxW.upd ?_ (by simp (maxDischargeDepth := 120) [hsu]))) (by first | exact InjW.id | exact InjW.nil | exact InjW.one | exact InjW.two (by simp) | exact InjW.three (by simp) (by simp) (by simp))
    · have hjl : j = W.length := by omega
      subst hjl
      clear IHj hj
      rcases aPut_idx W x with ⟨e, hput⟩ | ⟨k, hk, e, hput⟩
      · have hsn : actL W ++ x.enc = actL (W ++ [x]) := by rw [actL_app]; simp [actL]
        have hbd : (W.length + 1) * 88 ≤ 140737488355328 := by omega
        rw [hput] at hnx
        rw [e]
        clear e hput
        repeat' (first
         | refine WK.seq ?_
         | refine WK.block ?_
         | refine WK.inBlock ?_
         | refine WK.skip ?_
         | refine WK.label ?_
         | refine WK.scope ?_
         | refine WK.inScope ?_
         | refine WK.exit rfl ?_
         | refine WK.condT rfl ?_
         | refine WK.condF rfl ?_
         | (refine Hid.h hQ _ _ ?_; clear hQ hA)
         | refine WK.condAny rfl ?_ ?_
         | ((first | refine WK.cond2 rfl (fun h => ?_) (fun h => ?_) | refine Fork.mk (fun h => ?_) (fun h => ?_)) <;> (first | (simp [*] at h; done) | (have h2 := h; simp at h2; exfalso; omega) | (have h2 := h; simp at h2; try simp only [Bool.not_eq_true', Bool.not_eq_false'] at h) | skip))
         | ((first | refine WK.regH Try.ntmps36 (by kernel_rfl) ?_ | refine WK.regX (by kernel_rfl) Try.ntmps36 (by kernel_rfl) ?_); intro A hA Q hQ; simp [*])
         | (refine Hid.h hQ _ _ _ (by decide +kernel) ?_; clear hQ hA)
         | ((first | refine RunQ.gd rfl (by rw [hA.h]; rfl) ?_ | refine RunX.gd rfl (by rw [hA.h]; rfl) ?_); simp [*])
         | (refine RunQ.append 902 appAct rfl rfl rfl rfl rfl rfl rfl rfl rfl ?_ ?_ ?_ ?_ ?_; (focus (first | omega | (simp [*]; done); done)); (focus (first | omega | (simp [*]; done); done)); (focus (first | omega | (simp [*]; done); done)); (focus (first | omega | (simp [*]; done); done)); refine RunQ.evalH ?_; simp [*])
         | (refine RunQW.by (fun hw => ?_); refine RunQ.append 902 appAct rfl rfl rfl rfl rfl rfl rfl hw rfl ?_ ?_ ?_ ?_ ?_; (focus (first | omega | (simp [*]; done); done)); (focus (first | omega | (simp [*]; done); done)); (focus (first | omega | (simp [*]; done); done)); (focus (first | omega | (simp [*]; done); done)); clear hw; refine RunQ.evalH ?_; simp [*])
         | (refine RunX.append 902 appAct rfl rfl rfl rfl rfl rfl rfl rfl ?_ ?_ ?_ ?_ ?_; (focus (first | omega | (simp [*]; done); done)); (focus (first | omega | (simp [*]; done); done)); (focus (first | omega | (simp [*]; done); done)); (focus (first | omega | (simp [*]; done); done)); refine RunX.evalY ?_; simp [*])
         | (refine RunX.by (fun hw => ?_); refine RunX.append 902 appAct rfl rfl rfl rfl rfl rfl rfl hw ?_ ?_ ?_ ?_ ?_; (focus (first | omega | (simp [*]; done); done)); (focus (first | omega | (simp [*]; done); done)); (focus (first | omega | (simp [*]; done); done)); (focus (first | omega | (simp [*]; done); done)); clear hw; refine RunX.evalY ?_; simp [*])
         | fail)
        repeat (first | refine WK.seq ?_ | refine WK.block ?_ | refine WK.inBlock ?_ | refine WK.skip ?_ | refine WK.label ?_ | refine WK.scope ?_ | refine WK.inScope ?_ | refine WK.exit rfl ?_)
        refine WK.next (fun n => if n = 1 then 902 else n) (IH (i + 1) (by omega) (by first | omega | (dsimp only; omega))) (by repeat (first | exact TmW.nil | refine TmW.upd ?_ (by simp (maxDischargeDepth := 120) [hnx, hsn]))) (by repeat (first | exact BxW.nil | refine BxW.upd ?_ (by simp (maxDischargeDepth := 120) [hnx, hsn]))) (by first | exact InjW.id | exact InjW.nil | exact InjW.one | exact InjW.two (by simp) | exact InjW.three (by simp) (by simp) (by simp))
      · have hsn := actL_set W k x hk
        have hb1 : k * 11 + 11 ≤ W.length * 11 := by omega
        have hb2 : (k : Int) < W.length := by omega
        have hj0 : ¬ (k : Int) < 0 := by omega
        have hls : (W.set k x).length = W.length := List.length_set
        rw [hput] at hnx
        rw [e]
        clear e hput hk
        repeat' (first
         | refine WK.seq ?_
         | refine WK.block ?_
         | refine WK.inBlock ?_
         | refine WK.skip ?_
         | refine WK.label ?_
         | refine WK.scope ?_
         | refine WK.inScope ?_
         | refine WK.exit rfl ?_
         | refine WK.condT rfl ?_
         | refine WK.condF rfl ?_
         | (refine Hid.h hQ _ _ ?_; clear hQ hA)
         | refine WK.condAny rfl ?_ ?_
         | ((first | refine WK.cond2 rfl (fun h => ?_) (fun h => ?_) | refine Fork.mk (fun h => ?_) (fun h => ?_)) <;> (first | (simp [*] at h; done) | (have h2 := h; simp at h2; exfalso; omega) | (have h2 := h; simp at h2; try simp only [Bool.not_eq_true', Bool.not_eq_false'] at h) | skip))
         | ((first | refine WK.regH Try.ntmps36 (by kernel_rfl) ?_ | refine WK.regX (by kernel_rfl) Try.ntmps36 (by kernel_rfl) ?_); intro A hA Q hQ; simp [*])
         | (refine Hid.h hQ _ _ _ (by decide +kernel) ?_; clear hQ hA)
         | ((first | refine RunQ.gd rfl (by rw [hA.h]; rfl) ?_ | refine RunX.gd rfl (by rw [hA.h]; rfl) ?_); simp [*])
         | fail)
        repeat (first | refine WK.seq ?_ | refine WK.block ?_ | refine WK.inBlock ?_ | refine WK.skip ?_ | refine WK.label ?_ | refine WK.scope ?_ | refine WK.inScope ?_ | refine WK.exit rfl ?_)
        refine WK.next (fun n => n) (IH (i + 1) (by omega) (by first | omega | (dsimp only; omega))) (by repeat (first | exact TmW.nil | refine TmW.upd ?_ (by simp (maxDischargeDepth := 120) [hnx, hsn, hls]))) (by repeat (first | exact BxW.nil | refine BxW.upd ?_ (by simp (maxDischargeDepth := 120) [hnx, hsn, hls]))) (by first | exact InjW.id | exact InjW.nil | exact InjW.one | exact InjW.two (by simp) | exact InjW.three (by simp) (by simp) (by simp))
  · have hT : l.take i = l := List.take_of_length_le (by omega)
    rw [hT]
    repeat' (first
     | refine WK.seq ?_
     | refine WK.block ?_
     | refine WK.inBlock ?_
     | refine WK.skip ?_
     | refine WK.label ?_
     | refine WK.scope ?_
     | refine WK.inScope ?_
     | refine WK.exit rfl ?_
     | refine WK.condT rfl ?_
     | refine WK.condF rfl ?_
     | (refine Hid.h hQ _ _ ?_; clear hQ hA)
     | refine WK.condAny rfl ?_ ?_
     | ((first | refine WK.cond2 rfl (fun h => ?_) (fun h => ?_) | refine Fork.mk (fun h => ?_) (fun h => ?_)) <;> (first | (simp [*] at h; done) | (have h2 := h; simp at h2; exfalso; omega) | (have h2 := h; simp at h2; try simp only [Bool.not_eq_true', Bool.not_eq_false'] at h) | skip))
     | ((first | refine WK.regH Try.ntmps36 (by kernel_rfl) ?_ | refine WK.regX (by kernel_rfl) Try.ntmps36 (by kernel_rfl) ?_); intro A hA Q hQ; simp [*])
     | (refine Hid.h hQ _ _ _ (by decide +kernel) ?_; clear hQ hA)
     | ((first | refine RunQ.gd rfl (by rw [hA.h]; rfl) ?_ | refine RunX.gd rfl (by rw [hA.h]; rfl) ?_); simp [*])
     | (refine WK.retO Try.func36 rfl rfl ?_ ?_ <;> simp (maxDischargeDepth := 120) [*])
     | fail)
end Go.Proofs.Ytbncoeoamjcjjaa
end
