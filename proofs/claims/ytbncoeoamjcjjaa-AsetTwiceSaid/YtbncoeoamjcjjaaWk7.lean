/- Rows of actions compared and looked through; sets of actions: each place once. -/
import Derived.Test.YtbncoeoamjcjjaaWk6
import Derived.Test.YtbncoeoamjcjjaaWk2
set_option linter.all false
set_option linter.unnecessarySimpa false
section
set_option linter.unusedVariables false
set_option linter.unusedSimpArgs false
namespace Go.Proofs.Ytbncoeoamjcjjaa
open Go Go.AI Go.Proofs
attribute [local irreducible] FnP FnO FnB FnT FnSeq WK RunQ RunQW RunX RunXW

theorem aequal_c (l m : List Action) (hl : l.length ≤ 1000000) : FnP Try.prog 35 [actS l, actS m] (.bool (eqBy (· == ·) l m)) := by
  unfold actS
  refine FnP.intro Try.func35 rfl rfl fun G w => ?_
  repeat (first | refine WK.seq ?_ | refine WK.block ?_ | refine WK.inBlock ?_ | refine WK.skip ?_ | refine WK.label ?_ | refine WK.scope ?_ | refine WK.inScope ?_ | refine WK.exit rfl ?_)
  first | refine WK.reg 100 Try.ntmps35 (by kernel_rfl) ?_ | refine WK.regD 100 clsOf (by kernel_rfl) Try.ntmps35 (by kernel_rfl) (by kernel_rfl) ?_
  intro A hA Q hQ
  simp
  refine hQ _ _ ?_
  clear hQ hA
  repeat (first | refine WK.seq ?_ | refine WK.block ?_ | refine WK.inBlock ?_ | refine WK.skip ?_ | refine WK.label ?_ | refine WK.scope ?_ | refine WK.inScope ?_ | refine WK.exit rfl ?_)
  first | refine WK.reg 200 Try.ntmps35 (by kernel_rfl) ?_ | refine WK.regD 200 clsOf (by kernel_rfl) Try.ntmps35 (by kernel_rfl) (by kernel_rfl) ?_
  intro A hA Q hQ
  simp
  refine hQ _ _ ?_
  clear hQ hA
  repeat (first | refine WK.seq ?_ | refine WK.block ?_ | refine WK.inBlock ?_ | refine WK.skip ?_ | refine WK.label ?_ | refine WK.scope ?_ | refine WK.inScope ?_ | refine WK.exit rfl ?_)
  refine WK.cond2 rfl (fun h => ?_) (fun h => ?_)
  · simp at h
    have e : eqBy (· == ·) l m = false := by unfold eqBy; simp; intro e; omega
    repeat (first | refine WK.seq ?_ | refine WK.block ?_ | refine WK.inBlock ?_ | refine WK.skip ?_ | refine WK.label ?_ | refine WK.scope ?_ | refine WK.inScope ?_ | refine WK.exit rfl ?_)
    first | refine WK.reg 300 Try.ntmps35 (by kernel_rfl) ?_ | refine WK.regD 300 clsOf (by kernel_rfl) Try.ntmps35 (by kernel_rfl) (by kernel_rfl) ?_
    intro A hA Q hQ
    simp
    refine hQ _ _ ?_
    clear hQ hA
    repeat (first | refine WK.seq ?_ | refine WK.block ?_ | refine WK.inBlock ?_ | refine WK.skip ?_ | refine WK.label ?_ | refine WK.scope ?_ | refine WK.inScope ?_ | refine WK.exit rfl ?_)
    refine WK.ret Try.func35 (by simp (maxDischargeDepth := 120) [Try.results35, e]) (by simp [e])
  · simp at h
    have hlm : l.length = m.length := by omega
    repeat (first | refine WK.seq ?_ | refine WK.block ?_ | refine WK.inBlock ?_ | refine WK.skip ?_ | refine WK.label ?_ | refine WK.scope ?_ | refine WK.inScope ?_ | refine WK.exit rfl ?_)
    first | refine WK.reg 400 Try.ntmps35 (by kernel_rfl) ?_ | refine WK.regD 400 clsOf (by kernel_rfl) Try.ntmps35 (by kernel_rfl) (by kernel_rfl) ?_
    intro A hA Q hQ
    simp
    refine hQ _ _ ?_
    clear hQ hA
    repeat (first | refine WK.seq ?_ | refine WK.block ?_ | refine WK.inBlock ?_ | refine WK.skip ?_ | refine WK.label ?_ | refine WK.scope ?_ | refine WK.inScope ?_ | refine WK.exit rfl ?_)
    refine WK.loopI (fun n => n) (fun i : Nat => (⟨(upd (upd (upd (upd J 0 (.sl false l.length (actL l))) 1 (.sl false m.length (actL m))) 12 (.int .i64 l.length)) 13 (.int .i64 i)), B0, 0⟩ : St)) (fun i => i ≤ l.length ∧ ∀ j, j < i → (nth l j == nth m j) = true) (fun i => l.length - i) (0) (by repeat (first | exact TmW.nil | refine TmW.upd ?_ (by simp (maxDischargeDepth := 120)))) (by repeat (first | exact BxW.nil | refine BxW.upd ?_ (by simp (maxDischargeDepth := 120)))) (by first | exact InjW.id | exact InjW.nil | exact InjW.one | exact InjW.two (by simp) | exact InjW.three (by simp) (by simp) (by simp)) (⟨by omega, by simp⟩) (fun i hi IH => ?_)
    by_cases h1 : i < l.length
    · obtain ⟨h4, h3⟩ := act_load l i h1
      obtain ⟨h4', h3'⟩ := act_load m i (by omega)
      have h1m : i < m.length := by omega
      have h6 : IntKind.i64.wrap ((i : Int) + 1) = i + 1 := wrap_i64 (by omega) (by omega)
      clear h
      cases h5 : nth l i == nth m i
      · have e : eqBy (· == ·) l m = false := by unfold eqBy; rw [all_range_false (p := fun i => (nth l i == nth m i)) h1 h5]; simp
        clear hlm
        repeat' (first
         | refine WK.seq ?_
         | refine WK.block ?_
         | refine WK.inBlock ?_
         | refine WK.skip ?_
         | refine WK.label ?_
         | refine WK.scope ?_
         | refine WK.inScope ?_
         | refine WK.exit rfl ?_
         | refine WK.condT rfl ?_
         | refine WK.condF rfl ?_
         | (refine Hid.h hQ _ _ ?_; clear hQ hA)
         | refine WK.condAny rfl ?_ ?_
         | ((first | refine WK.cond2 rfl (fun h => ?_) (fun h => ?_)) <;> (first | (simp [*] at h; done) | (have h2 := h; simp at h2; exfalso; omega) | (have h2 := h; simp at h2; try simp only [Bool.not_eq_true', Bool.not_eq_false'] at h) | skip))
         | ((first | refine WK.regH Try.ntmps35 (by kernel_rfl) ?_ | refine WK.regX (by kernel_rfl) Try.ntmps35 (by kernel_rfl) ?_); intro A hA Q hQ; simp [*])
         | (refine Hid.h hQ _ _ _ (by decide +kernel) ?_; clear hQ hA)
         | (refine WK.ret Try.func35 ?_ ?_ <;> simp (maxDischargeDepth := 120) [Try.results35, e, *])
         | fail)
      · clear hlm
        repeat' (first
         | refine WK.seq ?_
         | refine WK.block ?_
         | refine WK.inBlock ?_
         | refine WK.skip ?_
         | refine WK.label ?_
         | refine WK.scope ?_
         | refine WK.inScope ?_
         | refine WK.exit rfl ?_
         | refine WK.condT rfl ?_
         | refine WK.condF rfl ?_
         | (refine Hid.h hQ _ _ ?_; clear hQ hA)
         | refine WK.condAny rfl ?_ ?_
         | ((first | refine WK.cond2 rfl (fun h => ?_) (fun h => ?_)) <;> (first | (simp [*] at h; done) | (have h2 := h; simp at h2; exfalso; omega) | (have h2 := h; simp at h2; try simp only [Bool.not_eq_true', Bool.not_eq_false'] at h) | skip))
         | ((first | refine WK.regH Try.ntmps35 (by kernel_rfl) ?_ | refine WK.regX (by kernel_rfl) Try.ntmps35 (by kernel_rfl) ?_); intro A hA Q hQ; simp [*])
         | (refine Hid.h hQ _ _ _ (by decide +kernel) ?_; clear hQ hA)
         | fail)
        repeat (first | refine WK.seq ?_ | refine WK.block ?_ | refine WK.inBlock ?_ | refine WK.skip ?_ | refine WK.label ?_ | refine WK.scope ?_ | refine WK.inScope ?_ | refine WK.exit rfl ?_)
        refine WK.next (fun n => n) (IH (i + 1) (⟨by omega, fun j hj => by by_cases h7 : j = i; (subst h7; simpa using h5); exact hi.2 j (by omega)⟩) (by first | omega | (dsimp only; omega))) (by repeat (first | exact TmW.nil | refine TmW.upd ?_ (by simp (maxDischargeDepth := 120)))) (by repeat (first | exact BxW.nil | refine BxW.upd ?_ (by simp (maxDischargeDepth := 120)))) (by first | exact InjW.id | exact InjW.nil | exact InjW.one | exact InjW.two (by simp) | exact InjW.three (by simp) (by simp) (by simp))
    · have e : eqBy (· == ·) l m = true := by unfold eqBy; rw [all_range_true (p := fun i => (nth l i == nth m i)) (fun j hj => hi.2 j (by omega))]; simp [hlm]
      repeat' (first
       | refine WK.seq ?_
       | refine WK.block ?_
       | refine WK.inBlock ?_
       | refine WK.skip ?_
       | refine WK.label ?_
       | refine WK.scope ?_
       | refine WK.inScope ?_
       | refine WK.exit rfl ?_
       | refine WK.condT rfl ?_
       | refine WK.condF rfl ?_
       | (refine Hid.h hQ _ _ ?_; clear hQ hA)
       | refine WK.condAny rfl ?_ ?_
       | ((first | refine WK.cond2 rfl (fun h => ?_) (fun h => ?_)) <;> (first | (simp [*] at h; done) | (have h2 := h; simp at h2; exfalso; omega) | (have h2 := h; simp at h2; try simp only [Bool.not_eq_true', Bool.not_eq_false'] at h) | skip))
       | ((first | refine WK.regH Try.ntmps35 (by kernel_rfl) ?_ | refine WK.regX (by kernel_rfl) Try.ntmps35 (by kernel_rfl) ?_); intro A hA Q hQ; simp [*])
       | (refine Hid.h hQ _ _ _ (by decide +kernel) ?_; clear hQ hA)
       | (refine WK.ret Try.func35 ?_ ?_ <;> simp (maxDischargeDepth := 120) [Try.results35, e, *])
       | fail)
end Go.Proofs.Ytbncoeoamjcjjaa
end

section
set_option linter.unusedVariables false
set_option linter.unusedSimpArgs false
namespace Go.Proofs.Ytbncoeoamjcjjaa
open Go Go.AI Go.Proofs
attribute [local irreducible] FnP FnO FnB FnT FnSeq WK RunQ RunQW RunX RunXW

theorem aLike_iff (a b : Action) : aLike a b = true ↔ aSpot a = aSpot b := by unfold aLike; rw [beq_iff_eq]
theorem aLike_refl (a : Action) : aLike a a = true := by rw [aLike_iff]
theorem aLike_comm (a b : Action) : aLike a b = aLike b a := by rw [Bool.eq_iff_iff, aLike_iff, aLike_iff]; exact ⟨Eq.symm, Eq.symm⟩
theorem aPut_nil (a : Action) : aPut [] a = [a] := rfl
theorem aPut_cons (x : Action) (t : List Action) (a : Action) : aPut (x :: t) a = if aLike a x then a :: t else x :: aPut t a := by
  unfold aPut
  rw [List.findIdx?_cons]
  cases h : aLike a x
  · simp only [Bool.false_eq_true, if_false]
    cases ht : t.findIdx? (aLike a) <;> simp
  · simp
/-- each place at most once -/
def Spots (l : List Action) : Prop := l.Pairwise fun a b => aLike a b = false
theorem spots_nil : Spots [] := List.Pairwise.nil
theorem mem_aPut {W : List Action} {a x : Action} (h : x ∈ aPut W a) : x = a ∨ x ∈ W := by
  induction W with
  | nil => rw [aPut_nil] at h; left; simpa using h
  | cons y t ih =>
    rw [aPut_cons] at h
    split at h
    · rcases List.mem_cons.1 h with h | h
      · exact .inl h
      · exact .inr (List.mem_cons_of_mem _ h)
    · rcases List.mem_cons.1 h with h | h
      · exact .inr (by rw [h]; simp)
      · rcases ih h with h | h
        · exact .inl h
        · exact .inr (List.mem_cons_of_mem _ h)
theorem aPut_spots {W : List Action} (h : Spots W) (a : Action) : Spots (aPut W a) := by
  induction W with
  | nil => rw [aPut_nil]; exact List.pairwise_singleton _ _
  | cons y t ih =>
    unfold Spots at h ih ⊢
    rw [List.pairwise_cons] at h
    rw [aPut_cons]
    split
    · rename_i hk
      rw [List.pairwise_cons]
      refine ⟨fun b hb => ?_, h.2⟩
      have := h.1 b hb
      rw [aLike_iff] at hk
      cases hl : aLike a b
      · rfl
      · rw [aLike_iff] at hl
        have : aLike y b = true := by rw [aLike_iff, ← hk, hl]
        rw [h.1 b hb] at this; cases this
    · rename_i hk
      rw [List.pairwise_cons]
      refine ⟨fun b hb => ?_, ih h.2⟩
      rcases mem_aPut hb with e | hb
      · rw [e, aLike_comm]; simpa using hk
      · exact h.1 b hb
theorem aWrite_spots {set : List Action} (h : Spots set) (l : List Action) : Spots (aWrite set l) := by
  unfold aWrite
  induction l generalizing set with
  | nil => exact h
  | cons a l ih => exact ih (aPut_spots h a)
theorem awriteP_c (set l : List Action) (hs : set.length ≤ 500000) (hl : l.length ≤ 500000) : FnP Try.prog 16 [actS set, actS l] (actS (aWrite set l)) := by
  have h := (awriteO_c set l hs hl).toP (by simp)
  rw [act_full _ _ rfl] at h
  exact h
theorem alistP_c (set : List Action) (hs : set.length ≤ 500000) : FnP Try.prog 37 [actS set] (actS (aList set)) := by
  have h := (alist_c set hs).toP (by simp)
  rw [act_full _ _ rfl] at h
  exact h
def K28 (k p : Int) : Action := ⟨k, p, 0, 0, 0, oxm0⟩
theorem f28a : aWrite [] [K28 0 1, K28 0 2, K28 18 0] = [K28 0 2, K28 18 0] := by kernel_rfl
theorem f28b : aList [K28 0 2, K28 18 0] = [K28 18 0, K28 0 2] := by kernel_rfl
theorem f28c : aList [K28 22 0, K28 0 0] = [K28 22 0] := by kernel_rfl
end Go.Proofs.Ytbncoeoamjcjjaa
end

section
set_option linter.unusedVariables false
set_option linter.unusedSimpArgs false
namespace Go.Proofs.Ytbncoeoamjcjjaa
open Go Go.AI Go.Proofs
attribute [local irreducible] FnP FnO FnB FnT FnSeq WK RunQ RunQW RunX RunXW

theorem awake28_c : FnP Try.prog 15 [] (.bool true) := by
  have p := awriteP_c [] [K28 0 1, K28 0 2, K28 18 0] (by simp) (by simp)
  have q := alistP_c [K28 0 2, K28 18 0] (by simp)
  have q2 := alistP_c [K28 22 0, K28 0 0] (by simp)
  have r := arw_c (K28 17 0)
  rw [f28a] at p
  rw [f28b] at q
  rw [f28c] at q2
  rw [show aRw (K28 17 0) = rSet cubeZ 5 (bitW 12) (bitW 12) from rfl] at r
  have hg : (encC (rSet cubeZ 5 (bitW 12) (bitW 12)))[21]'(by simp) = .int .u64 4096 := by kernel_rfl
  obtain ⟨C, hC⟩ : ∃ C, rSet cubeZ 5 (bitW 12) (bitW 12) = C := ⟨_, rfl⟩
  rw [hC] at r hg
  clear hC
  simp only [actS, actL, K28, List.flatMap_cons, List.flatMap_nil, List.append_nil, List.cons_append, List.nil_append, List.length_cons, List.length_nil, Action.enc, oxm0, wideZ, uI_zero] at p q q2 r
  refine FnP.intro Try.func15 rfl rfl fun G w => ?_
  repeat' (first
   | refine WK.seq ?_
   | refine WK.block ?_
   | refine WK.inBlock ?_
   | refine WK.skip ?_
   | refine WK.label ?_
   | refine WK.scope ?_
   | refine WK.inScope ?_
   | refine WK.exit rfl ?_
   | refine WK.condT rfl ?_
   | refine WK.condF rfl ?_
   | (refine Hid.h hQ _ _ ?_; clear hQ hA)
   | refine WK.condAny rfl ?_ ?_
   | ((first | refine WK.cond2 rfl (fun h => ?_) (fun h => ?_) | refine Fork.mk (fun h => ?_) (fun h => ?_)) <;> (first | (simp [*] at h; done) | (have h2 := h; simp at h2; exfalso; omega) | (have h2 := h; simp at h2; try simp only [Bool.not_eq_true', Bool.not_eq_false'] at h) | skip))
   | (refine WK.regH Try.ntmps15 (by kernel_rfl) ?_; intro A hA Q hQ; simp [*])
   | (refine RunQ.gd rfl (by rw [hA.h]; rfl) ?_; simp [*])
   | ((first | ((first | refine RunQ.call rfl rfl rfl rfl rfl ?_ (p) ?_ ?_ | refine RunQW.call rfl rfl rfl rfl ?_ (p) ?_ ?_); (focus (simp (maxDischargeDepth := 120) [*]; done))) | ((first | refine RunQ.call rfl rfl rfl rfl rfl ?_ (q) ?_ ?_ | refine RunQW.call rfl rfl rfl rfl ?_ (q) ?_ ?_); (focus (simp (maxDischargeDepth := 120) [*]; done))) | ((first | refine RunQ.call rfl rfl rfl rfl rfl ?_ (q2) ?_ ?_ | refine RunQW.call rfl rfl rfl rfl ?_ (q2) ?_ ?_); (focus (simp (maxDischargeDepth := 120) [*]; done))) | ((first | refine RunQ.call rfl rfl rfl rfl rfl ?_ (r) ?_ ?_ | refine RunQW.call rfl rfl rfl rfl ?_ (r) ?_ ?_); (focus (simp (maxDischargeDepth := 120) [*]; done)))); (focus (simp [*]; done)); refine RunQ.evalH ?_; simp [*])
   | (refine WK.ret Try.func15 ?_ ?_ <;> simp (maxDischargeDepth := 120) [Try.results15, *])
   | fail)
end Go.Proofs.Ytbncoeoamjcjjaa
end

section
set_option linter.unusedVariables false
set_option linter.unusedSimpArgs false
namespace Go.Proofs.Ytbncoeoamjcjjaa
open Go Go.AI Go.Proofs
attribute [local irreducible] FnP FnO FnB FnT FnSeq WK RunQ RunQW RunX RunXW

theorem aList_len (set : List Action) (hs : set.length ≤ 500000) : (aList set).length = (aKept set).length := by
  obtain ⟨g, h1, h2, h3⟩ := alistO_c set hs
  have e : roB (aKept set) g (aKept set).length = aList set := sort_unique (roB_sorted h1) (aList_srt set) fun c => by
    rw [roB_stable h1 h2 c, aList_filter]
  have hl := roB_len (aKept set) g (aKept set).length
  rw [e] at hl
  exact hl
end Go.Proofs.Ytbncoeoamjcjjaa
end

section
set_option linter.unusedVariables false
set_option linter.unusedSimpArgs false
namespace Go.Proofs.Ytbncoeoamjcjjaa
open Go Go.AI Go.Proofs
attribute [local irreducible] FnP FnO FnB FnT FnSeq WK RunQ RunQW RunX RunXW

theorem aWrite_app (W l k : List Action) : aWrite W (l ++ k) = aWrite (aWrite W l) k := by unfold aWrite; rw [List.foldl_append]
theorem aPut_self : ∀ {S : List Action} {x : Action}, Spots S → x ∈ S → aPut S x = S
  | [], x, _, h => by cases h
  | y :: t, x, hs, h => by
    unfold Spots at hs
    rw [List.pairwise_cons] at hs
    rw [aPut_cons]
    rcases List.mem_cons.1 h with e | h
    · rw [e, if_pos (aLike_refl y)]
    · have h1 := hs.1 x h
      rw [aLike_comm] at h1
      rw [h1, if_neg Bool.false_ne_true, aPut_self hs.2 h]
theorem aWrite_self {S : List Action} (hs : Spots S) : aWrite S S = S := by
  have key : ∀ l : List Action, (∀ x, x ∈ l → x ∈ S) → aWrite S l = S := by
    intro l
    induction l with
    | nil => intro _; rfl
    | cons x t ih =>
      intro h
      show aWrite (aPut S x) t = S
      rw [aPut_self hs (h x (by simp))]
      exact ih fun y hy => h y (List.mem_cons_of_mem _ hy)
  exact key S fun x hx => hx
theorem aList_kinds (S : List Action) : (∀ x, x ∈ aList S → x.kind ≠ 22) ∨ (∀ x, x ∈ aList S → x.kind ≠ 0) := by
  have hk : ∀ k x, x ∈ aOfK S k → x.kind = k := fun k x hx => by have := (List.mem_filter.1 hx).2; simpa using this
  unfold aList
  by_cases h : 0 < (aOfK S 22).length
  · right
    rw [if_pos h]
    intro x hx
    rcases List.mem_append.1 hx with hx | hx
    · rcases List.mem_append.1 hx with hx | hx
      · rcases List.mem_append.1 hx with hx | hx
        · rw [hk _ x hx]; decide
        · rw [hk _ x hx]; decide
      · rw [fields_kind S x hx]; decide
    · rw [hk _ x hx]; decide
  · left
    rw [if_neg h]
    intro x hx
    rcases List.mem_append.1 hx with hx | hx
    · rcases List.mem_append.1 hx with hx | hx
      · rcases List.mem_append.1 hx with hx | hx
        · rw [hk _ x hx]; decide
        · rw [hk _ x hx]; decide
      · rw [fields_kind S x hx]; decide
    · rw [hk _ x hx]; decide
theorem ofA_nil {k : Int} {g : Action → Int} {l : List Action} (h : ∀ x, x ∈ l → x.kind ≠ k) : ofA k g l = [] := by
  unfold ofA
  rw [List.filter_eq_nil_iff.2 fun x hx => by simpa using h x hx]; rfl
theorem eqBy_selfA (l : List Action) : eqBy (· == ·) l l = true := by unfold eqBy; simp
theorem asetTwice_c (l k : List Action) : FnP Try.prog 10 [actS l, actS k] (.bool true) := by
  by_cases h1 : 60 < l.length
  · have h1' : (60 : Int) < l.length := by omega
    unfold actS
    refine FnP.intro Try.func10 rfl rfl fun G w => ?_
    repeat' (first
     | refine WK.seq ?_
     | refine WK.block ?_
     | refine WK.inBlock ?_
     | refine WK.skip ?_
     | refine WK.label ?_
     | refine WK.scope ?_
     | refine WK.inScope ?_
     | refine WK.exit rfl ?_
     | refine WK.condT rfl ?_
     | refine WK.condF rfl ?_
     | (refine Hid.h hQ _ _ ?_; clear hQ hA)
     | refine WK.condAny rfl ?_ ?_
     | ((first | refine WK.cond2 rfl (fun h => ?_) (fun h => ?_) | refine Fork.mk (fun h => ?_) (fun h => ?_)) <;> (first | (simp [*] at h; done) | (have h2 := h; simp at h2; exfalso; omega) | (have h2 := h; simp at h2; try simp only [Bool.not_eq_true', Bool.not_eq_false'] at h) | skip))
     | (refine WK.regH Try.ntmps10 (by kernel_rfl) ?_; intro A hA Q hQ; simp [*])
     | (refine RunQ.gd rfl (by rw [hA.h]; rfl) ?_; simp [*])
     | (((first | refine RunQ.call rfl rfl rfl rfl rfl ?_ (awake28_c) ?_ ?_ | refine RunQW.call rfl rfl rfl rfl ?_ (awake28_c) ?_ ?_); (focus (simp (maxDischargeDepth := 120) [*]; done))); (focus (simp [*]; done)); refine RunQ.evalH ?_; simp [*])
     | (refine WK.ret Try.func10 ?_ ?_ <;> simp (maxDischargeDepth := 120) [Try.results10, *])
     | fail)
  have h1' : ¬ (60 : Int) < l.length := by omega
  by_cases h2 : 60 < k.length
  · have h2' : (60 : Int) < k.length := by omega
    unfold actS
    refine FnP.intro Try.func10 rfl rfl fun G w => ?_
    repeat' (first
     | refine WK.seq ?_
     | refine WK.block ?_
     | refine WK.inBlock ?_
     | refine WK.skip ?_
     | refine WK.label ?_
     | refine WK.scope ?_
     | refine WK.inScope ?_
     | refine WK.exit rfl ?_
     | refine WK.condT rfl ?_
     | refine WK.condF rfl ?_
     | (refine Hid.h hQ _ _ ?_; clear hQ hA)
     | refine WK.condAny rfl ?_ ?_
     | ((first | refine WK.cond2 rfl (fun h => ?_) (fun h => ?_) | refine Fork.mk (fun h => ?_) (fun h => ?_)) <;> (first | (simp [*] at h; done) | (have h2 := h; simp at h2; exfalso; omega) | (have h2 := h; simp at h2; try simp only [Bool.not_eq_true', Bool.not_eq_false'] at h) | skip))
     | (refine WK.regH Try.ntmps10 (by kernel_rfl) ?_; intro A hA Q hQ; simp [*])
     | (refine RunQ.gd rfl (by rw [hA.h]; rfl) ?_; simp [*])
     | (((first | refine RunQ.call rfl rfl rfl rfl rfl ?_ (awake28_c) ?_ ?_ | refine RunQW.call rfl rfl rfl rfl ?_ (awake28_c) ?_ ?_); (focus (simp (maxDischargeDepth := 120) [*]; done))); (focus (simp [*]; done)); refine RunQ.evalH ?_; simp [*])
     | (refine WK.ret Try.func10 ?_ ?_ <;> simp (maxDischargeDepth := 120) [Try.results10, *])
     | fail)
  have h2' : ¬ (60 : Int) < k.length := by omega
  have hc := clone_actO l (by omega)
  have p1 := awriteP_c [] (l ++ k) (by simp) (by rw [List.length_append]; omega)
  have p2 := awriteP_c [] l (by simp) (by omega)
  have n1 := (aWrite_len [] l).2
  have n2 := (aWrite_len [] (l ++ k)).2
  rw [List.length_append] at n2
  have p3 := awriteP_c (aWrite [] l) k (by simp at n1; omega) (by omega)
  have sp := aWrite_spots spots_nil (l ++ k)
  rw [← aWrite_app] at p3
  obtain ⟨S, hS⟩ : ∃ S, aWrite [] (l ++ k) = S := ⟨_, rfl⟩
  obtain ⟨T, hT⟩ : ∃ T, aWrite [] l = T := ⟨_, rfl⟩
  rw [hS] at p1 p3 sp n2
  rw [hT] at p2 p3 n1
  clear hS hT
  simp only [List.length_nil, Nat.zero_add] at n1 n2
  have p4 := awriteP_c S S (by omega) (by omega)
  rw [aWrite_self sp] at p4
  have q := aequal_c S S (by omega)
  rw [eqBy_selfA] at q
  have li := alistP_c S (by omega)
  have ll := aList_len S (by omega)
  have ll2 : (aKept S).length ≤ S.length := List.length_filter_le _ _
  have hk := aList_kinds S
  obtain ⟨R, hR⟩ : ∃ R, aList S = R := ⟨_, rfl⟩
  rw [hR] at li hk ll
  have hRS : ¬ (S.length : Int) < R.length := by omega
  have g1 := aGroups_c R (by omega)
  have g2 := aPorts_c R (by omega)
  have rw0 := arw_c act0
  rw [show aRw act0 = cubeZ from rfl] at rw0
  have hce : cubeEq cubeZ cubeZ = true := by unfold cubeEq; simp
  clear hR ll ll2 sp n1 n2
  have hb : (l.length + k.length) * 88 ≤ 140737488355328 := by omega
  have ha : actL l ++ actL k = actL (l ++ k) := (actL_app l k).symm
  obtain ⟨m, hm⟩ : ∃ m, l ++ k = m := ⟨_, rfl⟩
  have hml : l.length + k.length = m.length := by rw [← hm, List.length_append]
  rw [hm] at p1 ha
  clear hm
  unfold actS intS at *
  simp only [actL_nil, List.length_nil, act0, Action.enc, oxm0, wideZ, uI_zero] at p1 p2 p3 rw0
  rcases hk with hk | hk
  · rw [ofA_nil hk] at g1
    clear hk
    refine FnP.intro Try.func10 rfl rfl fun G w => ?_
    repeat' (first
     | refine WK.seq ?_
     | refine WK.block ?_
     | refine WK.inBlock ?_
     | refine WK.skip ?_
     | refine WK.label ?_
     | refine WK.scope ?_
     | refine WK.inScope ?_
     | refine WK.exit rfl ?_
     | refine WK.condT rfl ?_
     | refine WK.condF rfl ?_
     | (refine Hid.h hQ _ _ ?_; clear hQ hA)
     | refine WK.condAny rfl ?_ ?_
     | ((first | refine WK.cond2 rfl (fun h => ?_) (fun h => ?_) | refine Fork.mk (fun h => ?_) (fun h => ?_)) <;> (first | (simp [*] at h; done) | (have h2 := h; simp at h2; exfalso; omega) | (have h2 := h; simp at h2; try simp only [Bool.not_eq_true', Bool.not_eq_false'] at h) | skip))
     | (refine WK.regH Try.ntmps10 (by kernel_rfl) ?_; intro A hA Q hQ; simp [*])
     | (refine RunQ.gd rfl (by rw [hA.h]; rfl) ?_; simp [*])
     | (refine RunQ.callO 900 rfl rfl rfl rfl rfl ?_ (hc) ?_ ?_ ?_ ?_; (focus (simp (maxDischargeDepth := 120) [*]; done)); (focus (simp [*]; done)); (focus (simp [*]; done)); (focus (simp [*]; done)); refine RunQ.evalH ?_; simp [*])
     | (refine RunQW.by (fun hw => ?_); refine RunQ.callO 900 rfl rfl rfl hw rfl ?_ (hc) ?_ ?_ ?_ ?_; (focus (simp (maxDischargeDepth := 120) [*]; done)); (focus (simp [*]; done)); (focus (simp [*]; done)); (focus (simp [*]; done)); clear hw; refine RunQ.evalH ?_; simp [*])
     | (refine RunQ.append 901 appAct rfl rfl rfl rfl rfl rfl rfl rfl rfl ?_ ?_ ?_ ?_ ?_; (focus (first | omega | (simp [*]; done); done)); (focus (first | omega | (simp [*]; done); done)); (focus (first | omega | (simp [*]; done); done)); (focus (first | omega | (simp [*]; done); done)); refine RunQ.evalH ?_; simp [*])
     | (refine RunQW.by (fun hw => ?_); refine RunQ.append 901 appAct rfl rfl rfl rfl rfl rfl rfl hw rfl ?_ ?_ ?_ ?_ ?_; (focus (first | omega | (simp [*]; done); done)); (focus (first | omega | (simp [*]; done); done)); (focus (first | omega | (simp [*]; done); done)); (focus (first | omega | (simp [*]; done); done)); clear hw; refine RunQ.evalH ?_; simp [*])
     | (refine RunQ.callFz 19 11 rfl rfl rfl rfl rfl rfl rfl ?_ (p1) ?_ ?_; (focus (simp (maxDischargeDepth := 120) [*]; done)); (focus (simp [*]; done)); refine RunQ.evalH ?_; simp [*])
     | (refine RunQW.by (fun hw => ?_); refine RunQ.callFz 19 11 rfl rfl hw rfl rfl rfl rfl ?_ (p1) ?_ ?_; (focus (simp (maxDischargeDepth := 120) [*]; done)); (focus (simp [*]; done)); clear hw; refine RunQ.evalH ?_; simp [*])
     | ((first | ((first | refine RunQ.call rfl rfl rfl rfl rfl ?_ (p2) ?_ ?_ | refine RunQW.call rfl rfl rfl rfl ?_ (p2) ?_ ?_); (focus (simp (maxDischargeDepth := 120) [*]; done))) | ((first | refine RunQ.call rfl rfl rfl rfl rfl ?_ (p3) ?_ ?_ | refine RunQW.call rfl rfl rfl rfl ?_ (p3) ?_ ?_); (focus (simp (maxDischargeDepth := 120) [*]; done))) | ((first | refine RunQ.call rfl rfl rfl rfl rfl ?_ (p4) ?_ ?_ | refine RunQW.call rfl rfl rfl rfl ?_ (p4) ?_ ?_); (focus (simp (maxDischargeDepth := 120) [*]; done))) | ((first | refine RunQ.call rfl rfl rfl rfl rfl ?_ (q) ?_ ?_ | refine RunQW.call rfl rfl rfl rfl ?_ (q) ?_ ?_); (focus (simp (maxDischargeDepth := 120) [*]; done))) | ((first | refine RunQ.call rfl rfl rfl rfl rfl ?_ (li) ?_ ?_ | refine RunQW.call rfl rfl rfl rfl ?_ (li) ?_ ?_); (focus (simp (maxDischargeDepth := 120) [*]; done))) | ((first | refine RunQ.call rfl rfl rfl rfl rfl ?_ (g1) ?_ ?_ | refine RunQW.call rfl rfl rfl rfl ?_ (g1) ?_ ?_); (focus (simp (maxDischargeDepth := 120) [*]; done))) | ((first | refine RunQ.call rfl rfl rfl rfl rfl ?_ (g2) ?_ ?_ | refine RunQW.call rfl rfl rfl rfl ?_ (g2) ?_ ?_); (focus (simp (maxDischargeDepth := 120) [*]; done))) | ((first | refine RunQ.call rfl rfl rfl rfl rfl ?_ (rw0) ?_ ?_ | refine RunQW.call rfl rfl rfl rfl ?_ (rw0) ?_ ?_); (focus (simp (maxDischargeDepth := 120) [*]; done))) | ((first | refine RunQ.call rfl rfl rfl rfl rfl ?_ (rwnone_c) ?_ ?_ | refine RunQW.call rfl rfl rfl rfl ?_ (rwnone_c) ?_ ?_); (focus (simp (maxDischargeDepth := 120) [*]; done))) | ((first | refine RunQ.call rfl rfl rfl rfl rfl ?_ (awake28_c) ?_ ?_ | refine RunQW.call rfl rfl rfl rfl ?_ (awake28_c) ?_ ?_); (focus (simp (maxDischargeDepth := 120) [*]; done)))); (focus (simp [*]; done)); refine RunQ.evalH ?_; simp [*])
     | (refine WK.ret Try.func10 ?_ ?_ <;> simp (maxDischargeDepth := 120) [Try.results10, *])
     | fail)
  · rw [ofA_nil hk] at g2
    clear hk
    obtain ⟨N, hN⟩ : ∃ N, ofA 22 Action.group R = N := ⟨_, rfl⟩
    rw [hN] at g1
    clear hN
    cases N with
    | nil =>
      refine FnP.intro Try.func10 rfl rfl fun G w => ?_
      repeat' (first
       | refine WK.seq ?_
       | refine WK.block ?_
       | refine WK.inBlock ?_
       | refine WK.skip ?_
       | refine WK.label ?_
       | refine WK.scope ?_
       | refine WK.inScope ?_
       | refine WK.exit rfl ?_
       | refine WK.condT rfl ?_
       | refine WK.condF rfl ?_
       | (refine Hid.h hQ _ _ ?_; clear hQ hA)
       | refine WK.condAny rfl ?_ ?_
       | ((first | refine WK.cond2 rfl (fun h => ?_) (fun h => ?_) | refine Fork.mk (fun h => ?_) (fun h => ?_)) <;> (first | (simp [*] at h; done) | (have h2 := h; simp at h2; exfalso; omega) | (have h2 := h; simp at h2; try simp only [Bool.not_eq_true', Bool.not_eq_false'] at h) | skip))
       | (refine WK.regH Try.ntmps10 (by kernel_rfl) ?_; intro A hA Q hQ; simp [*])
       | (refine RunQ.gd rfl (by rw [hA.h]; rfl) ?_; simp [*])
       | (refine RunQ.callO 900 rfl rfl rfl rfl rfl ?_ (hc) ?_ ?_ ?_ ?_; (focus (simp (maxDischargeDepth := 120) [*]; done)); (focus (simp [*]; done)); (focus (simp [*]; done)); (focus (simp [*]; done)); refine RunQ.evalH ?_; simp [*])
       | (refine RunQW.by (fun hw => ?_); refine RunQ.callO 900 rfl rfl rfl hw rfl ?_ (hc) ?_ ?_ ?_ ?_; (focus (simp (maxDischargeDepth := 120) [*]; done)); (focus (simp [*]; done)); (focus (simp [*]; done)); (focus (simp [*]; done)); clear hw; refine RunQ.evalH ?_; simp [*])
       | (refine RunQ.append 901 appAct rfl rfl rfl rfl rfl rfl rfl rfl rfl ?_ ?_ ?_ ?_ ?_; (focus (first | omega | (simp [*]; done); done)); (focus (first | omega | (simp [*]; done); done)); (focus (first | omega | (simp [*]; done); done)); (focus (first | omega | (simp [*]; done); done)); refine RunQ.evalH ?_; simp [*])
       | (refine RunQW.by (fun hw => ?_); refine RunQ.append 901 appAct rfl rfl rfl rfl rfl rfl rfl hw rfl ?_ ?_ ?_ ?_ ?_; (focus (first | omega | (simp [*]; done); done)); (focus (first | omega | (simp [*]; done); done)); (focus (first | omega | (simp [*]; done); done)); (focus (first | omega | (simp [*]; done); done)); clear hw; refine RunQ.evalH ?_; simp [*])
       | (refine RunQ.callFz 19 11 rfl rfl rfl rfl rfl rfl rfl ?_ (p1) ?_ ?_; (focus (simp (maxDischargeDepth := 120) [*]; done)); (focus (simp [*]; done)); refine RunQ.evalH ?_; simp [*])
       | (refine RunQW.by (fun hw => ?_); refine RunQ.callFz 19 11 rfl rfl hw rfl rfl rfl rfl ?_ (p1) ?_ ?_; (focus (simp (maxDischargeDepth := 120) [*]; done)); (focus (simp [*]; done)); clear hw; refine RunQ.evalH ?_; simp [*])
       | ((first | ((first | refine RunQ.call rfl rfl rfl rfl rfl ?_ (p2) ?_ ?_ | refine RunQW.call rfl rfl rfl rfl ?_ (p2) ?_ ?_); (focus (simp (maxDischargeDepth := 120) [*]; done))) | ((first | refine RunQ.call rfl rfl rfl rfl rfl ?_ (p3) ?_ ?_ | refine RunQW.call rfl rfl rfl rfl ?_ (p3) ?_ ?_); (focus (simp (maxDischargeDepth := 120) [*]; done))) | ((first | refine RunQ.call rfl rfl rfl rfl rfl ?_ (p4) ?_ ?_ | refine RunQW.call rfl rfl rfl rfl ?_ (p4) ?_ ?_); (focus (simp (maxDischargeDepth := 120) [*]; done))) | ((first | refine RunQ.call rfl rfl rfl rfl rfl ?_ (q) ?_ ?_ | refine RunQW.call rfl rfl rfl rfl ?_ (q) ?_ ?_); (focus (simp (maxDischargeDepth := 120) [*]; done))) | ((first | refine RunQ.call rfl rfl rfl rfl rfl ?_ (li) ?_ ?_ | refine RunQW.call rfl rfl rfl rfl ?_ (li) ?_ ?_); (focus (simp (maxDischargeDepth := 120) [*]; done))) | ((first | refine RunQ.call rfl rfl rfl rfl rfl ?_ (g1) ?_ ?_ | refine RunQW.call rfl rfl rfl rfl ?_ (g1) ?_ ?_); (focus (simp (maxDischargeDepth := 120) [*]; done))) | ((first | refine RunQ.call rfl rfl rfl rfl rfl ?_ (g2) ?_ ?_ | refine RunQW.call rfl rfl rfl rfl ?_ (g2) ?_ ?_); (focus (simp (maxDischargeDepth := 120) [*]; done))) | ((first | refine RunQ.call rfl rfl rfl rfl rfl ?_ (rw0) ?_ ?_ | refine RunQW.call rfl rfl rfl rfl ?_ (rw0) ?_ ?_); (focus (simp (maxDischargeDepth := 120) [*]; done))) | ((first | refine RunQ.call rfl rfl rfl rfl rfl ?_ (rwnone_c) ?_ ?_ | refine RunQW.call rfl rfl rfl rfl ?_ (rwnone_c) ?_ ?_); (focus (simp (maxDischargeDepth := 120) [*]; done))) | ((first | refine RunQ.call rfl rfl rfl rfl rfl ?_ (awake28_c) ?_ ?_ | refine RunQW.call rfl rfl rfl rfl ?_ (awake28_c) ?_ ?_); (focus (simp (maxDischargeDepth := 120) [*]; done)))); (focus (simp [*]; done)); refine RunQ.evalH ?_; simp [*])
       | (refine WK.ret Try.func10 ?_ ?_ <;> simp (maxDischargeDepth := 120) [Try.results10, *])
       | fail)
    | cons x N =>
      refine FnP.intro Try.func10 rfl rfl fun G w => ?_
      repeat' (first
       | refine WK.seq ?_
       | refine WK.block ?_
       | refine WK.inBlock ?_
       | refine WK.skip ?_
       | refine WK.label ?_
       | refine WK.scope ?_
       | refine WK.inScope ?_
       | refine WK.exit rfl ?_
       | refine WK.condT rfl ?_
       | refine WK.condF rfl ?_
       | (refine Hid.h hQ _ _ ?_; clear hQ hA)
       | refine WK.condAny rfl ?_ ?_
       | ((first | refine WK.cond2 rfl (fun h => ?_) (fun h => ?_) | refine Fork.mk (fun h => ?_) (fun h => ?_)) <;> (first | (simp [*] at h; done) | (have h2 := h; simp at h2; exfalso; omega) | (have h2 := h; simp at h2; try simp only [Bool.not_eq_true', Bool.not_eq_false'] at h) | skip))
       | (refine WK.regH Try.ntmps10 (by kernel_rfl) ?_; intro A hA Q hQ; simp [*])
       | (refine RunQ.gd rfl (by rw [hA.h]; rfl) ?_; simp [*])
       | (refine RunQ.callO 900 rfl rfl rfl rfl rfl ?_ (hc) ?_ ?_ ?_ ?_; (focus (simp (maxDischargeDepth := 120) [*]; done)); (focus (simp [*]; done)); (focus (simp [*]; done)); (focus (simp [*]; done)); refine RunQ.evalH ?_; simp [*])
       | (refine RunQW.by (fun hw => ?_); refine RunQ.callO 900 rfl rfl rfl hw rfl ?_ (hc) ?_ ?_ ?_ ?_; (focus (simp (maxDischargeDepth := 120) [*]; done)); (focus (simp [*]; done)); (focus (simp [*]; done)); (focus (simp [*]; done)); clear hw; refine RunQ.evalH ?_; simp [*])
       | (refine RunQ.append 901 appAct rfl rfl rfl rfl rfl rfl rfl rfl rfl ?_ ?_ ?_ ?_ ?_; (focus (first | omega | (simp [*]; done); done)); (focus (first | omega | (simp [*]; done); done)); (focus (first | omega | (simp [*]; done); done)); (focus (first | omega | (simp [*]; done); done)); refine RunQ.evalH ?_; simp [*])
       | (refine RunQW.by (fun hw => ?_); refine RunQ.append 901 appAct rfl rfl rfl rfl rfl rfl rfl hw rfl ?_ ?_ ?_ ?_ ?_; (focus (first | omega | (simp [*]; done); done)); (focus (first | omega | (simp [*]; done); done)); (focus (first | omega | (simp [*]; done); done)); (focus (first | omega | (simp [*]; done); done)); clear hw; refine RunQ.evalH ?_; simp [*])
       | (refine RunQ.callFz 19 11 rfl rfl rfl rfl rfl rfl rfl ?_ (p1) ?_ ?_; (focus (simp (maxDischargeDepth := 120) [*]; done)); (focus (simp [*]; done)); refine RunQ.evalH ?_; simp [*])
       | (refine RunQW.by (fun hw => ?_); refine RunQ.callFz 19 11 rfl rfl hw rfl rfl rfl rfl ?_ (p1) ?_ ?_; (focus (simp (maxDischargeDepth := 120) [*]; done)); (focus (simp [*]; done)); clear hw; refine RunQ.evalH ?_; simp [*])
       | ((first | ((first | refine RunQ.call rfl rfl rfl rfl rfl ?_ (p2) ?_ ?_ | refine RunQW.call rfl rfl rfl rfl ?_ (p2) ?_ ?_); (focus (simp (maxDischargeDepth := 120) [*]; done))) | ((first | refine RunQ.call rfl rfl rfl rfl rfl ?_ (p3) ?_ ?_ | refine RunQW.call rfl rfl rfl rfl ?_ (p3) ?_ ?_); (focus (simp (maxDischargeDepth := 120) [*]; done))) | ((first | refine RunQ.call rfl rfl rfl rfl rfl ?_ (p4) ?_ ?_ | refine RunQW.call rfl rfl rfl rfl ?_ (p4) ?_ ?_); (focus (simp (maxDischargeDepth := 120) [*]; done))) | ((first | refine RunQ.call rfl rfl rfl rfl rfl ?_ (q) ?_ ?_ | refine RunQW.call rfl rfl rfl rfl ?_ (q) ?_ ?_); (focus (simp (maxDischargeDepth := 120) [*]; done))) | ((first | refine RunQ.call rfl rfl rfl rfl rfl ?_ (li) ?_ ?_ | refine RunQW.call rfl rfl rfl rfl ?_ (li) ?_ ?_); (focus (simp (maxDischargeDepth := 120) [*]; done))) | ((first | refine RunQ.call rfl rfl rfl rfl rfl ?_ (g1) ?_ ?_ | refine RunQW.call rfl rfl rfl rfl ?_ (g1) ?_ ?_); (focus (simp (maxDischargeDepth := 120) [*]; done))) | ((first | refine RunQ.call rfl rfl rfl rfl rfl ?_ (g2) ?_ ?_ | refine RunQW.call rfl rfl rfl rfl ?_ (g2) ?_ ?_); (focus (simp (maxDischargeDepth := 120) [*]; done))) | ((first | refine RunQ.call rfl rfl rfl rfl rfl ?_ (rw0) ?_ ?_ | refine RunQW.call rfl rfl rfl rfl ?_ (rw0) ?_ ?_); (focus (simp (maxDischargeDepth := 120) [*]; done))) | ((first | refine RunQ.call rfl rfl rfl rfl rfl ?_ (rwnone_c) ?_ ?_ | refine RunQW.call rfl rfl rfl rfl ?_ (rwnone_c) ?_ ?_); (focus (simp (maxDischargeDepth := 120) [*]; done))) | ((first | refine RunQ.call rfl rfl rfl rfl rfl ?_ (awake28_c) ?_ ?_ | refine RunQW.call rfl rfl rfl rfl ?_ (awake28_c) ?_ ?_); (focus (simp (maxDischargeDepth := 120) [*]; done)))); (focus (simp [*]; done)); refine RunQ.evalH ?_; simp [*])
       | (refine WK.ret Try.func10 ?_ ?_ <;> simp (maxDischargeDepth := 120) [Try.results10, *])
       | fail)
end Go.Proofs.Ytbncoeoamjcjjaa
end
