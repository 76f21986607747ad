/- Rows of actions compared and looked through; sets of actions: each place once. -/
import Derived.Test.YtbncoeoamjcjjaaWk5
import Derived.Test.YtbncoeoamjcjjaaWk2
set_option linter.all false
set_option linter.unnecessarySimpa false
section
set_option linter.unusedVariables false
set_option linter.unusedSimpArgs false
namespace Go.Proofs.Ytbncoeoamjcjjaa
open Go Go.AI Go.Proofs
attribute [local irreducible] FnP FnO FnB FnT FnSeq WK RunQ RunQW RunX RunXW

theorem aindex_c (l : List Action) (v : Action) (hl : l.length ≤ 1000000) : FnP Try.prog 69 [actS l, .agg v.enc] (.int .i64 (firstI (fun i => v == nth l i) l.length)) := by
  unfold actS
  refine FnP.intro Try.func69 rfl rfl fun G w => ?_
  repeat' (first
   | refine WK.seq ?_
   | refine WK.block ?_
   | refine WK.inBlock ?_
   | refine WK.skip ?_
   | refine WK.label ?_
   | refine WK.scope ?_
   | refine WK.inScope ?_
   | refine WK.exit rfl ?_
   | refine WK.condT rfl ?_
   | refine WK.condF rfl ?_
   | (refine Hid.h hQ _ _ ?_; clear hQ hA)
   | refine WK.condAny rfl ?_ ?_
   | ((first | refine WK.cond2 rfl (fun h => ?_) (fun h => ?_)) <;> (first | (simp [*] at h; done) | (have h2 := h; simp at h2; exfalso; omega) | (have h2 := h; simp at h2; try simp only [Bool.not_eq_true', Bool.not_eq_false'] at h) | skip))
   | ((first | refine WK.regH Try.ntmps69 (by kernel_rfl) ?_ | refine WK.regX (by kernel_rfl) Try.ntmps69 (by kernel_rfl) ?_); intro A hA Q hQ; simp [*])
   | (refine Hid.h hQ _ _ _ (by decide +kernel) ?_; clear hQ hA)
   | fail)
  repeat (first | refine WK.seq ?_ | refine WK.block ?_ | refine WK.inBlock ?_ | refine WK.skip ?_ | refine WK.label ?_ | refine WK.scope ?_ | refine WK.inScope ?_ | refine WK.exit rfl ?_)
  refine WK.loopI (fun n => n) (fun i : Nat => (⟨(upd (upd (upd (upd J 0 (.sl false l.length (actL l))) 3 (.ptr 0 0)) 7 (.int .i64 l.length)) 8 (.int .i64 i)), (upd B0 0 (.var v.enc)), 0⟩ : St)) (fun i => i ≤ l.length ∧ ∀ j, j < i → (v == nth l j) = false) (fun i => l.length - i) (0) (by repeat (first | exact TmW.nil | refine TmW.upd ?_ (by simp (maxDischargeDepth := 120)))) (by repeat (first | exact BxW.nil | refine BxW.upd ?_ (by simp (maxDischargeDepth := 120)))) (by first | exact InjW.id | exact InjW.nil | exact InjW.one | exact InjW.two (by simp) | exact InjW.three (by simp) (by simp) (by simp)) (⟨by omega, by simp⟩) (fun i hi IH => ?_)
  by_cases h1 : i < l.length
  · obtain ⟨h4, h3⟩ := act_load l i h1
    have h6 : IntKind.i64.wrap ((i : Int) + 1) = i + 1 := wrap_i64 (by omega) (by omega)
    cases h5 : v == nth l i
    · repeat' (first
       | refine WK.seq ?_
       | refine WK.block ?_
       | refine WK.inBlock ?_
       | refine WK.skip ?_
       | refine WK.label ?_
       | refine WK.scope ?_
       | refine WK.inScope ?_
       | refine WK.exit rfl ?_
       | refine WK.condT rfl ?_
       | refine WK.condF rfl ?_
       | (refine Hid.h hQ _ _ ?_; clear hQ hA)
       | refine WK.condAny rfl ?_ ?_
       | ((first | refine WK.cond2 rfl (fun h => ?_) (fun h => ?_)) <;> (first | (simp [*] at h; done) | (have h2 := h; simp at h2; exfalso; omega) | (have h2 := h; simp at h2; try simp only [Bool.not_eq_true', Bool.not_eq_false'] at h) | skip))
       | ((first | refine WK.regH Try.ntmps69 (by kernel_rfl) ?_ | refine WK.regX (by kernel_rfl) Try.ntmps69 (by kernel_rfl) ?_); intro A hA Q hQ; simp [*])
       | (refine Hid.h hQ _ _ _ (by decide +kernel) ?_; clear hQ hA)
       | fail)
      repeat (first | refine WK.seq ?_ | refine WK.block ?_ | refine WK.inBlock ?_ | refine WK.skip ?_ | refine WK.label ?_ | refine WK.scope ?_ | refine WK.inScope ?_ | refine WK.exit rfl ?_)
      refine WK.next (fun n => n) (IH (i + 1) (⟨by omega, fun j hj => by by_cases h7 : j = i; (subst h7; exact h5); exact hi.2 j (by omega)⟩) (by first | omega | (dsimp only; omega))) (by repeat (first | exact TmW.nil | refine TmW.upd ?_ (by simp (maxDischargeDepth := 120)))) (by repeat (first | exact BxW.nil | refine BxW.upd ?_ (by simp (maxDischargeDepth := 120)))) (by first | exact InjW.id | exact InjW.nil | exact InjW.one | exact InjW.two (by simp) | exact InjW.three (by simp) (by simp) (by simp))
    · have e := firstI_some (p := fun i => v == nth l i) h1 h5 hi.2
      repeat' (first
       | refine WK.seq ?_
       | refine WK.block ?_
       | refine WK.inBlock ?_
       | refine WK.skip ?_
       | refine WK.label ?_
       | refine WK.scope ?_
       | refine WK.inScope ?_
       | refine WK.exit rfl ?_
       | refine WK.condT rfl ?_
       | refine WK.condF rfl ?_
       | (refine Hid.h hQ _ _ ?_; clear hQ hA)
       | refine WK.condAny rfl ?_ ?_
       | ((first | refine WK.cond2 rfl (fun h => ?_) (fun h => ?_)) <;> (first | (simp [*] at h; done) | (have h2 := h; simp at h2; exfalso; omega) | (have h2 := h; simp at h2; try simp only [Bool.not_eq_true', Bool.not_eq_false'] at h) | skip))
       | ((first | refine WK.regH Try.ntmps69 (by kernel_rfl) ?_ | refine WK.regX (by kernel_rfl) Try.ntmps69 (by kernel_rfl) ?_); intro A hA Q hQ; simp [*])
       | (refine Hid.h hQ _ _ _ (by decide +kernel) ?_; clear hQ hA)
       | (refine WK.ret Try.func69 ?_ ?_ <;> simp (maxDischargeDepth := 120) [Try.results69, e, *])
       | fail)
  · have e := firstI_none (p := fun i => v == nth l i) (n := l.length) (fun j hj => hi.2 j (by omega))
    repeat' (first
     | refine WK.seq ?_
     | refine WK.block ?_
     | refine WK.inBlock ?_
     | refine WK.skip ?_
     | refine WK.label ?_
     | refine WK.scope ?_
     | refine WK.inScope ?_
     | refine WK.exit rfl ?_
     | refine WK.condT rfl ?_
     | refine WK.condF rfl ?_
     | (refine Hid.h hQ _ _ ?_; clear hQ hA)
     | refine WK.condAny rfl ?_ ?_
     | ((first | refine WK.cond2 rfl (fun h => ?_) (fun h => ?_)) <;> (first | (simp [*] at h; done) | (have h2 := h; simp at h2; exfalso; omega) | (have h2 := h; simp at h2; try simp only [Bool.not_eq_true', Bool.not_eq_false'] at h) | skip))
     | ((first | refine WK.regH Try.ntmps69 (by kernel_rfl) ?_ | refine WK.regX (by kernel_rfl) Try.ntmps69 (by kernel_rfl) ?_); intro A hA Q hQ; simp [*])
     | (refine Hid.h hQ _ _ _ (by decide +kernel) ?_; clear hQ hA)
     | (refine WK.ret Try.func69 ?_ ?_ <;> simp (maxDischargeDepth := 120) [Try.results69, e, *])
     | fail)
theorem acontains_c (l : List Action) (v : Action) (hl : l.length ≤ 1000000) : FnP Try.prog 21 [actS l, .agg v.enc] (.bool (l.any fun x => v == x)) := by
  have e := firstI_ge (fun i => v == nth l i) l.length
  have e2 : (List.range l.length).any (fun i => v == nth l i) = l.any fun x => v == x := by
    rw [Bool.eq_iff_iff, List.any_eq_true, List.any_eq_true]
    constructor
    · rintro ⟨i, hi, h⟩; exact ⟨nth l i, nth_mem (by simpa using hi), h⟩
    · rintro ⟨x, hx, h⟩; obtain ⟨i, hi, rfl⟩ := mem_nth hx; exact ⟨i, by simpa using hi, h⟩
  rw [e2] at e
  refine FnP.intro Try.func21 rfl rfl fun G w => ?_
  repeat (first | refine WK.seq ?_ | refine WK.block ?_ | refine WK.inBlock ?_ | refine WK.skip ?_ | refine WK.label ?_ | refine WK.scope ?_ | refine WK.inScope ?_ | refine WK.exit rfl ?_)
  first | refine WK.reg 100 Try.ntmps21 (by kernel_rfl) ?_ | refine WK.regD 100 clsOf (by kernel_rfl) Try.ntmps21 (by kernel_rfl) (by kernel_rfl) ?_
  intro A hA Q hQ
  simp
  refine hQ _ _ ?_
  clear hQ hA
  repeat (first | refine WK.seq ?_ | refine WK.block ?_ | refine WK.inBlock ?_ | refine WK.skip ?_ | refine WK.label ?_ | refine WK.scope ?_ | refine WK.inScope ?_ | refine WK.exit rfl ?_)
  first | refine WK.reg 200 Try.ntmps21 (by kernel_rfl) ?_ | refine WK.regD 200 clsOf (by kernel_rfl) Try.ntmps21 (by kernel_rfl) (by kernel_rfl) ?_
  intro A hA Q hQ
  simp
  refine RunQ.call rfl rfl rfl rfl (by rfl) (by simp (maxDischargeDepth := 120)) (aindex_c l v hl) (by simp) ?_
  refine RunQ.eval ?_
  simp
  refine hQ _ _ ?_
  clear hQ hA
  repeat (first | refine WK.seq ?_ | refine WK.block ?_ | refine WK.inBlock ?_ | refine WK.skip ?_ | refine WK.label ?_ | refine WK.scope ?_ | refine WK.inScope ?_ | refine WK.exit rfl ?_)
  refine WK.ret Try.func21 (by simp (maxDischargeDepth := 120) [Try.results21, e]) (by simp [e])
end Go.Proofs.Ytbncoeoamjcjjaa
end

section
set_option linter.unusedVariables false
set_option linter.unusedSimpArgs false
namespace Go.Proofs.Ytbncoeoamjcjjaa
open Go Go.AI Go.Proofs
attribute [local irreducible] FnP FnO FnB FnT FnSeq WK RunQ RunQW RunX RunXW

theorem aLike_iff (a b : Action) : aLike a b = true ↔ aSpot a = aSpot b := by unfold aLike; rw [beq_iff_eq]
theorem aLike_comm (a b : Action) : aLike a b = aLike b a := by rw [Bool.eq_iff_iff, aLike_iff, aLike_iff]; exact ⟨Eq.symm, Eq.symm⟩
theorem aPut_nil (a : Action) : aPut [] a = [a] := rfl
theorem aPut_cons (x : Action) (t : List Action) (a : Action) : aPut (x :: t) a = if aLike a x then a :: t else x :: aPut t a := by
  unfold aPut
  rw [List.findIdx?_cons]
  cases h : aLike a x
  · simp only [Bool.false_eq_true, if_false]
    cases ht : t.findIdx? (aLike a) <;> simp
  · simp
/-- each place at most once -/
def Spots (l : List Action) : Prop := l.Pairwise fun a b => aLike a b = false
theorem spots_nil : Spots [] := List.Pairwise.nil
theorem mem_aPut {W : List Action} {a x : Action} (h : x ∈ aPut W a) : x = a ∨ x ∈ W := by
  induction W with
  | nil => rw [aPut_nil] at h; left; simpa using h
  | cons y t ih =>
    rw [aPut_cons] at h
    split at h
    · rcases List.mem_cons.1 h with h | h
      · exact .inl h
      · exact .inr (List.mem_cons_of_mem _ h)
    · rcases List.mem_cons.1 h with h | h
      · exact .inr (by rw [h]; simp)
      · rcases ih h with h | h
        · exact .inl h
        · exact .inr (List.mem_cons_of_mem _ h)
theorem aPut_spots {W : List Action} (h : Spots W) (a : Action) : Spots (aPut W a) := by
  induction W with
  | nil => rw [aPut_nil]; exact List.pairwise_singleton _ _
  | cons y t ih =>
    unfold Spots at h ih ⊢
    rw [List.pairwise_cons] at h
    rw [aPut_cons]
    split
    · rename_i hk
      rw [List.pairwise_cons]
      refine ⟨fun b hb => ?_, h.2⟩
      have := h.1 b hb
      rw [aLike_iff] at hk
      cases hl : aLike a b
      · rfl
      · rw [aLike_iff] at hl
        have : aLike y b = true := by rw [aLike_iff, ← hk, hl]
        rw [h.1 b hb] at this; cases this
    · rename_i hk
      rw [List.pairwise_cons]
      refine ⟨fun b hb => ?_, ih h.2⟩
      rcases mem_aPut hb with e | hb
      · rw [e, aLike_comm]; simpa using hk
      · exact h.1 b hb
theorem aWrite_spots {set : List Action} (h : Spots set) (l : List Action) : Spots (aWrite set l) := by
  unfold aWrite
  induction l generalizing set with
  | nil => exact h
  | cons a l ih => exact ih (aPut_spots h a)
theorem aPut_has (W : List Action) (a : Action) : a ∈ aPut W a := by
  induction W with
  | nil => rw [aPut_nil]; simp
  | cons y t ih =>
    rw [aPut_cons]; split
    · simp
    · exact List.mem_cons_of_mem _ ih
theorem aPut_stays {W : List Action} {a x : Action} (h : x ∈ W) (hl : aLike a x = false) : x ∈ aPut W a := by
  induction W with
  | nil => cases h
  | cons y t ih =>
    rw [aPut_cons]; split
    · rename_i hk
      rcases List.mem_cons.1 h with e | h
      · rw [e] at hl; rw [hl] at hk; cases hk
      · exact List.mem_cons_of_mem _ h
    · rcases List.mem_cons.1 h with e | h
      · rw [e]; simp
      · exact List.mem_cons_of_mem _ (ih h)
theorem aWrite_stays {l : List Action} : ∀ {W : List Action} {x : Action}, x ∈ W → (∀ b, b ∈ l → aLike b x = false) → x ∈ aWrite W l := by
  unfold aWrite
  induction l with
  | nil => intro W x h _; exact h
  | cons a l ih => intro W x h hl; exact ih (aPut_stays h (hl a (by simp))) fun b hb => hl b (List.mem_cons_of_mem _ hb)
theorem aWrite_last (W l : List Action) (i : Nat) (hi : i < l.length) (h : (l.drop (i + 1)).any (aLike (nth l i)) = false) : nth l i ∈ aWrite W l := by
  have e : l = l.take (i + 1) ++ l.drop (i + 1) := (List.take_append_drop _ _).symm
  have e2 : aWrite W l = aWrite (aWrite W (l.take (i + 1))) (l.drop (i + 1)) := by
    conv => lhs; rw [e]
    unfold aWrite; rw [List.foldl_append]
  rw [e2]
  refine aWrite_stays ?_ fun b hb => ?_
  · rw [aWrite_succ hi]; exact aPut_has _ _
  · rw [List.any_eq_false] at h
    have := h b hb
    rw [aLike_comm]; simpa using this
theorem like28_c (a b : Action) : FnP Try.prog 19 [.agg a.enc, .agg b.enc] (.bool (aLike a b)) := by
  have e : aLike a b = (a.kind == b.kind && (!(a.kind == 25) || a.oxm.field == b.oxm.field)) := by
    rw [Bool.eq_iff_iff, aLike_iff]
    unfold aSpot
    by_cases h1 : a.kind = b.kind
    · by_cases h2 : a.kind = 25
      · have h3 : b.kind = 25 := by omega
        simp [h2, h3]
      · have h3 : ¬ b.kind = 25 := by omega
        simp [h1, h3]
    · simp [h1]
  rw [e]
  cases h1 : a.kind == b.kind
  · refine FnP.intro Try.func19 rfl rfl fun G w => ?_
    repeat' (first
     | refine WK.seq ?_
     | refine WK.block ?_
     | refine WK.inBlock ?_
     | refine WK.skip ?_
     | refine WK.label ?_
     | refine WK.scope ?_
     | refine WK.inScope ?_
     | refine WK.exit rfl ?_
     | refine WK.condT rfl ?_
     | refine WK.condF rfl ?_
     | (refine Hid.h hQ _ _ ?_; clear hQ hA)
     | refine WK.condAny rfl ?_ ?_
     | ((first | refine WK.cond2 rfl (fun h => ?_) (fun h => ?_) | refine Fork.mk (fun h => ?_) (fun h => ?_)) <;> (first | (simp [*] at h; done) | (have h2 := h; simp at h2; exfalso; omega) | (have h2 := h; simp at h2; try simp only [Bool.not_eq_true', Bool.not_eq_false'] at h) | skip))
     | (refine WK.regH Try.ntmps19 (by kernel_rfl) ?_; intro A hA Q hQ; simp [Action.enc, Oxm.enc, *])
     | (refine RunQ.gd rfl (by rw [hA.h]; rfl) ?_; simp [Action.enc, Oxm.enc, *])
     | (refine WK.ret Try.func19 ?_ ?_ <;> simp (maxDischargeDepth := 120) [Try.results19, Action.enc, Oxm.enc, *])
     | fail)
  · cases h2 : a.kind == 25
    · have h3 : bne a.kind 25 = true := by unfold bne; rw [h2]; rfl
      refine FnP.intro Try.func19 rfl rfl fun G w => ?_
      repeat' (first
       | refine WK.seq ?_
       | refine WK.block ?_
       | refine WK.inBlock ?_
       | refine WK.skip ?_
       | refine WK.label ?_
       | refine WK.scope ?_
       | refine WK.inScope ?_
       | refine WK.exit rfl ?_
       | refine WK.condT rfl ?_
       | refine WK.condF rfl ?_
       | (refine Hid.h hQ _ _ ?_; clear hQ hA)
       | refine WK.condAny rfl ?_ ?_
       | ((first | refine WK.cond2 rfl (fun h => ?_) (fun h => ?_) | refine Fork.mk (fun h => ?_) (fun h => ?_)) <;> (first | (simp [*] at h; done) | (have h2 := h; simp at h2; exfalso; omega) | (have h2 := h; simp at h2; try simp only [Bool.not_eq_true', Bool.not_eq_false'] at h) | skip))
       | (refine WK.regH Try.ntmps19 (by kernel_rfl) ?_; intro A hA Q hQ; simp [Action.enc, Oxm.enc, *])
       | (refine RunQ.gd rfl (by rw [hA.h]; rfl) ?_; simp [Action.enc, Oxm.enc, *])
       | (refine WK.ret Try.func19 ?_ ?_ <;> simp (maxDischargeDepth := 120) [Try.results19, Action.enc, Oxm.enc, *])
       | fail)
    · have h3 : bne a.kind 25 = false := by unfold bne; rw [h2]; rfl
      refine FnP.intro Try.func19 rfl rfl fun G w => ?_
      repeat' (first
       | refine WK.seq ?_
       | refine WK.block ?_
       | refine WK.inBlock ?_
       | refine WK.skip ?_
       | refine WK.label ?_
       | refine WK.scope ?_
       | refine WK.inScope ?_
       | refine WK.exit rfl ?_
       | refine WK.condT rfl ?_
       | refine WK.condF rfl ?_
       | (refine Hid.h hQ _ _ ?_; clear hQ hA)
       | refine WK.condAny rfl ?_ ?_
       | ((first | refine WK.cond2 rfl (fun h => ?_) (fun h => ?_) | refine Fork.mk (fun h => ?_) (fun h => ?_)) <;> (first | (simp [*] at h; done) | (have h2 := h; simp at h2; exfalso; omega) | (have h2 := h; simp at h2; try simp only [Bool.not_eq_true', Bool.not_eq_false'] at h) | skip))
       | (refine WK.regH Try.ntmps19 (by kernel_rfl) ?_; intro A hA Q hQ; simp [Action.enc, Oxm.enc, *])
       | (refine RunQ.gd rfl (by rw [hA.h]; rfl) ?_; simp [Action.enc, Oxm.enc, *])
       | (refine WK.ret Try.func19 ?_ ?_ <;> simp (maxDischargeDepth := 120) [Try.results19, Action.enc, Oxm.enc, *])
       | fail)
theorem aonce1_c (a b : Action) : FnP Try.prog 18 [.agg b.enc, .iptr a.enc] (.bool (aLike a b)) := by
  refine FnP.intro Try.func18 rfl rfl fun G w => ?_
  repeat' (first
   | refine WK.seq ?_
   | refine WK.block ?_
   | refine WK.inBlock ?_
   | refine WK.skip ?_
   | refine WK.label ?_
   | refine WK.scope ?_
   | refine WK.inScope ?_
   | refine WK.exit rfl ?_
   | refine WK.condT rfl ?_
   | refine WK.condF rfl ?_
   | (refine Hid.h hQ _ _ ?_; clear hQ hA)
   | refine WK.condAny rfl ?_ ?_
   | ((first | refine WK.cond2 rfl (fun h => ?_) (fun h => ?_)) <;> (first | (simp [*] at h; done) | (have h2 := h; simp at h2; exfalso; omega) | (have h2 := h; simp at h2; try simp only [Bool.not_eq_true', Bool.not_eq_false'] at h) | skip))
   | (refine WK.regH Try.ntmps18 (by kernel_rfl) ?_; intro A hA Q hQ; simp [*])
   | ((refine RunQ.call rfl rfl rfl rfl rfl ?_ (like28_c a b) ?_ ?_; (focus (simp (maxDischargeDepth := 120) [*]; done))); (focus (simp [*]; done)); refine RunQ.evalH ?_; simp [*])
   | (refine WK.ret Try.func18 ?_ ?_ <;> simp (maxDischargeDepth := 120) [Try.results18, *])
   | fail)
theorem aonce2_c (a b : Action) : FnP Try.prog 20 [.agg b.enc, .iptr a.enc] (.bool (aLike a b)) := by
  refine FnP.intro Try.func20 rfl rfl fun G w => ?_
  repeat' (first
   | refine WK.seq ?_
   | refine WK.block ?_
   | refine WK.inBlock ?_
   | refine WK.skip ?_
   | refine WK.label ?_
   | refine WK.scope ?_
   | refine WK.inScope ?_
   | refine WK.exit rfl ?_
   | refine WK.condT rfl ?_
   | refine WK.condF rfl ?_
   | (refine Hid.h hQ _ _ ?_; clear hQ hA)
   | refine WK.condAny rfl ?_ ?_
   | ((first | refine WK.cond2 rfl (fun h => ?_) (fun h => ?_)) <;> (first | (simp [*] at h; done) | (have h2 := h; simp at h2; exfalso; omega) | (have h2 := h; simp at h2; try simp only [Bool.not_eq_true', Bool.not_eq_false'] at h) | skip))
   | (refine WK.regH Try.ntmps20 (by kernel_rfl) ?_; intro A hA Q hQ; simp [*])
   | ((refine RunQ.call rfl rfl rfl rfl rfl ?_ (like28_c a b) ?_ ?_; (focus (simp (maxDischargeDepth := 120) [*]; done))); (focus (simp [*]; done)); refine RunQ.evalH ?_; simp [*])
   | (refine WK.ret Try.func20 ?_ ?_ <;> simp (maxDischargeDepth := 120) [Try.results20, *])
   | fail)
theorem awriteP_c (set l : List Action) (hs : set.length ≤ 500000) (hl : l.length ≤ 500000) : FnP Try.prog 16 [actS set, actS l] (actS (aWrite set l)) := by
  have h := (awriteO_c set l hs hl).toP (by simp)
  rw [act_full _ _ rfl] at h
  exact h
theorem alistP_c (set : List Action) (hs : set.length ≤ 500000) : FnP Try.prog 37 [actS set] (actS (aList set)) := by
  have h := (alist_c set hs).toP (by simp)
  rw [act_full _ _ rfl] at h
  exact h
def K28 (k p : Int) : Action := ⟨k, p, 0, 0, 0, oxm0⟩
theorem f28a : aWrite [] [K28 0 1, K28 0 2, K28 18 0] = [K28 0 2, K28 18 0] := by kernel_rfl
theorem f28b : aList [K28 0 2, K28 18 0] = [K28 18 0, K28 0 2] := by kernel_rfl
theorem f28c : aList [K28 22 0, K28 0 0] = [K28 22 0] := by kernel_rfl
end Go.Proofs.Ytbncoeoamjcjjaa
end

section
set_option linter.unusedVariables false
set_option linter.unusedSimpArgs false
namespace Go.Proofs.Ytbncoeoamjcjjaa
open Go Go.AI Go.Proofs
attribute [local irreducible] FnP FnO FnB FnT FnSeq WK RunQ RunQW RunX RunXW

theorem awake28_c : FnP Try.prog 15 [] (.bool true) := by
  have p := awriteP_c [] [K28 0 1, K28 0 2, K28 18 0] (by simp) (by simp)
  have q := alistP_c [K28 0 2, K28 18 0] (by simp)
  have q2 := alistP_c [K28 22 0, K28 0 0] (by simp)
  have r := arw_c (K28 17 0)
  rw [f28a] at p
  rw [f28b] at q
  rw [f28c] at q2
  rw [show aRw (K28 17 0) = rSet cubeZ 5 (bitW 12) (bitW 12) from rfl] at r
  have hg : (encC (rSet cubeZ 5 (bitW 12) (bitW 12)))[21]'(by simp) = .int .u64 4096 := by kernel_rfl
  obtain ⟨C, hC⟩ : ∃ C, rSet cubeZ 5 (bitW 12) (bitW 12) = C := ⟨_, rfl⟩
  rw [hC] at r hg
  clear hC
  simp only [actS, actL, K28, List.flatMap_cons, List.flatMap_nil, List.append_nil, List.cons_append, List.nil_append, List.length_cons, List.length_nil, Action.enc, oxm0, wideZ, uI_zero] at p q q2 r
  refine FnP.intro Try.func15 rfl rfl fun G w => ?_
  repeat' (first
   | refine WK.seq ?_
   | refine WK.block ?_
   | refine WK.inBlock ?_
   | refine WK.skip ?_
   | refine WK.label ?_
   | refine WK.scope ?_
   | refine WK.inScope ?_
   | refine WK.exit rfl ?_
   | refine WK.condT rfl ?_
   | refine WK.condF rfl ?_
   | (refine Hid.h hQ _ _ ?_; clear hQ hA)
   | refine WK.condAny rfl ?_ ?_
   | ((first | refine WK.cond2 rfl (fun h => ?_) (fun h => ?_) | refine Fork.mk (fun h => ?_) (fun h => ?_)) <;> (first | (simp [*] at h; done) | (have h2 := h; simp at h2; exfalso; omega) | (have h2 := h; simp at h2; try simp only [Bool.not_eq_true', Bool.not_eq_false'] at h) | skip))
   | (refine WK.regH Try.ntmps15 (by kernel_rfl) ?_; intro A hA Q hQ; simp [*])
   | (refine RunQ.gd rfl (by rw [hA.h]; rfl) ?_; simp [*])
   | ((first | ((first | refine RunQ.call rfl rfl rfl rfl rfl ?_ (p) ?_ ?_ | refine RunQW.call rfl rfl rfl rfl ?_ (p) ?_ ?_); (focus (simp (maxDischargeDepth := 120) [*]; done))) | ((first | refine RunQ.call rfl rfl rfl rfl rfl ?_ (q) ?_ ?_ | refine RunQW.call rfl rfl rfl rfl ?_ (q) ?_ ?_); (focus (simp (maxDischargeDepth := 120) [*]; done))) | ((first | refine RunQ.call rfl rfl rfl rfl rfl ?_ (q2) ?_ ?_ | refine RunQW.call rfl rfl rfl rfl ?_ (q2) ?_ ?_); (focus (simp (maxDischargeDepth := 120) [*]; done))) | ((first | refine RunQ.call rfl rfl rfl rfl rfl ?_ (r) ?_ ?_ | refine RunQW.call rfl rfl rfl rfl ?_ (r) ?_ ?_); (focus (simp (maxDischargeDepth := 120) [*]; done)))); (focus (simp [*]; done)); refine RunQ.evalH ?_; simp [*])
   | (refine WK.ret Try.func15 ?_ ?_ <;> simp (maxDischargeDepth := 120) [Try.results15, *])
   | fail)
theorem asetOnce_c (l : List Action) : FnP Try.prog 4 [actS l] (.bool true) := by
  by_cases h1 : 60 < l.length
  · have h1' : (60 : Int) < l.length := by omega
    unfold actS
    refine FnP.intro Try.func4 rfl rfl fun G w => ?_
    repeat' (first
     | refine WK.seq ?_
     | refine WK.block ?_
     | refine WK.inBlock ?_
     | refine WK.skip ?_
     | refine WK.label ?_
     | refine WK.scope ?_
     | refine WK.inScope ?_
     | refine WK.exit rfl ?_
     | refine WK.condT rfl ?_
     | refine WK.condF rfl ?_
     | (refine Hid.h hQ _ _ ?_; clear hQ hA)
     | refine WK.condAny rfl ?_ ?_
     | ((first | refine WK.cond2 rfl (fun h => ?_) (fun h => ?_) | refine Fork.mk (fun h => ?_) (fun h => ?_)) <;> (first | (simp [*] at h; done) | (have h2 := h; simp at h2; exfalso; omega) | (have h2 := h; simp at h2; try simp only [Bool.not_eq_true', Bool.not_eq_false'] at h) | skip))
     | (refine WK.regH Try.ntmps4 (by kernel_rfl) ?_; intro A hA Q hQ; simp [*])
     | (refine RunQ.gd rfl (by rw [hA.h]; rfl) ?_; simp [*])
     | (((first | refine RunQ.call rfl rfl rfl rfl rfl ?_ (awake28_c) ?_ ?_ | refine RunQW.call rfl rfl rfl rfl ?_ (awake28_c) ?_ ?_); (focus (simp (maxDischargeDepth := 120) [*]; done))); (focus (simp [*]; done)); refine RunQ.evalH ?_; simp [*])
     | (refine WK.ret Try.func4 ?_ ?_ <;> simp (maxDischargeDepth := 120) [Try.results4, *])
     | fail)
  have h1' : ¬ (60 : Int) < l.length := by omega
  have p := awriteP_c [] l (by simp) (by omega)
  have hsp := aWrite_spots spots_nil l
  have hln := (aWrite_len [] l).2
  have hlast := aWrite_last [] l
  obtain ⟨W, hW⟩ : ∃ W, aWrite [] l = W := ⟨_, rfl⟩
  rw [hW] at p hsp hln hlast
  clear hW
  simp only [List.length_nil, Nat.zero_add] at hln
  have hle : (W.length : Int) ≤ l.length := by omega
  have hWl : W.length ≤ 1000000 := by omega
  unfold actS at p ⊢
  simp only [actL_nil, List.length_nil] at p
  refine FnP.intro Try.func4 rfl rfl fun G w => ?_
  repeat' (first
   | refine WK.seq ?_
   | refine WK.block ?_
   | refine WK.inBlock ?_
   | refine WK.skip ?_
   | refine WK.label ?_
   | refine WK.scope ?_
   | refine WK.inScope ?_
   | refine WK.exit rfl ?_
   | refine WK.condT rfl ?_
   | refine WK.condF rfl ?_
   | (refine Hid.h hQ _ _ ?_; clear hQ hA)
   | refine WK.condAny rfl ?_ ?_
   | ((first | refine WK.cond2 rfl (fun h => ?_) (fun h => ?_) | refine Fork.mk (fun h => ?_) (fun h => ?_)) <;> (first | (simp [*] at h; done) | (have h2 := h; simp at h2; exfalso; omega) | (have h2 := h; simp at h2; try simp only [Bool.not_eq_true', Bool.not_eq_false'] at h) | skip))
   | (refine WK.regH Try.ntmps4 (by kernel_rfl) ?_; intro A hA Q hQ; simp [*])
   | (refine RunQ.gd rfl (by rw [hA.h]; rfl) ?_; simp [*])
   | (((first | refine RunQ.call rfl rfl rfl rfl rfl ?_ (p) ?_ ?_ | refine RunQW.call rfl rfl rfl rfl ?_ (p) ?_ ?_); (focus (simp (maxDischargeDepth := 120) [*]; done))); (focus (simp [*]; done)); refine RunQ.evalH ?_; simp [*])
   | fail)
  repeat (first | refine WK.seq ?_ | refine WK.block ?_ | refine WK.inBlock ?_ | refine WK.skip ?_ | refine WK.label ?_ | refine WK.scope ?_ | refine WK.inScope ?_ | refine WK.exit rfl ?_)
  refine WK.loopI (fun n => n) (fun i : Nat => (⟨(upd (upd (upd (upd (upd J 0 (.sl false l.length (actL l))) 3 (.sl false W.length (actL W))) 15 (.sl false W.length (actL W))) 16 (.int .i64 W.length)) 17 (.int .i64 i)), B0, 0⟩ : St)) (fun i => i ≤ W.length) (fun i => W.length - i) (0) (by repeat (first | exact TmW.nil | refine TmW.upd ?_ (by simp (maxDischargeDepth := 120)))) (by repeat (first | exact BxW.nil | refine BxW.upd ?_ (by simp (maxDischargeDepth := 120)))) (by first | exact InjW.id | exact InjW.nil | exact InjW.one | exact InjW.two (by simp) | exact InjW.three (by simp) (by simp) (by simp)) (Nat.zero_le _) (fun i hi IH => ?_)
  by_cases h2 : i < W.length
  · obtain ⟨h4, h3⟩ := act_load W i h2
    have h6 : IntKind.i64.wrap ((i : Int) + 1) = i + 1 := wrap_i64 (by omega) (by omega)
    have hno : (W.take i).any (aLike (nth W i)) = false := by
      rw [List.any_eq_false]; intro b hb
      obtain ⟨j, hj, rfl⟩ := List.mem_iff_getElem.1 hb
      rw [List.length_take] at hj
      have := List.pairwise_iff_getElem.1 hsp j i (by omega) h2 (by omega)
      rw [List.getElem_take, nth_eq h2, aLike_comm, this]; exact Bool.false_ne_true
    obtain ⟨x, hx⟩ : ∃ x, nth W i = x := ⟨_, rfl⟩
    rw [hx] at h4 hno
    have c := containsf_act 18 [.iptr x.enc] (aLike x) (W.take i) (by simp) (by have : (W.take i).length ≤ W.length := List.length_take_le' _ _; omega) (fun y _ => aonce1_c x y)
    rw [hno] at c
    unfold actS at c
    rw [show (W.take i).length = i by rw [List.length_take]; omega, show actL (W.take i) = (actL W).take (i * 11) from (fm_take Action.len W i).symm] at c
    have hcl : ClL ((actL W).take (i * 11)) = true := by rw [show (actL W).take (i * 11) = actL (W.take i) from fm_take Action.len W i]; simp
    clear hx hno
    repeat' (first
     | refine WK.seq ?_
     | refine WK.block ?_
     | refine WK.inBlock ?_
     | refine WK.skip ?_
     | refine WK.label ?_
     | refine WK.scope ?_
     | refine WK.inScope ?_
     | refine WK.exit rfl ?_
     | refine WK.condT rfl ?_
     | refine WK.condF rfl ?_
     | (refine Hid.h hQ _ _ ?_; clear hQ hA)
     | refine WK.condAny rfl ?_ ?_
     | ((first | refine WK.cond2 rfl (fun h => ?_) (fun h => ?_) | refine Fork.mk (fun h => ?_) (fun h => ?_)) <;> (first | (simp [*] at h; done) | (have h2 := h; simp at h2; exfalso; omega) | (have h2 := h; simp at h2; try simp only [Bool.not_eq_true', Bool.not_eq_false'] at h) | skip))
     | ((first | refine WK.regH (id := 0) Try.ntmps4 (by kernel_rfl) ?_ | refine WK.regH (id := 1) Try.ntmps4 (by kernel_rfl) ?_ | refine WK.regH (id := 2) Try.ntmps4 (by kernel_rfl) ?_ | refine WK.regH (id := 3) Try.ntmps4 (by kernel_rfl) ?_ | refine WK.regH (id := 4) Try.ntmps4 (by kernel_rfl) ?_ | refine WK.regH (id := 5) Try.ntmps4 (by kernel_rfl) ?_ | refine WK.regH (id := 6) Try.ntmps4 (by kernel_rfl) ?_); intro A hA Q hQ; simp [*])
     | (refine RunQ.gd rfl (by rw [hA.h]; rfl) ?_; simp [*])
     | fail)
    repeat (first | refine WK.seq ?_ | refine WK.block ?_ | refine WK.inBlock ?_ | refine WK.skip ?_ | refine WK.label ?_ | refine WK.scope ?_ | refine WK.inScope ?_ | refine WK.exit rfl ?_)
    refine WK.ghost (Ghost.frzVar 5 rfl rfl) ?_
    repeat' (first
     | refine WK.seq ?_
     | refine WK.block ?_
     | refine WK.inBlock ?_
     | refine WK.skip ?_
     | refine WK.label ?_
     | refine WK.scope ?_
     | refine WK.inScope ?_
     | refine WK.exit rfl ?_
     | refine WK.condT rfl ?_
     | refine WK.condF rfl ?_
     | (refine Hid.h hQ _ _ ?_; clear hQ hA)
     | refine WK.condAny rfl ?_ ?_
     | ((first | refine WK.cond2 rfl (fun h => ?_) (fun h => ?_) | refine Fork.mk (fun h => ?_) (fun h => ?_)) <;> (first | (simp [*] at h; done) | (have h2 := h; simp at h2; exfalso; omega) | (have h2 := h; simp at h2; try simp only [Bool.not_eq_true', Bool.not_eq_false'] at h) | skip))
     | (refine WK.regH Try.ntmps4 (by kernel_rfl) ?_; intro A hA Q hQ; simp [*])
     | (refine RunQ.gd rfl (by rw [hA.h]; rfl) ?_; simp [*])
     | (((first | refine RunQ.call rfl rfl rfl rfl rfl ?_ (c) ?_ ?_ | refine RunQW.call rfl rfl rfl rfl ?_ (c) ?_ ?_); (focus (simp (maxDischargeDepth := 120) [*]; done))); (focus (simp [*]; done)); refine RunQ.evalH ?_; simp [*])
     | fail)
    repeat (first | refine WK.seq ?_ | refine WK.block ?_ | refine WK.inBlock ?_ | refine WK.skip ?_ | refine WK.label ?_ | refine WK.scope ?_ | refine WK.inScope ?_ | refine WK.exit rfl ?_)
    refine WK.next (fun n => n) (IH (i + 1) (by omega) (by first | omega | (dsimp only; omega))) (by repeat (first | exact TmW.nil | refine TmW.upd ?_ (by simp (maxDischargeDepth := 120)))) (by repeat (first | exact BxW.nil | refine BxW.upd ?_ (by simp (maxDischargeDepth := 120)))) (by first | exact InjW.id | exact InjW.nil | exact InjW.one | exact InjW.two (by simp) | exact InjW.three (by simp) (by simp) (by simp))
  · repeat' (first
     | refine WK.seq ?_
     | refine WK.block ?_
     | refine WK.inBlock ?_
     | refine WK.skip ?_
     | refine WK.label ?_
     | refine WK.scope ?_
     | refine WK.inScope ?_
     | refine WK.exit rfl ?_
     | refine WK.condT rfl ?_
     | refine WK.condF rfl ?_
     | (refine Hid.h hQ _ _ ?_; clear hQ hA)
     | refine WK.condAny rfl ?_ ?_
     | ((first | refine WK.cond2 rfl (fun h => ?_) (fun h => ?_) | refine Fork.mk (fun h => ?_) (fun h => ?_)) <;> (first | (simp [*] at h; done) | (have h2 := h; simp at h2; exfalso; omega) | (have h2 := h; simp at h2; try simp only [Bool.not_eq_true', Bool.not_eq_false'] at h) | skip))
     | (refine WK.regH Try.ntmps4 (by kernel_rfl) ?_; intro A hA Q hQ; simp [*])
     | (refine RunQ.gd rfl (by rw [hA.h]; rfl) ?_; simp [*])
     | fail)
    repeat (first | refine WK.seq ?_ | refine WK.block ?_ | refine WK.inBlock ?_ | refine WK.skip ?_ | refine WK.label ?_ | refine WK.scope ?_ | refine WK.inScope ?_ | refine WK.exit rfl ?_)
    refine WK.loopI (fun n => n) (fun i : Nat => (⟨(upd (upd (upd (upd (upd J 0 (.sl false l.length (actL l))) 3 (.sl false W.length (actL W))) 28 (.sl false l.length (actL l))) 29 (.int .i64 l.length)) 30 (.int .i64 i)), B0, 0⟩ : St)) (fun i => i ≤ l.length) (fun i => l.length - i) (0) (by repeat (first | exact TmW.nil | refine TmW.upd ?_ (by simp (maxDischargeDepth := 120)))) (by repeat (first | exact BxW.nil | refine BxW.upd ?_ (by simp (maxDischargeDepth := 120)))) (by first | exact InjW.id | exact InjW.nil | exact InjW.one | exact InjW.two (by simp) | exact InjW.three (by simp) (by simp) (by simp)) (Nat.zero_le _) (fun k hk IHk => ?_)
    by_cases h5 : k < l.length
    · obtain ⟨h4, h3⟩ := act_load l k h5
      have h6 : IntKind.i64.wrap ((k : Int) + 1) = (k : Int) + 1 := wrap_i64 (by omega) (by omega)
      have hk1 : (k : Int) + 1 ≤ l.length := by omega
      have hk0 : (0 : Int) ≤ (k : Int) + 1 := by omega
      have ht : ((actL l).drop ((k + 1) * 11)).take ((l.length - (k + 1)) * 11) = (actL l).drop ((k + 1) * 11) := List.take_of_length_le (by rw [List.length_drop, actL_len]; omega)
      have hla := hlast k h5
      obtain ⟨x, hx⟩ : ∃ x, nth l k = x := ⟨_, rfl⟩
      rw [hx] at h4 hla
      have c := containsf_act 20 [.iptr x.enc] (aLike x) (l.drop (k + 1)) (by simp) (by rw [List.length_drop]; omega) (fun y _ => aonce2_c x y)
      have d := acontains_c W x hWl
      unfold actS at c d
      rw [show (l.drop (k + 1)).length = l.length - (k + 1) by rw [List.length_drop], show actL (l.drop (k + 1)) = (actL l).drop ((k + 1) * 11) from (fm_drop Action.len l (k + 1)).symm] at c
      have hcl : ClL ((actL l).drop ((k + 1) * 11)) = true := by rw [show (actL l).drop ((k + 1) * 11) = actL (l.drop (k + 1)) from fm_drop Action.len l (k + 1)]; simp
      clear hx hlast
      cases hb : (l.drop (k + 1)).any (aLike x)
      · have hin : (W.any fun y => x == y) = true := List.any_eq_true.2 ⟨x, hla hb, by simp⟩
        rw [hb] at c
        rw [hin] at d
        clear hb hin hla
        repeat' (first
         | refine WK.seq ?_
         | refine WK.block ?_
         | refine WK.inBlock ?_
         | refine WK.skip ?_
         | refine WK.label ?_
         | refine WK.scope ?_
         | refine WK.inScope ?_
         | refine WK.exit rfl ?_
         | refine WK.condT rfl ?_
         | refine WK.condF rfl ?_
         | (refine Hid.h hQ _ _ ?_; clear hQ hA)
         | refine WK.condAny rfl ?_ ?_
         | ((first | refine WK.cond2 rfl (fun h => ?_) (fun h => ?_) | refine Fork.mk (fun h => ?_) (fun h => ?_)) <;> (first | (simp [*] at h; done) | (have h2 := h; simp at h2; exfalso; omega) | (have h2 := h; simp at h2; try simp only [Bool.not_eq_true', Bool.not_eq_false'] at h) | skip))
         | ((first | refine WK.regH (id := 0) Try.ntmps4 (by kernel_rfl) ?_ | refine WK.regH (id := 1) Try.ntmps4 (by kernel_rfl) ?_ | refine WK.regH (id := 2) Try.ntmps4 (by kernel_rfl) ?_ | refine WK.regH (id := 3) Try.ntmps4 (by kernel_rfl) ?_ | refine WK.regH (id := 4) Try.ntmps4 (by kernel_rfl) ?_ | refine WK.regH (id := 5) Try.ntmps4 (by kernel_rfl) ?_ | refine WK.regH (id := 6) Try.ntmps4 (by kernel_rfl) ?_ | refine WK.regH (id := 7) Try.ntmps4 (by kernel_rfl) ?_ | refine WK.regH (id := 8) Try.ntmps4 (by kernel_rfl) ?_ | refine WK.regH (id := 9) Try.ntmps4 (by kernel_rfl) ?_ | refine WK.regH (id := 10) Try.ntmps4 (by kernel_rfl) ?_ | refine WK.regH (id := 11) Try.ntmps4 (by kernel_rfl) ?_ | refine WK.regH (id := 12) Try.ntmps4 (by kernel_rfl) ?_); intro A hA Q hQ; simp [*])
         | (refine RunQ.gd rfl (by rw [hA.h]; rfl) ?_; simp [*])
         | fail)
        repeat (first | refine WK.seq ?_ | refine WK.block ?_ | refine WK.inBlock ?_ | refine WK.skip ?_ | refine WK.label ?_ | refine WK.scope ?_ | refine WK.inScope ?_ | refine WK.exit rfl ?_)
        refine WK.ghost (Ghost.frzVar 7 rfl rfl) ?_
        repeat' (first
         | refine WK.seq ?_
         | refine WK.block ?_
         | refine WK.inBlock ?_
         | refine WK.skip ?_
         | refine WK.label ?_
         | refine WK.scope ?_
         | refine WK.inScope ?_
         | refine WK.exit rfl ?_
         | refine WK.condT rfl ?_
         | refine WK.condF rfl ?_
         | (refine Hid.h hQ _ _ ?_; clear hQ hA)
         | refine WK.condAny rfl ?_ ?_
         | ((first | refine WK.cond2 rfl (fun h => ?_) (fun h => ?_) | refine Fork.mk (fun h => ?_) (fun h => ?_)) <;> (first | (simp [*] at h; done) | (have h2 := h; simp at h2; exfalso; omega) | (have h2 := h; simp at h2; try simp only [Bool.not_eq_true', Bool.not_eq_false'] at h) | skip))
         | (refine WK.regH Try.ntmps4 (by kernel_rfl) ?_; intro A hA Q hQ; simp [*])
         | (refine RunQ.gd rfl (by rw [hA.h]; rfl) ?_; simp [*])
         | ((first | ((first | refine RunQ.call rfl rfl rfl rfl rfl ?_ (c) ?_ ?_ | refine RunQW.call rfl rfl rfl rfl ?_ (c) ?_ ?_); (focus (simp (maxDischargeDepth := 120) [*]; done))) | ((first | refine RunQ.call rfl rfl rfl rfl rfl ?_ (d) ?_ ?_ | refine RunQW.call rfl rfl rfl rfl ?_ (d) ?_ ?_); (focus (simp (maxDischargeDepth := 120) [*]; done)))); (focus (simp [*]; done)); refine RunQ.evalH ?_; simp [*])
         | fail)
        repeat (first | refine WK.seq ?_ | refine WK.block ?_ | refine WK.inBlock ?_ | refine WK.skip ?_ | refine WK.label ?_ | refine WK.scope ?_ | refine WK.inScope ?_ | refine WK.exit rfl ?_)
        refine WK.next (fun n => n) (IHk (k + 1) (by omega) (by first | omega | (dsimp only; omega))) (by repeat (first | exact TmW.nil | refine TmW.upd ?_ (by simp (maxDischargeDepth := 120)))) (by repeat (first | exact BxW.nil | refine BxW.upd ?_ (by simp (maxDischargeDepth := 120)))) (by first | exact InjW.id | exact InjW.nil | exact InjW.one | exact InjW.two (by simp) | exact InjW.three (by simp) (by simp) (by simp))
      · rw [hb] at c
        clear hb hla d
        repeat' (first
         | refine WK.seq ?_
         | refine WK.block ?_
         | refine WK.inBlock ?_
         | refine WK.skip ?_
         | refine WK.label ?_
         | refine WK.scope ?_
         | refine WK.inScope ?_
         | refine WK.exit rfl ?_
         | refine WK.condT rfl ?_
         | refine WK.condF rfl ?_
         | (refine Hid.h hQ _ _ ?_; clear hQ hA)
         | refine WK.condAny rfl ?_ ?_
         | ((first | refine WK.cond2 rfl (fun h => ?_) (fun h => ?_) | refine Fork.mk (fun h => ?_) (fun h => ?_)) <;> (first | (simp [*] at h; done) | (have h2 := h; simp at h2; exfalso; omega) | (have h2 := h; simp at h2; try simp only [Bool.not_eq_true', Bool.not_eq_false'] at h) | skip))
         | ((first | refine WK.regH (id := 0) Try.ntmps4 (by kernel_rfl) ?_ | refine WK.regH (id := 1) Try.ntmps4 (by kernel_rfl) ?_ | refine WK.regH (id := 2) Try.ntmps4 (by kernel_rfl) ?_ | refine WK.regH (id := 3) Try.ntmps4 (by kernel_rfl) ?_ | refine WK.regH (id := 4) Try.ntmps4 (by kernel_rfl) ?_ | refine WK.regH (id := 5) Try.ntmps4 (by kernel_rfl) ?_ | refine WK.regH (id := 6) Try.ntmps4 (by kernel_rfl) ?_ | refine WK.regH (id := 7) Try.ntmps4 (by kernel_rfl) ?_ | refine WK.regH (id := 8) Try.ntmps4 (by kernel_rfl) ?_ | refine WK.regH (id := 9) Try.ntmps4 (by kernel_rfl) ?_ | refine WK.regH (id := 10) Try.ntmps4 (by kernel_rfl) ?_ | refine WK.regH (id := 11) Try.ntmps4 (by kernel_rfl) ?_ | refine WK.regH (id := 12) Try.ntmps4 (by kernel_rfl) ?_); intro A hA Q hQ; simp [*])
         | (refine RunQ.gd rfl (by rw [hA.h]; rfl) ?_; simp [*])
         | fail)
        repeat (first | refine WK.seq ?_ | refine WK.block ?_ | refine WK.inBlock ?_ | refine WK.skip ?_ | refine WK.label ?_ | refine WK.scope ?_ | refine WK.inScope ?_ | refine WK.exit rfl ?_)
        refine WK.ghost (Ghost.frzVar 7 rfl rfl) ?_
        repeat' (first
         | refine WK.seq ?_
         | refine WK.block ?_
         | refine WK.inBlock ?_
         | refine WK.skip ?_
         | refine WK.label ?_
         | refine WK.scope ?_
         | refine WK.inScope ?_
         | refine WK.exit rfl ?_
         | refine WK.condT rfl ?_
         | refine WK.condF rfl ?_
         | (refine Hid.h hQ _ _ ?_; clear hQ hA)
         | refine WK.condAny rfl ?_ ?_
         | ((first | refine WK.cond2 rfl (fun h => ?_) (fun h => ?_) | refine Fork.mk (fun h => ?_) (fun h => ?_)) <;> (first | (simp [*] at h; done) | (have h2 := h; simp at h2; exfalso; omega) | (have h2 := h; simp at h2; try simp only [Bool.not_eq_true', Bool.not_eq_false'] at h) | skip))
         | (refine WK.regH Try.ntmps4 (by kernel_rfl) ?_; intro A hA Q hQ; simp [*])
         | (refine RunQ.gd rfl (by rw [hA.h]; rfl) ?_; simp [*])
         | (((first | refine RunQ.call rfl rfl rfl rfl rfl ?_ (c) ?_ ?_ | refine RunQW.call rfl rfl rfl rfl ?_ (c) ?_ ?_); (focus (simp (maxDischargeDepth := 120) [*]; done))); (focus (simp [*]; done)); refine RunQ.evalH ?_; simp [*])
         | fail)
        repeat (first | refine WK.seq ?_ | refine WK.block ?_ | refine WK.inBlock ?_ | refine WK.skip ?_ | refine WK.label ?_ | refine WK.scope ?_ | refine WK.inScope ?_ | refine WK.exit rfl ?_)
        refine WK.next (fun n => n) (IHk (k + 1) (by omega) (by first | omega | (dsimp only; omega))) (by repeat (first | exact TmW.nil | refine TmW.upd ?_ (by simp (maxDischargeDepth := 120)))) (by repeat (first | exact BxW.nil | refine BxW.upd ?_ (by simp (maxDischargeDepth := 120)))) (by first | exact InjW.id | exact InjW.nil | exact InjW.one | exact InjW.two (by simp) | exact InjW.three (by simp) (by simp) (by simp))
    · repeat' (first
       | refine WK.seq ?_
       | refine WK.block ?_
       | refine WK.inBlock ?_
       | refine WK.skip ?_
       | refine WK.label ?_
       | refine WK.scope ?_
       | refine WK.inScope ?_
       | refine WK.exit rfl ?_
       | refine WK.condT rfl ?_
       | refine WK.condF rfl ?_
       | (refine Hid.h hQ _ _ ?_; clear hQ hA)
       | refine WK.condAny rfl ?_ ?_
       | ((first | refine WK.cond2 rfl (fun h => ?_) (fun h => ?_) | refine Fork.mk (fun h => ?_) (fun h => ?_)) <;> (first | (simp [*] at h; done) | (have h2 := h; simp at h2; exfalso; omega) | (have h2 := h; simp at h2; try simp only [Bool.not_eq_true', Bool.not_eq_false'] at h) | skip))
       | (refine WK.regH Try.ntmps4 (by kernel_rfl) ?_; intro A hA Q hQ; simp [*])
       | (refine RunQ.gd rfl (by rw [hA.h]; rfl) ?_; simp [*])
       | (((first | refine RunQ.call rfl rfl rfl rfl rfl ?_ (awake28_c) ?_ ?_ | refine RunQW.call rfl rfl rfl rfl ?_ (awake28_c) ?_ ?_); (focus (simp (maxDischargeDepth := 120) [*]; done))); (focus (simp [*]; done)); refine RunQ.evalH ?_; simp [*])
       | (refine WK.ret Try.func4 ?_ ?_ <;> simp (maxDischargeDepth := 120) [Try.results4, *])
       | fail)
end Go.Proofs.Ytbncoeoamjcjjaa
end
