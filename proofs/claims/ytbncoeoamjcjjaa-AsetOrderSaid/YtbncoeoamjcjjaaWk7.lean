/- Sets of actions: each place once; the statement AsetOnce. -/
import Derived.Test.YtbncoeoamjcjjaaWk6
import Derived.Test.YtbncoeoamjcjjaaWk2
set_option linter.all false
set_option linter.unnecessarySimpa false
section
set_option linter.unusedVariables false
set_option linter.unusedSimpArgs false
namespace Go.Proofs.Ytbncoeoamjcjjaa
open Go Go.AI Go.Proofs
attribute [local irreducible] FnP FnO FnB FnT FnSeq WK RunQ RunQW RunX RunXW

theorem aLike_iff (a b : Action) : aLike a b = true ↔ aSpot a = aSpot b := by unfold aLike; rw [beq_iff_eq]
theorem aLike_comm (a b : Action) : aLike a b = aLike b a := by rw [Bool.eq_iff_iff, aLike_iff, aLike_iff]; exact ⟨Eq.symm, Eq.symm⟩
theorem aPut_nil (a : Action) : aPut [] a = [a] := rfl
theorem aPut_cons (x : Action) (t : List Action) (a : Action) : aPut (x :: t) a = if aLike a x then a :: t else x :: aPut t a := by
  unfold aPut
  rw [List.findIdx?_cons]
  cases h : aLike a x
  · simp only [Bool.false_eq_true, if_false]
    cases ht : t.findIdx? (aLike a) <;> simp
  · simp
/-- each place at most once -/
def Spots (l : List Action) : Prop := l.Pairwise fun a b => aLike a b = false
theorem spots_nil : Spots [] := List.Pairwise.nil
theorem mem_aPut {W : List Action} {a x : Action} (h : x ∈ aPut W a) : x = a ∨ x ∈ W := by
  induction W with
  | nil => rw [aPut_nil] at h; left; simpa using h
  | cons y t ih =>
    rw [aPut_cons] at h
    split at h
    · rcases List.mem_cons.1 h with h | h
      · exact .inl h
      · exact .inr (List.mem_cons_of_mem _ h)
    · rcases List.mem_cons.1 h with h | h
      · exact .inr (by rw [h]; simp)
      · rcases ih h with h | h
        · exact .inl h
        · exact .inr (List.mem_cons_of_mem _ h)
theorem aPut_spots {W : List Action} (h : Spots W) (a : Action) : Spots (aPut W a) := by
  induction W with
  | nil => rw [aPut_nil]; exact List.pairwise_singleton _ _
  | cons y t ih =>
    unfold Spots at h ih ⊢
    rw [List.pairwise_cons] at h
    rw [aPut_cons]
    split
    · rename_i hk
      rw [List.pairwise_cons]
      refine ⟨fun b hb => ?_, h.2⟩
      have := h.1 b hb
      rw [aLike_iff] at hk
      cases hl : aLike a b
      · rfl
      · rw [aLike_iff] at hl
        have : aLike y b = true := by rw [aLike_iff, ← hk, hl]
        rw [h.1 b hb] at this; cases this
    · rename_i hk
      rw [List.pairwise_cons]
      refine ⟨fun b hb => ?_, ih h.2⟩
      rcases mem_aPut hb with e | hb
      · rw [e, aLike_comm]; simpa using hk
      · exact h.1 b hb
theorem aWrite_spots {set : List Action} (h : Spots set) (l : List Action) : Spots (aWrite set l) := by
  unfold aWrite
  induction l generalizing set with
  | nil => exact h
  | cons a l ih => exact ih (aPut_spots h a)
theorem like28_c (a b : Action) : FnP Try.prog 19 [.agg a.enc, .agg b.enc] (.bool (aLike a b)) := by
  have e : aLike a b = (a.kind == b.kind && (!(a.kind == 25) || a.oxm.field == b.oxm.field)) := by
    rw [Bool.eq_iff_iff, aLike_iff]
    unfold aSpot
    by_cases h1 : a.kind = b.kind
    · by_cases h2 : a.kind = 25
      · have h3 : b.kind = 25 := by omega
        simp [h2, h3]
      · have h3 : ¬ b.kind = 25 := by omega
        simp [h1, h3]
    · simp [h1]
  rw [e]
  cases h1 : a.kind == b.kind
  · refine FnP.intro Try.func19 rfl rfl fun G w => ?_
    repeat' (first
     | refine WK.seq ?_
     | refine WK.block ?_
     | refine WK.inBlock ?_
     | refine WK.skip ?_
     | refine WK.label ?_
     | refine WK.scope ?_
     | refine WK.inScope ?_
     | refine WK.exit rfl ?_
     | refine WK.condT rfl ?_
     | refine WK.condF rfl ?_
     | (refine Hid.h hQ _ _ ?_; clear hQ hA)
     | refine WK.condAny rfl ?_ ?_
     | ((first | refine WK.cond2 rfl (fun h => ?_) (fun h => ?_) | refine Fork.mk (fun h => ?_) (fun h => ?_)) <;> (first | (simp [*] at h; done) | (have h2 := h; simp at h2; exfalso; omega) | (have h2 := h; simp at h2; try simp only [Bool.not_eq_true', Bool.not_eq_false'] at h) | skip))
     | (refine WK.regH Try.ntmps19 (by kernel_rfl) ?_; intro A hA Q hQ; simp [Action.enc, Oxm.enc, *])
     | (refine RunQ.gd rfl (by rw [hA.h]; rfl) ?_; simp [Action.enc, Oxm.enc, *])
     | (refine WK.ret Try.func19 ?_ ?_ <;> simp (maxDischargeDepth := 120) [Try.results19, Action.enc, Oxm.enc, *])
     | fail)
  · cases h2 : a.kind == 25
    · have h3 : bne a.kind 25 = true := by unfold bne; rw [h2]; rfl
      refine FnP.intro Try.func19 rfl rfl fun G w => ?_
      repeat' (first
       | refine WK.seq ?_
       | refine WK.block ?_
       | refine WK.inBlock ?_
       | refine WK.skip ?_
       | refine WK.label ?_
       | refine WK.scope ?_
       | refine WK.inScope ?_
       | refine WK.exit rfl ?_
       | refine WK.condT rfl ?_
       | refine WK.condF rfl ?_
       | (refine Hid.h hQ _ _ ?_; clear hQ hA)
       | refine WK.condAny rfl ?_ ?_
       | ((first | refine WK.cond2 rfl (fun h => ?_) (fun h => ?_) | refine Fork.mk (fun h => ?_) (fun h => ?_)) <;> (first | (simp [*] at h; done) | (have h2 := h; simp at h2; exfalso; omega) | (have h2 := h; simp at h2; try simp only [Bool.not_eq_true', Bool.not_eq_false'] at h) | skip))
       | (refine WK.regH Try.ntmps19 (by kernel_rfl) ?_; intro A hA Q hQ; simp [Action.enc, Oxm.enc, *])
       | (refine RunQ.gd rfl (by rw [hA.h]; rfl) ?_; simp [Action.enc, Oxm.enc, *])
       | (refine WK.ret Try.func19 ?_ ?_ <;> simp (maxDischargeDepth := 120) [Try.results19, Action.enc, Oxm.enc, *])
       | fail)
    · have h3 : bne a.kind 25 = false := by unfold bne; rw [h2]; rfl
      refine FnP.intro Try.func19 rfl rfl fun G w => ?_
      repeat' (first
       | refine WK.seq ?_
       | refine WK.block ?_
       | refine WK.inBlock ?_
       | refine WK.skip ?_
       | refine WK.label ?_
       | refine WK.scope ?_
       | refine WK.inScope ?_
       | refine WK.exit rfl ?_
       | refine WK.condT rfl ?_
       | refine WK.condF rfl ?_
       | (refine Hid.h hQ _ _ ?_; clear hQ hA)
       | refine WK.condAny rfl ?_ ?_
       | ((first | refine WK.cond2 rfl (fun h => ?_) (fun h => ?_) | refine Fork.mk (fun h => ?_) (fun h => ?_)) <;> (first | (simp [*] at h; done) | (have h2 := h; simp at h2; exfalso; omega) | (have h2 := h; simp at h2; try simp only [Bool.not_eq_true', Bool.not_eq_false'] at h) | skip))
       | (refine WK.regH Try.ntmps19 (by kernel_rfl) ?_; intro A hA Q hQ; simp [Action.enc, Oxm.enc, *])
       | (refine RunQ.gd rfl (by rw [hA.h]; rfl) ?_; simp [Action.enc, Oxm.enc, *])
       | (refine WK.ret Try.func19 ?_ ?_ <;> simp (maxDischargeDepth := 120) [Try.results19, Action.enc, Oxm.enc, *])
       | fail)
theorem awriteP_c (set l : List Action) (hs : set.length ≤ 500000) (hl : l.length ≤ 500000) : FnP Try.prog 16 [actS set, actS l] (actS (aWrite set l)) := by
  have h := (awriteO_c set l hs hl).toP (by simp)
  rw [act_full _ _ rfl] at h
  exact h
theorem alistP_c (set : List Action) (hs : set.length ≤ 500000) : FnP Try.prog 37 [actS set] (actS (aList set)) := by
  have h := (alist_c set hs).toP (by simp)
  rw [act_full _ _ rfl] at h
  exact h
def K28 (k p : Int) : Action := ⟨k, p, 0, 0, 0, oxm0⟩
theorem f28a : aWrite [] [K28 0 1, K28 0 2, K28 18 0] = [K28 0 2, K28 18 0] := by kernel_rfl
theorem f28b : aList [K28 0 2, K28 18 0] = [K28 18 0, K28 0 2] := by kernel_rfl
theorem f28c : aList [K28 22 0, K28 0 0] = [K28 22 0] := by kernel_rfl
end Go.Proofs.Ytbncoeoamjcjjaa
end

section
set_option linter.unusedVariables false
set_option linter.unusedSimpArgs false
namespace Go.Proofs.Ytbncoeoamjcjjaa
open Go Go.AI Go.Proofs
attribute [local irreducible] FnP FnO FnB FnT FnSeq WK RunQ RunQW RunX RunXW

theorem awake28_c : FnP Try.prog 15 [] (.bool true) := by
  have p := awriteP_c [] [K28 0 1, K28 0 2, K28 18 0] (by simp) (by simp)
  have q := alistP_c [K28 0 2, K28 18 0] (by simp)
  have q2 := alistP_c [K28 22 0, K28 0 0] (by simp)
  have r := arw_c (K28 17 0)
  rw [f28a] at p
  rw [f28b] at q
  rw [f28c] at q2
  rw [show aRw (K28 17 0) = rSet cubeZ 5 (bitW 12) (bitW 12) from rfl] at r
  have hg : (encC (rSet cubeZ 5 (bitW 12) (bitW 12)))[21]'(by simp) = .int .u64 4096 := by kernel_rfl
  obtain ⟨C, hC⟩ : ∃ C, rSet cubeZ 5 (bitW 12) (bitW 12) = C := ⟨_, rfl⟩
  rw [hC] at r hg
  clear hC
  simp only [actS, actL, K28, List.flatMap_cons, List.flatMap_nil, List.append_nil, List.cons_append, List.nil_append, List.length_cons, List.length_nil, Action.enc, oxm0, wideZ, uI_zero] at p q q2 r
  refine FnP.intro Try.func15 rfl rfl fun G w => ?_
  repeat' (first
   | refine WK.seq ?_
   | refine WK.block ?_
   | refine WK.inBlock ?_
   | refine WK.skip ?_
   | refine WK.label ?_
   | refine WK.scope ?_
   | refine WK.inScope ?_
   | refine WK.exit rfl ?_
   | refine WK.condT rfl ?_
   | refine WK.condF rfl ?_
   | (refine Hid.h hQ _ _ ?_; clear hQ hA)
   | refine WK.condAny rfl ?_ ?_
   | ((first | refine WK.cond2 rfl (fun h => ?_) (fun h => ?_) | refine Fork.mk (fun h => ?_) (fun h => ?_)) <;> (first | (simp [*] at h; done) | (have h2 := h; simp at h2; exfalso; omega) | (have h2 := h; simp at h2; try simp only [Bool.not_eq_true', Bool.not_eq_false'] at h) | skip))
   | (refine WK.regH Try.ntmps15 (by kernel_rfl) ?_; intro A hA Q hQ; simp [*])
   | (refine RunQ.gd rfl (by rw [hA.h]; rfl) ?_; simp [*])
   | ((first | ((first | refine RunQ.call rfl rfl rfl rfl rfl ?_ (p) ?_ ?_ | refine RunQW.call rfl rfl rfl rfl ?_ (p) ?_ ?_); (focus (simp (maxDischargeDepth := 120) [*]; done))) | ((first | refine RunQ.call rfl rfl rfl rfl rfl ?_ (q) ?_ ?_ | refine RunQW.call rfl rfl rfl rfl ?_ (q) ?_ ?_); (focus (simp (maxDischargeDepth := 120) [*]; done))) | ((first | refine RunQ.call rfl rfl rfl rfl rfl ?_ (q2) ?_ ?_ | refine RunQW.call rfl rfl rfl rfl ?_ (q2) ?_ ?_); (focus (simp (maxDischargeDepth := 120) [*]; done))) | ((first | refine RunQ.call rfl rfl rfl rfl rfl ?_ (r) ?_ ?_ | refine RunQW.call rfl rfl rfl rfl ?_ (r) ?_ ?_); (focus (simp (maxDischargeDepth := 120) [*]; done)))); (focus (simp [*]; done)); refine RunQ.evalH ?_; simp [*])
   | (refine WK.ret Try.func15 ?_ ?_ <;> simp (maxDischargeDepth := 120) [Try.results15, *])
   | fail)
end Go.Proofs.Ytbncoeoamjcjjaa
end

section
set_option linter.unusedVariables false
set_option linter.unusedSimpArgs false
namespace Go.Proofs.Ytbncoeoamjcjjaa
open Go Go.AI Go.Proofs
attribute [local irreducible] FnP FnO FnB FnT FnSeq WK RunQ RunQW RunX RunXW

theorem spots_perm {W W' : List Action} (h : W.Perm W') (hs : Spots W) : Spots W' := by
  unfold Spots at *
  exact (h.pairwise_iff (R := fun a b => aLike a b = false) (fun {x y} h => by rw [aLike_comm]; exact h)).1 hs
theorem aPut_perm {W : List Action} (hs : Spots W) (a : Action) : (aPut W a).Perm (a :: W.filter fun x => !aLike a x) := by
  induction W with
  | nil => rw [aPut_nil]; exact List.Perm.refl _
  | cons y t ih =>
    unfold Spots at hs ih
    rw [List.pairwise_cons] at hs
    rw [aPut_cons]
    split
    · rename_i hk
      rw [List.filter_cons_of_neg (by simp [hk])]
      have : t.filter (fun x => !aLike a x) = t := by
        rw [List.filter_eq_self]; intro x hx
        have h1 := hs.1 x hx
        rw [aLike_iff] at hk
        cases hl : aLike a x
        · rfl
        · rw [aLike_iff] at hl
          have : aLike y x = true := by rw [aLike_iff, ← hk, hl]
          rw [h1] at this; cases this
      rw [this]
    · rename_i hk
      rw [List.filter_cons_of_pos (by simpa using hk)]
      exact ((ih hs.2).cons y).trans (List.Perm.swap a y _)
theorem aPut_comm {W : List Action} (hs : Spots W) {a b : Action} (h : aLike a b = false) : (aPut (aPut W a) b).Perm (aPut (aPut W b) a) := by
  have key : ∀ {a b : Action}, aLike a b = false → (aPut (aPut W a) b).Perm (b :: a :: (W.filter fun x => !aLike a x).filter fun x => !aLike b x) := fun {a b} h => by
    refine (aPut_perm (aPut_spots hs a) b).trans (List.Perm.cons b ?_)
    refine ((aPut_perm hs a).filter _).trans ?_
    rw [List.filter_cons_of_pos (by rw [aLike_comm, h]; rfl)]
  refine (key h).trans ((List.Perm.swap a b _).trans ?_)
  rw [List.filter_filter, show (fun x => !aLike b x && !aLike a x) = fun x => !aLike a x && !aLike b x from by funext x; exact Bool.and_comm _ _, ← List.filter_filter]
  exact (key (a := b) (b := a) (by rw [aLike_comm]; exact h)).symm
theorem aPut_congr {W W' : List Action} (hs : Spots W) (h : W.Perm W') (a : Action) : (aPut W a).Perm (aPut W' a) :=
  (aPut_perm hs a).trans (((h.filter _).cons a).trans (aPut_perm (spots_perm h hs) a).symm)
theorem aWrite_perm : ∀ (l : List Action) {W W' : List Action}, Spots W → W.Perm W' → (aWrite W l).Perm (aWrite W' l)
  | [], W, W', _, h => h
  | a :: l, W, W', hs, h => aWrite_perm l (aPut_spots hs a) (aPut_congr hs h a)
theorem aWrite_swap (p q : List Action) {a b : Action} (h : aLike a b = false) : (aWrite [] (p ++ a :: b :: q)).Perm (aWrite [] (p ++ b :: a :: q)) := by
  have e : ∀ a b : Action, aWrite [] (p ++ a :: b :: q) = aWrite (aPut (aPut (aWrite [] p) a) b) q := fun a b => by unfold aWrite; rw [List.foldl_append]; rfl
  rw [e, e]
  exact aWrite_perm q (aPut_spots (aPut_spots (aWrite_spots spots_nil p) a) b) (aPut_comm (aWrite_spots spots_nil p) h)
theorem aList_perm {s s' : List Action} (hs : Spots s) (h : s.Perm s') : aList s = aList s' := by
  refine sort_unique (aList_srt s) (aList_srt s') fun c => ?_
  rw [aList_filter, aList_filter]
  have hg : s.any aGoesG = s'.any aGoesG := by
    rw [Bool.eq_iff_iff, List.any_eq_true, List.any_eq_true]
    exact ⟨fun ⟨x, hx, hp⟩ => ⟨x, h.mem_iff.1 hx, hp⟩, fun ⟨x, hx, hp⟩ => ⟨x, h.mem_iff.2 hx, hp⟩⟩
  have hp : ((aKept s).filter (aEqv c)).Perm ((aKept s').filter (aEqv c)) := by
    unfold aKept; rw [hg]; exact (h.filter _).filter _
  have hu : Spots ((aKept s).filter (aEqv c)) := by
    unfold Spots aKept at *
    exact (hs.filter _).filter _
  have hk : ∀ x, x ∈ (aKept s).filter (aEqv c) → aEqv c x = true ∧ 0 ≤ aTurn x.kind := fun x hx => by
    obtain ⟨h1, h2⟩ := List.mem_filter.1 hx
    unfold aKept at h1
    have h3 := (List.mem_filter.1 h1).2
    unfold aOut at h3
    refine ⟨h2, ?_⟩
    simp at h3
    omega
  obtain ⟨u, hu'⟩ : ∃ u, (aKept s).filter (aEqv c) = u := ⟨_, rfl⟩
  rw [hu'] at hp hu hk ⊢
  match u, hp, hu, hk with
  | [], hp, _, _ => exact hp.nil_eq
  | [z], hp, _, _ => exact (List.singleton_perm.1 hp)
  | z :: y :: t, _, hu, hk =>
    exfalso
    unfold Spots at hu
    rw [List.pairwise_cons] at hu
    have h0 := hu.1 y (by simp)
    obtain ⟨h1, h1'⟩ := hk z (by simp)
    obtain ⟨h2, h2'⟩ := hk y (by simp)
    rw [aEqv_iff] at h1 h2
    have hkk : z.kind = y.kind := aTurn_inj (by omega) (by omega)
    have : aLike z y = true := by
      rw [aLike_iff]
      have : (aSpot z).2 = (aSpot y).2 := by rw [← h1.2, ← h2.2]
      exact Prod.ext hkk this
    rw [this] at h0; cases h0
theorem aList_len (set : List Action) (hs : set.length ≤ 500000) : (aList set).length = (aKept set).length := by
  obtain ⟨g, h1, h2, h3⟩ := alistO_c set hs
  have e : roB (aKept set) g (aKept set).length = aList set := sort_unique (roB_sorted h1) (aList_srt set) fun c => by
    rw [roB_stable h1 h2 c, aList_filter]
  have hl := roB_len (aKept set) g (aKept set).length
  rw [e] at hl
  exact hl
theorem swap_split {l : List Action} {i : Nat} (h : i + 1 < l.length) : l = l.take i ++ nth l i :: nth l (i + 1) :: l.drop (i + 2) ∧
    (l.set i (nth l (i + 1))).set (i + 1) (nth l i) = l.take i ++ nth l (i + 1) :: nth l i :: l.drop (i + 2) := by
  have h1 : l = l.take i ++ nth l i :: nth l (i + 1) :: l.drop (i + 2) := by
    conv => lhs; rw [← List.take_append_drop i l, List.drop_eq_getElem_cons (by omega), List.drop_eq_getElem_cons h]
    rw [nth_eq (by omega), nth_eq h]
  refine ⟨h1, ?_⟩
  obtain ⟨a, ha⟩ : ∃ a, nth l i = a := ⟨_, rfl⟩
  obtain ⟨b, hb⟩ : ∃ b, nth l (i + 1) = b := ⟨_, rfl⟩
  obtain ⟨p, hp⟩ : ∃ p, l.take i = p := ⟨_, rfl⟩
  obtain ⟨q, hq⟩ : ∃ q, l.drop (i + 2) = q := ⟨_, rfl⟩
  have hpl : p.length = i := by rw [← hp, List.length_take]; omega
  rw [ha, hb, hp, hq] at h1 ⊢
  clear ha hb hp hq h
  subst h1
  rw [List.set_append_right _ _ (by omega), hpl, Nat.sub_self, List.set_cons_zero, List.set_append_right _ _ (by omega), hpl, show i + 1 - i = 1 by omega]
  rfl
theorem asetOrder_c (l : List Action) (k : BitVec 8) : FnP Try.prog 8 [actS l, .int .u8 (bI k)] (.bool true) := by
  by_cases h1 : 60 < l.length
  · have h1' : (60 : Int) < l.length := by omega
    unfold actS
    refine FnP.intro Try.func8 rfl rfl fun G w => ?_
    repeat' (first
     | refine WK.seq ?_
     | refine WK.block ?_
     | refine WK.inBlock ?_
     | refine WK.skip ?_
     | refine WK.label ?_
     | refine WK.scope ?_
     | refine WK.inScope ?_
     | refine WK.exit rfl ?_
     | refine WK.condT rfl ?_
     | refine WK.condF rfl ?_
     | (refine Hid.h hQ _ _ ?_; clear hQ hA)
     | refine WK.condAny rfl ?_ ?_
     | ((first | refine WK.cond2 rfl (fun h => ?_) (fun h => ?_) | refine Fork.mk (fun h => ?_) (fun h => ?_)) <;> (first | (simp [*] at h; done) | (have h2 := h; simp at h2; exfalso; omega) | (have h2 := h; simp at h2; try simp only [Bool.not_eq_true', Bool.not_eq_false'] at h) | skip))
     | ((first | refine WK.regH Try.ntmps8 (by kernel_rfl) ?_ | refine WK.regX (by kernel_rfl) Try.ntmps8 (by kernel_rfl) ?_); intro A hA Q hQ; simp [*])
     | (refine Hid.h hQ _ _ _ (by decide +kernel) ?_; clear hQ hA)
     | ((first | refine RunQ.gd rfl (by rw [hA.h]; rfl) ?_ | refine RunX.gd rfl (by rw [hA.h]; rfl) ?_); simp [*])
     | (((first | refine RunQ.call rfl rfl rfl rfl rfl ?_ (awake28_c) ?_ ?_ | refine RunQW.call rfl rfl rfl rfl ?_ (awake28_c) ?_ ?_ | refine RunX.call rfl rfl rfl rfl ?_ (awake28_c) ?_ ?_ | refine RunXW.call rfl rfl rfl ?_ (awake28_c) ?_ ?_); (focus (simp (maxDischargeDepth := 120) [*]; done))); (focus (simp [*]; done)); (first | refine RunQ.evalH ?_ | refine RunX.evalY ?_); simp [*])
     | (refine WK.ret Try.func8 ?_ ?_ <;> simp (maxDischargeDepth := 120) [Try.results8, *])
     | fail)
  have h1' : ¬ (60 : Int) < l.length := by omega
  by_cases h2 : l.length < 2
  · have h2' : (l.length : Int) < 2 := by omega
    unfold actS
    refine FnP.intro Try.func8 rfl rfl fun G w => ?_
    repeat' (first
     | refine WK.seq ?_
     | refine WK.block ?_
     | refine WK.inBlock ?_
     | refine WK.skip ?_
     | refine WK.label ?_
     | refine WK.scope ?_
     | refine WK.inScope ?_
     | refine WK.exit rfl ?_
     | refine WK.condT rfl ?_
     | refine WK.condF rfl ?_
     | (refine Hid.h hQ _ _ ?_; clear hQ hA)
     | refine WK.condAny rfl ?_ ?_
     | ((first | refine WK.cond2 rfl (fun h => ?_) (fun h => ?_) | refine Fork.mk (fun h => ?_) (fun h => ?_)) <;> (first | (simp [*] at h; done) | (have h2 := h; simp at h2; exfalso; omega) | (have h2 := h; simp at h2; try simp only [Bool.not_eq_true', Bool.not_eq_false'] at h) | skip))
     | ((first | refine WK.regH Try.ntmps8 (by kernel_rfl) ?_ | refine WK.regX (by kernel_rfl) Try.ntmps8 (by kernel_rfl) ?_); intro A hA Q hQ; simp [*])
     | (refine Hid.h hQ _ _ _ (by decide +kernel) ?_; clear hQ hA)
     | ((first | refine RunQ.gd rfl (by rw [hA.h]; rfl) ?_ | refine RunX.gd rfl (by rw [hA.h]; rfl) ?_); simp [*])
     | (((first | refine RunQ.call rfl rfl rfl rfl rfl ?_ (awake28_c) ?_ ?_ | refine RunQW.call rfl rfl rfl rfl ?_ (awake28_c) ?_ ?_ | refine RunX.call rfl rfl rfl rfl ?_ (awake28_c) ?_ ?_ | refine RunXW.call rfl rfl rfl ?_ (awake28_c) ?_ ?_); (focus (simp (maxDischargeDepth := 120) [*]; done))); (focus (simp [*]; done)); (first | refine RunQ.evalH ?_ | refine RunX.evalY ?_); simp [*])
     | (refine WK.ret Try.func8 ?_ ?_ <;> simp (maxDischargeDepth := 120) [Try.results8, *])
     | fail)
  have h2' : ¬ (l.length : Int) < 2 := by omega
  have w1 : IntKind.i64.wrap ((l.length : Int) - 1) = (l.length : Int) - 1 := wrap_i64 (by omega) (by omega)
  have w0 : ¬ (l.length : Int) - 1 = 0 := by omega
  have hk := bI_lt k
  have w2 : IntKind.i64.wrap (bI k) = bI k := wrap_i64 (by omega) (by omega)
  obtain ⟨i, hi, hi1⟩ : ∃ i : Nat, (bI k).tmod ((l.length : Int) - 1) = i ∧ i + 1 < l.length := by
    have h3 := Int.tmod_nonneg (b := (l.length : Int) - 1) hk.1
    have h4 := Int.tmod_lt_of_pos (bI k) (show (0 : Int) < (l.length : Int) - 1 by omega)
    exact ⟨((bI k).tmod ((l.length : Int) - 1)).toNat, by omega, by omega⟩
  have w3 : IntKind.i64.wrap ((i : Int) + 1) = ((i + 1 : Nat) : Int) := wrap_i64 (by omega) (by omega)
  obtain ⟨g1, g2⟩ := act_load l i (by omega)
  obtain ⟨g3, g4⟩ := act_load l (i + 1) hi1
  have hsp := swap_split hi1
  have sw := aWrite_swap (l.take i) (l.drop (i + 2)) (a := nth l i) (b := nth l (i + 1))
  rw [← hsp.1, ← hsp.2] at sw
  have b1 : i * 11 + 11 ≤ l.length * 11 := by omega
  have b2 : (i + 1) * 11 + 11 ≤ l.length * 11 := by omega
  have hil : (i : Int) < l.length := by omega
  have s1 := actL_set l i (nth l (i + 1)) (by omega)
  have s2 := actL_set (l.set i (nth l (i + 1))) (i + 1) (nth l i) (by rw [List.length_set]; exact hi1)
  have hxl : ((l.set i (nth l (i + 1))).set (i + 1) (nth l i)).length = l.length := by rw [List.length_set, List.length_set]
  obtain ⟨a, ha⟩ : ∃ a, nth l i = a := ⟨_, rfl⟩
  obtain ⟨b, hb⟩ : ∃ b, nth l (i + 1) = b := ⟨_, rfl⟩
  obtain ⟨j, hj⟩ : ∃ j, i + 1 = j := ⟨_, rfl⟩
  rw [ha] at g1 s2 sw hxl
  rw [hb] at s1 s2 g3 sw hxl
  rw [hj] at w3 g3 g4 hi1 s2 b2 sw hxl
  obtain ⟨M, hM⟩ : ∃ M, l.set i b = M := ⟨_, rfl⟩
  rw [hM] at s1 s2 sw hxl
  have hMl : M.length = l.length := by rw [← hM, List.length_set]
  obtain ⟨x, hx⟩ : ∃ x, M.set j a = x := ⟨_, rfl⟩
  rw [hx] at s2 sw hxl
  have hjl : (j : Int) < l.length := by omega
  have hj0 : ¬ (j : Int) < 0 := by omega
  have p1 := awriteP_c [] l (by simp) (by omega)
  have p2 := awriteP_c [] x (by simp) (by omega)
  have l1 := (aWrite_len [] l).2
  have l2 := (aWrite_len [] x).2
  have sp := aWrite_spots spots_nil l
  simp only [List.length_nil, Nat.zero_add] at l1 l2
  obtain ⟨S, hS⟩ : ∃ S, aWrite [] l = S := ⟨_, rfl⟩
  obtain ⟨T, hT⟩ : ∃ T, aWrite [] x = T := ⟨_, rfl⟩
  rw [hS] at p1 l1 sp sw
  rw [hT] at p2 l2 sw
  have q1 := alistP_c S (by omega)
  have q2 := alistP_c T (by omega)
  have al := (aList_len S (by omega))
  have al2 : (aKept S).length ≤ S.length := List.length_filter_le _ _
  have sm := acsame_c (aList S) (aList S) (by omega)
  have e0 : eqBy (· == ·) (aList S) (aList S) = true := by unfold eqBy; simp
  rw [e0] at sm
  clear hS hT hsp ha hb hj hM hx e0 al al2 l1 l2 hi1
  unfold actS at *
  rw [hxl] at p2
  simp only [actL_nil, List.length_nil] at p1 p2
  cases hl : aLike a b
  · rw [← aList_perm sp (sw hl)] at q2
    obtain ⟨R, hR⟩ : ∃ R, aList S = R := ⟨_, rfl⟩
    rw [hR] at q1 q2 sm
    have ht : (actL x).take (l.length * 11) = actL x := List.take_of_length_le (by rw [actL_len, hxl]; omega)
    clear sw sp hR hxl
    have lk := like28_c a b
    rw [hl] at lk
    have hc := clone_actO l (by omega)
    unfold actS at hc
    clear hl
    refine FnP.intro Try.func8 rfl rfl fun G w => ?_
    repeat' (first
     | refine WK.seq ?_
     | refine WK.block ?_
     | refine WK.inBlock ?_
     | refine WK.skip ?_
     | refine WK.label ?_
     | refine WK.scope ?_
     | refine WK.inScope ?_
     | refine WK.exit rfl ?_
     | refine WK.condT rfl ?_
     | refine WK.condF rfl ?_
     | (refine Hid.h hQ _ _ ?_; clear hQ hA)
     | refine WK.condAny rfl ?_ ?_
     | ((first | refine WK.cond2 rfl (fun h => ?_) (fun h => ?_) | refine Fork.mk (fun h => ?_) (fun h => ?_)) <;> (first | (simp [*] at h; done) | (have h2 := h; simp at h2; exfalso; omega) | (have h2 := h; simp at h2; try simp only [Bool.not_eq_true', Bool.not_eq_false'] at h) | skip))
     | ((first | refine WK.regH (id := 0) Try.ntmps8 (by kernel_rfl) ?_ | refine WK.regH (id := 1) Try.ntmps8 (by kernel_rfl) ?_ | refine WK.regH (id := 2) Try.ntmps8 (by kernel_rfl) ?_ | refine WK.regH (id := 3) Try.ntmps8 (by kernel_rfl) ?_ | refine WK.regH (id := 4) Try.ntmps8 (by kernel_rfl) ?_ | refine WK.regH (id := 5) Try.ntmps8 (by kernel_rfl) ?_ | refine WK.regH (id := 6) Try.ntmps8 (by kernel_rfl) ?_ | refine WK.regH (id := 7) Try.ntmps8 (by kernel_rfl) ?_ | refine WK.regX (id := 0) (by kernel_rfl) Try.ntmps8 (by kernel_rfl) ?_ | refine WK.regX (id := 1) (by kernel_rfl) Try.ntmps8 (by kernel_rfl) ?_ | refine WK.regX (id := 2) (by kernel_rfl) Try.ntmps8 (by kernel_rfl) ?_ | refine WK.regX (id := 3) (by kernel_rfl) Try.ntmps8 (by kernel_rfl) ?_ | refine WK.regX (id := 4) (by kernel_rfl) Try.ntmps8 (by kernel_rfl) ?_ | refine WK.regX (id := 5) (by kernel_rfl) Try.ntmps8 (by kernel_rfl) ?_ | refine WK.regX (id := 6) (by kernel_rfl) Try.ntmps8 (by kernel_rfl) ?_ | refine WK.regX (id := 7) (by kernel_rfl) Try.ntmps8 (by kernel_rfl) ?_); intro A hA Q hQ; simp [*])
     | (refine Hid.h hQ _ _ _ (by decide +kernel) ?_; clear hQ hA)
     | ((first | refine RunQ.gd rfl (by rw [hA.h]; rfl) ?_ | refine RunX.gd rfl (by rw [hA.h]; rfl) ?_); simp [*])
     | (refine RunQ.callO 900 rfl rfl rfl rfl rfl ?_ (hc) ?_ ?_ ?_ ?_; (focus (simp (maxDischargeDepth := 120) [*]; done)); (focus (simp [*]; done)); (focus (simp [*]; done)); (focus (simp [*]; done)); refine RunQ.evalH ?_; simp [*])
     | (refine RunQW.by (fun hw => ?_); refine RunQ.callO 900 rfl rfl rfl hw rfl ?_ (hc) ?_ ?_ ?_ ?_; (focus (simp (maxDischargeDepth := 120) [*]; done)); (focus (simp [*]; done)); (focus (simp [*]; done)); (focus (simp [*]; done)); clear hw; refine RunQ.evalH ?_; simp [*])
     | (refine RunX.callO 900 rfl rfl rfl rfl ?_ (hc) ?_ ?_ ?_ ?_; (focus (simp (maxDischargeDepth := 120) [*]; done)); (focus (simp [*]; done)); (focus (simp [*]; done)); (focus (simp [*]; done)); refine RunX.evalY ?_; simp [*])
     | (refine RunX.by (fun hw => ?_); refine RunX.callO 900 rfl rfl hw rfl ?_ (hc) ?_ ?_ ?_ ?_; (focus (simp (maxDischargeDepth := 120) [*]; done)); (focus (simp [*]; done)); (focus (simp [*]; done)); (focus (simp [*]; done)); clear hw; refine RunX.evalY ?_; simp [*])
     | (((first | refine RunQ.call rfl rfl rfl rfl rfl ?_ (lk) ?_ ?_ | refine RunQW.call rfl rfl rfl rfl ?_ (lk) ?_ ?_ | refine RunX.call rfl rfl rfl rfl ?_ (lk) ?_ ?_ | refine RunXW.call rfl rfl rfl ?_ (lk) ?_ ?_); (focus (simp (maxDischargeDepth := 120) [*]; done))); (focus (simp [*]; done)); (first | refine RunQ.evalH ?_ | refine RunX.evalY ?_); simp [*])
     | fail)
    repeat (first | refine WK.seq ?_ | refine WK.block ?_ | refine WK.inBlock ?_ | refine WK.skip ?_ | refine WK.label ?_ | refine WK.scope ?_ | refine WK.inScope ?_ | refine WK.exit rfl ?_)
    refine WK.ghost (Ghost.frzSl 6 11 rfl rfl) ?_
    repeat' (first
     | refine WK.seq ?_
     | refine WK.block ?_
     | refine WK.inBlock ?_
     | refine WK.skip ?_
     | refine WK.label ?_
     | refine WK.scope ?_
     | refine WK.inScope ?_
     | refine WK.exit rfl ?_
     | refine WK.condT rfl ?_
     | refine WK.condF rfl ?_
     | (refine Hid.h hQ _ _ ?_; clear hQ hA)
     | refine WK.condAny rfl ?_ ?_
     | ((first | refine WK.cond2 rfl (fun h => ?_) (fun h => ?_) | refine Fork.mk (fun h => ?_) (fun h => ?_)) <;> (first | (simp [*] at h; done) | (have h2 := h; simp at h2; exfalso; omega) | (have h2 := h; simp at h2; try simp only [Bool.not_eq_true', Bool.not_eq_false'] at h) | skip))
     | ((first | refine WK.regH Try.ntmps8 (by kernel_rfl) ?_ | refine WK.regX (by kernel_rfl) Try.ntmps8 (by kernel_rfl) ?_); intro A hA Q hQ; simp [*])
     | (refine Hid.h hQ _ _ _ (by decide +kernel) ?_; clear hQ hA)
     | ((first | refine RunQ.gd rfl (by rw [hA.h]; rfl) ?_ | refine RunX.gd rfl (by rw [hA.h]; rfl) ?_); simp [*])
     | ((first | ((first | refine RunQ.call rfl rfl rfl rfl rfl ?_ (p1) ?_ ?_ | refine RunQW.call rfl rfl rfl rfl ?_ (p1) ?_ ?_ | refine RunX.call rfl rfl rfl rfl ?_ (p1) ?_ ?_ | refine RunXW.call rfl rfl rfl ?_ (p1) ?_ ?_); (focus (simp (maxDischargeDepth := 120) [*]; done))) | ((first | refine RunQ.call rfl rfl rfl rfl rfl ?_ (p2) ?_ ?_ | refine RunQW.call rfl rfl rfl rfl ?_ (p2) ?_ ?_ | refine RunX.call rfl rfl rfl rfl ?_ (p2) ?_ ?_ | refine RunXW.call rfl rfl rfl ?_ (p2) ?_ ?_); (focus (simp (maxDischargeDepth := 120) [*]; done))) | ((first | refine RunQ.call rfl rfl rfl rfl rfl ?_ (q1) ?_ ?_ | refine RunQW.call rfl rfl rfl rfl ?_ (q1) ?_ ?_ | refine RunX.call rfl rfl rfl rfl ?_ (q1) ?_ ?_ | refine RunXW.call rfl rfl rfl ?_ (q1) ?_ ?_); (focus (simp (maxDischargeDepth := 120) [*]; done))) | ((first | refine RunQ.call rfl rfl rfl rfl rfl ?_ (q2) ?_ ?_ | refine RunQW.call rfl rfl rfl rfl ?_ (q2) ?_ ?_ | refine RunX.call rfl rfl rfl rfl ?_ (q2) ?_ ?_ | refine RunXW.call rfl rfl rfl ?_ (q2) ?_ ?_); (focus (simp (maxDischargeDepth := 120) [*]; done))) | ((first | refine RunQ.call rfl rfl rfl rfl rfl ?_ (sm) ?_ ?_ | refine RunQW.call rfl rfl rfl rfl ?_ (sm) ?_ ?_ | refine RunX.call rfl rfl rfl rfl ?_ (sm) ?_ ?_ | refine RunXW.call rfl rfl rfl ?_ (sm) ?_ ?_); (focus (simp (maxDischargeDepth := 120) [*]; done))) | ((first | refine RunQ.call rfl rfl rfl rfl rfl ?_ (awake28_c) ?_ ?_ | refine RunQW.call rfl rfl rfl rfl ?_ (awake28_c) ?_ ?_ | refine RunX.call rfl rfl rfl rfl ?_ (awake28_c) ?_ ?_ | refine RunXW.call rfl rfl rfl ?_ (awake28_c) ?_ ?_); (focus (simp (maxDischargeDepth := 120) [*]; done)))); (focus (simp [*]; done)); (first | refine RunQ.evalH ?_ | refine RunX.evalY ?_); simp [*])
     | (refine WK.ret Try.func8 ?_ ?_ <;> simp (maxDischargeDepth := 120) [Try.results8, *])
     | fail)
  · clear sw sp q1 q2 sm p1 p2 s1 s2
    have lk := like28_c a b
    rw [hl] at lk
    refine FnP.intro Try.func8 rfl rfl fun G w => ?_
    repeat' (first
     | refine WK.seq ?_
     | refine WK.block ?_
     | refine WK.inBlock ?_
     | refine WK.skip ?_
     | refine WK.label ?_
     | refine WK.scope ?_
     | refine WK.inScope ?_
     | refine WK.exit rfl ?_
     | refine WK.condT rfl ?_
     | refine WK.condF rfl ?_
     | (refine Hid.h hQ _ _ ?_; clear hQ hA)
     | refine WK.condAny rfl ?_ ?_
     | ((first | refine WK.cond2 rfl (fun h => ?_) (fun h => ?_) | refine Fork.mk (fun h => ?_) (fun h => ?_)) <;> (first | (simp [*] at h; done) | (have h2 := h; simp at h2; exfalso; omega) | (have h2 := h; simp at h2; try simp only [Bool.not_eq_true', Bool.not_eq_false'] at h) | skip))
     | ((first | refine WK.regH Try.ntmps8 (by kernel_rfl) ?_ | refine WK.regX (by kernel_rfl) Try.ntmps8 (by kernel_rfl) ?_); intro A hA Q hQ; simp [*])
     | (refine Hid.h hQ _ _ _ (by decide +kernel) ?_; clear hQ hA)
     | ((first | refine RunQ.gd rfl (by rw [hA.h]; rfl) ?_ | refine RunX.gd rfl (by rw [hA.h]; rfl) ?_); simp [*])
     | ((first | ((first | refine RunQ.call rfl rfl rfl rfl rfl ?_ (lk) ?_ ?_ | refine RunQW.call rfl rfl rfl rfl ?_ (lk) ?_ ?_ | refine RunX.call rfl rfl rfl rfl ?_ (lk) ?_ ?_ | refine RunXW.call rfl rfl rfl ?_ (lk) ?_ ?_); (focus (simp (maxDischargeDepth := 120) [*]; done))) | ((first | refine RunQ.call rfl rfl rfl rfl rfl ?_ (awake28_c) ?_ ?_ | refine RunQW.call rfl rfl rfl rfl ?_ (awake28_c) ?_ ?_ | refine RunX.call rfl rfl rfl rfl ?_ (awake28_c) ?_ ?_ | refine RunXW.call rfl rfl rfl ?_ (awake28_c) ?_ ?_); (focus (simp (maxDischargeDepth := 120) [*]; done)))); (focus (simp [*]; done)); (first | refine RunQ.evalH ?_ | refine RunX.evalY ?_); simp [*])
     | (refine WK.ret Try.func8 ?_ ?_ <;> simp (maxDischargeDepth := 120) [Try.results8, *])
     | fail)
end Go.Proofs.Ytbncoeoamjcjjaa
end
