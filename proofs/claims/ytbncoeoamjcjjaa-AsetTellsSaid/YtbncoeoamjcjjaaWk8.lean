/- The reference of sets of actions: as they are done. -/
import Derived.Test.YtbncoeoamjcjjaaWk7
set_option linter.all false
set_option linter.unnecessarySimpa false
section
set_option linter.unusedVariables false
set_option linter.unusedSimpArgs false
namespace Go.Proofs.Ytbncoeoamjcjjaa
open Go Go.AI Go.Proofs
attribute [local irreducible] FnP FnO FnB FnT FnSeq WK RunQ RunQW RunX RunXW

theorem aOfK_succ {l : List Action} {k : Int} {i : Nat} (h : i < l.length) : aOfK (l.take (i + 1)) k = if (nth l i).kind == k then aOfK (l.take i) k ++ [nth l i] else aOfK (l.take i) k := by
  unfold aOfK; rw [take_nth h, List.filter_append]
  by_cases hk : (nth l i).kind == k <;> simp [hk]
theorem aOfK_len (l : List Action) (k : Int) : (aOfK l k).length ≤ l.length := List.length_filter_le _ _
set_option maxHeartbeats 1000000 in
theorem rofO_c (l : List Action) (k : Int) (hl : l.length ≤ 500000) : FnO Try.prog 100 [actS l, .int .i64 k] (aOfK l k).length 11 (actL (aOfK l k)) := by
  unfold actS
  refine FnO.intro Try.func100 rfl rfl fun G w => ?_
  repeat' (first
   | refine WK.seq ?_
   | refine WK.block ?_
   | refine WK.inBlock ?_
   | refine WK.skip ?_
   | refine WK.label ?_
   | refine WK.scope ?_
   | refine WK.inScope ?_
   | refine WK.exit rfl ?_
   | refine WK.condT rfl ?_
   | refine WK.condF rfl ?_
   | (refine Hid.h hQ _ _ ?_; clear hQ hA)
   | refine WK.condAny rfl ?_ ?_
   | ((first | refine WK.cond2 rfl (fun h => ?_) (fun h => ?_)) <;> (first | (simp [*] at h; done) | (have h2 := h; simp at h2; exfalso; omega) | (have h2 := h; simp at h2; try simp only [Bool.not_eq_true', Bool.not_eq_false'] at h) | skip))
   | ((first | refine WK.regH (id := 0) Try.ntmps100 (by kernel_rfl) ?_ | refine WK.regH (id := 1) Try.ntmps100 (by kernel_rfl) ?_); intro A hA Q hQ; simp [*])
   | fail)
  repeat (first | refine WK.seq ?_ | refine WK.block ?_ | refine WK.inBlock ?_ | refine WK.skip ?_ | refine WK.label ?_ | refine WK.scope ?_ | refine WK.inScope ?_ | refine WK.exit rfl ?_)
  refine WK.ghost (Ghost.own 5 900 11 rfl rfl) ?_
  repeat' (first
   | refine WK.seq ?_
   | refine WK.block ?_
   | refine WK.inBlock ?_
   | refine WK.skip ?_
   | refine WK.label ?_
   | refine WK.scope ?_
   | refine WK.inScope ?_
   | refine WK.exit rfl ?_
   | refine WK.condT rfl ?_
   | refine WK.condF rfl ?_
   | (refine Hid.h hQ _ _ ?_; clear hQ hA)
   | refine WK.condAny rfl ?_ ?_
   | ((first | refine WK.cond2 rfl (fun h => ?_) (fun h => ?_)) <;> (first | (simp [*] at h; done) | (have h2 := h; simp at h2; exfalso; omega) | (have h2 := h; simp at h2; try simp only [Bool.not_eq_true', Bool.not_eq_false'] at h) | skip))
   | (refine WK.regH Try.ntmps100 (by kernel_rfl) ?_; intro A hA Q hQ; simp [*])
   | fail)
  repeat (first | refine WK.seq ?_ | refine WK.block ?_ | refine WK.inBlock ?_ | refine WK.skip ?_ | refine WK.label ?_ | refine WK.scope ?_ | refine WK.inScope ?_ | refine WK.exit rfl ?_)
  refine WK.loopI (fun n => if n = 1 then 900 else n) (fun i : Nat => (⟨(upd (upd (upd (upd J 0 (.sl false l.length (actL l))) 1 (.int .i64 k)) 5 (.msl 1 0 (aOfK (l.take i) k).length)) 6 (.int .i64 i)), (upd B0 1 (.buf 11 (actL (aOfK (l.take i) k)))), 0⟩ : St)) (fun i => i ≤ l.length) (fun i => l.length - i) (0) (by repeat (first | exact TmW.nil | refine TmW.upd ?_ (by simp (maxDischargeDepth := 120) [aOfK]))) (by repeat (first | exact BxW.nil | refine BxW.upd ?_ (by simp (maxDischargeDepth := 120) [aOfK]))) (by first | exact InjW.id | exact InjW.nil | exact InjW.one | exact InjW.two (by simp) | exact InjW.three (by simp) (by simp) (by simp)) (Nat.zero_le _) (fun i hi IH => ?_)
  by_cases h1 : i < l.length
  · obtain ⟨h4, h3⟩ := act_load l i h1
    have h6 : IntKind.i64.wrap ((i : Int) + 1) = i + 1 := wrap_i64 (by omega) (by omega)
    have hnx := aOfK_succ (k := k) h1
    have hln := aOfK_len (l.take i) k
    have htl : (l.take i).length ≤ l.length := List.length_take_le' _ _
    obtain ⟨W, hW⟩ : ∃ W, aOfK (l.take i) k = W := ⟨_, rfl⟩
    obtain ⟨x, hx⟩ : ∃ x, nth l i = x := ⟨_, rfl⟩
    have hld := act_get0 l i h1
    rw [hx] at h4 hnx hld
    rw [hW] at hln hnx ⊢
    have hsn : actL W ++ x.enc = actL (W ++ [x]) := by rw [actL_app]; simp [actL]
    have hbd : (W.length + 1) * 88 ≤ 140737488355328 := by omega
    clear hW hx hln htl
    cases hk : x.kind == k
    · rw [hk, if_neg Bool.false_ne_true] at hnx
      repeat' (first
       | refine WK.seq ?_
       | refine WK.block ?_
       | refine WK.inBlock ?_
       | refine WK.skip ?_
       | refine WK.label ?_
       | refine WK.scope ?_
       | refine WK.inScope ?_
       | refine WK.exit rfl ?_
       | refine WK.condT rfl ?_
       | refine WK.condF rfl ?_
       | (refine Hid.h hQ _ _ ?_; clear hQ hA)
       | refine WK.condAny rfl ?_ ?_
       | ((first | refine WK.cond2 rfl (fun h => ?_) (fun h => ?_)) <;> (first | (simp [*] at h; done) | (have h2 := h; simp at h2; exfalso; omega) | (have h2 := h; simp at h2; try simp only [Bool.not_eq_true', Bool.not_eq_false'] at h) | skip))
       | (refine WK.regH Try.ntmps100 (by kernel_rfl) ?_; intro A hA Q hQ; simp [*])
       | fail)
      repeat (first | refine WK.seq ?_ | refine WK.block ?_ | refine WK.inBlock ?_ | refine WK.skip ?_ | refine WK.label ?_ | refine WK.scope ?_ | refine WK.inScope ?_ | refine WK.exit rfl ?_)
      refine WK.next (fun n => n) (IH (i + 1) (by omega) (by first | omega | (dsimp only; omega))) (by repeat (first | exact TmW.nil | refine TmW.upd ?_ (by simp (maxDischargeDepth := 120) [hnx]))) (by repeat (first | exact BxW.nil | refine BxW.upd ?_ (by simp (maxDischargeDepth := 120) [hnx]))) (by first | exact InjW.id | exact InjW.nil | exact InjW.one | exact InjW.two (by simp) | exact InjW.three (by simp) (by simp) (by simp))
    · rw [hk, if_pos rfl] at hnx
      repeat' (first
       | refine WK.seq ?_
       | refine WK.block ?_
       | refine WK.inBlock ?_
       | refine WK.skip ?_
       | refine WK.label ?_
       | refine WK.scope ?_
       | refine WK.inScope ?_
       | refine WK.exit rfl ?_
       | refine WK.condT rfl ?_
       | refine WK.condF rfl ?_
       | (refine Hid.h hQ _ _ ?_; clear hQ hA)
       | refine WK.condAny rfl ?_ ?_
       | ((first | refine WK.cond2 rfl (fun h => ?_) (fun h => ?_)) <;> (first | (simp [*] at h; done) | (have h2 := h; simp at h2; exfalso; omega) | (have h2 := h; simp at h2; try simp only [Bool.not_eq_true', Bool.not_eq_false'] at h) | skip))
       | (refine WK.regH Try.ntmps100 (by kernel_rfl) ?_; intro A hA Q hQ; simp [*])
       | (refine RunQ.append 902 appAct rfl rfl rfl rfl rfl rfl rfl rfl rfl ?_ ?_ ?_ ?_ ?_; (focus (first | omega | (simp [*]; done); done)); (focus (first | omega | (simp [*]; done); done)); (focus (first | omega | (simp [*]; done); done)); (focus (first | omega | (simp [*]; done); done)); refine RunQ.evalH ?_; simp [*])
       | fail)
      repeat (first | refine WK.seq ?_ | refine WK.block ?_ | refine WK.inBlock ?_ | refine WK.skip ?_ | refine WK.label ?_ | refine WK.scope ?_ | refine WK.inScope ?_ | refine WK.exit rfl ?_)
      refine WK.next (fun n => if n = 1 then 902 else n) (IH (i + 1) (by omega) (by first | omega | (dsimp only; omega))) (by repeat (first | exact TmW.nil | refine TmW.upd ?_ (by simp (maxDischargeDepth := 120) [hnx, hsn]))) (by repeat (first | exact BxW.nil | refine BxW.upd ?_ (by simp (maxDischargeDepth := 120) [hnx, hsn]))) (by first | exact InjW.id | exact InjW.nil | exact InjW.one | exact InjW.two (by simp) | exact InjW.three (by simp) (by simp) (by simp))
  · have hT : l.take i = l := List.take_of_length_le (by omega)
    rw [hT]
    repeat' (first
     | refine WK.seq ?_
     | refine WK.block ?_
     | refine WK.inBlock ?_
     | refine WK.skip ?_
     | refine WK.label ?_
     | refine WK.scope ?_
     | refine WK.inScope ?_
     | refine WK.exit rfl ?_
     | refine WK.condT rfl ?_
     | refine WK.condF rfl ?_
     | (refine Hid.h hQ _ _ ?_; clear hQ hA)
     | refine WK.condAny rfl ?_ ?_
     | ((first | refine WK.cond2 rfl (fun h => ?_) (fun h => ?_)) <;> (first | (simp [*] at h; done) | (have h2 := h; simp at h2; exfalso; omega) | (have h2 := h; simp at h2; try simp only [Bool.not_eq_true', Bool.not_eq_false'] at h) | skip))
     | (refine WK.regH Try.ntmps100 (by kernel_rfl) ?_; intro A hA Q hQ; simp [*])
     | (refine WK.retO Try.func100 rfl rfl ?_ ?_ <;> simp (maxDischargeDepth := 120) [*])
     | fail)
def shF (W : List Action) (j : Nat) : List Action := (W ++ [act0]).take (j + 1) ++ W.drop j
theorem shF_len (W : List Action) (j : Nat) (h : j ≤ W.length) : (shF W j).length = W.length + 1 := by
  unfold shF; rw [List.length_append, List.length_take, List.length_drop, List.length_append, List.length_singleton]; omega
theorem shF_top (W : List Action) : shF W W.length = W ++ [act0] := by
  unfold shF; rw [List.drop_length, List.append_nil, List.take_of_length_le (by simp)]
theorem shF_get (W : List Action) (j : Nat) (h : j < W.length) : nth (shF W (j + 1)) j = nth W j := by
  rw [nth_eq (by rw [shF_len W _ (by omega)]; omega), nth_eq h]
  unfold shF
  rw [List.getElem_append_left (by rw [List.length_take, List.length_append, List.length_singleton]; omega), List.getElem_take, List.getElem_append_left h]
theorem shF_set (W : List Action) (j : Nat) (h : j < W.length) : (shF W (j + 1)).set (j + 1) (nth W j) = shF W j := by
  have e : (W ++ [act0]).take (j + 1 + 1) = (W ++ [act0]).take (j + 1) ++ [(W ++ [act0])[j + 1]'(by rw [List.length_append, List.length_singleton]; omega)] := by
    rw [List.take_succ_eq_append_getElem]
  have hl : ((W ++ [act0]).take (j + 1)).length = j + 1 := by rw [List.length_take, List.length_append, List.length_singleton]; omega
  unfold shF
  rw [e, List.append_assoc, List.set_append_right _ _ (by omega), hl, Nat.sub_self, List.drop_eq_getElem_cons h, nth_eq h]
  rfl
theorem shF_put (W : List Action) (j : Nat) (x : Action) (h : j ≤ W.length) : (shF W j).set j x = W.take j ++ x :: W.drop j := by
  have e : (W ++ [act0]).take (j + 1) = (W ++ [act0]).take j ++ [(W ++ [act0])[j]'(by rw [List.length_append, List.length_singleton]; omega)] := by
    rw [List.take_succ_eq_append_getElem]
  have hl : ((W ++ [act0]).take j).length = j := by rw [List.length_take, List.length_append, List.length_singleton]; omega
  have ht : (W ++ [act0]).take j = W.take j := by rw [List.take_append_of_le_length h]
  unfold shF
  rw [e, List.append_assoc, List.set_append_right _ _ (by omega), hl, Nat.sub_self, ht]
  rfl
theorem insF_shF (W : List Action) (x : Action) : (shF W (insAt W x.oxm.field W.length)).set (insAt W x.oxm.field W.length) x = insF W x := by
  rw [shF_put W _ x (insAt_spec W x.oxm.field W.length (Nat.le_refl _)).1]; rfl
theorem aFields_succ {l : List Action} {i : Nat} (h : i < l.length) : aFields (l.take (i + 1)) = insF (aFields (l.take i)) (nth l i) := by
  unfold aFields; rw [take_nth h, List.foldl_append]; rfl
theorem insF_len (W : List Action) (x : Action) : (insF W x).length = W.length + 1 := by
  unfold insF
  rw [List.length_append, List.length_cons, List.length_take, List.length_drop]
  have := (insAt_spec W x.oxm.field W.length (Nat.le_refl _)).1
  omega
theorem aFields_len (l : List Action) : (aFields l).length = l.length := by
  have key : ∀ (l W : List Action), (l.foldl insF W).length = W.length + l.length := by
    intro l
    induction l with
    | nil => intro W; rfl
    | cons x l ih => intro W; rw [List.foldl_cons, ih, insF_len, List.length_cons]; omega
  unfold aFields; rw [key]; simp
theorem act_get5 (l : List Action) (i : Nat) (h : i < l.length) (h' : i * 11 + 5 < (actL l).length) : (actL l)[i * 11 + 5] = .int .i64 (nth l i).oxm.field := fm_get Action.len l i 5 h (by omega) h'
set_option maxHeartbeats 4000000 in
theorem rfieldsO_c (l : List Action) (hl : l.length ≤ 500000) : FnO Try.prog 101 [actS l] (aFields l).length 11 (actL (aFields l)) := by
  unfold actS
  refine FnO.intro Try.func101 rfl rfl fun G w => ?_
  repeat' (first
   | refine WK.seq ?_
   | refine WK.block ?_
   | refine WK.inBlock ?_
   | refine WK.skip ?_
   | refine WK.label ?_
   | refine WK.scope ?_
   | refine WK.inScope ?_
   | refine WK.exit rfl ?_
   | refine WK.condT rfl ?_
   | refine WK.condF rfl ?_
   | (refine Hid.h hQ _ _ ?_; clear hQ hA)
   | refine WK.condAny rfl ?_ ?_
   | ((first | refine WK.cond2 rfl (fun h => ?_) (fun h => ?_) | refine Fork.mk (fun h => ?_) (fun h => ?_)) <;> (first | (simp [*] at h; done) | (have h2 := h; simp at h2; exfalso; omega) | (have h2 := h; simp at h2; try simp only [Bool.not_eq_true', Bool.not_eq_false'] at h) | skip))
   | ((first | refine WK.regH (id := 0) Try.ntmps101 (by kernel_rfl) ?_ | refine WK.regH (id := 1) Try.ntmps101 (by kernel_rfl) ?_ | refine WK.regX (id := 0) (by kernel_rfl) Try.ntmps101 (by kernel_rfl) ?_ | refine WK.regX (id := 1) (by kernel_rfl) Try.ntmps101 (by kernel_rfl) ?_); intro A hA Q hQ; simp [*])
   | (refine Hid.h hQ _ _ _ (by decide +kernel) ?_; clear hQ hA)
   | ((first | refine RunQ.gd rfl (by rw [hA.h]; rfl) ?_ | refine RunX.gd rfl (by rw [hA.h]; rfl) ?_); simp [*])
   | fail)
  repeat (first | refine WK.seq ?_ | refine WK.block ?_ | refine WK.inBlock ?_ | refine WK.skip ?_ | refine WK.label ?_ | refine WK.scope ?_ | refine WK.inScope ?_ | refine WK.exit rfl ?_)
  refine WK.ghost (Ghost.own 3 900 11 rfl rfl) ?_
  repeat' (first
   | refine WK.seq ?_
   | refine WK.block ?_
   | refine WK.inBlock ?_
   | refine WK.skip ?_
   | refine WK.label ?_
   | refine WK.scope ?_
   | refine WK.inScope ?_
   | refine WK.exit rfl ?_
   | refine WK.condT rfl ?_
   | refine WK.condF rfl ?_
   | (refine Hid.h hQ _ _ ?_; clear hQ hA)
   | refine WK.condAny rfl ?_ ?_
   | ((first | refine WK.cond2 rfl (fun h => ?_) (fun h => ?_) | refine Fork.mk (fun h => ?_) (fun h => ?_)) <;> (first | (simp [*] at h; done) | (have h2 := h; simp at h2; exfalso; omega) | (have h2 := h; simp at h2; try simp only [Bool.not_eq_true', Bool.not_eq_false'] at h) | skip))
   | ((first | refine WK.regH Try.ntmps101 (by kernel_rfl) ?_ | refine WK.regX (by kernel_rfl) Try.ntmps101 (by kernel_rfl) ?_); intro A hA Q hQ; simp [*])
   | (refine Hid.h hQ _ _ _ (by decide +kernel) ?_; clear hQ hA)
   | ((first | refine RunQ.gd rfl (by rw [hA.h]; rfl) ?_ | refine RunX.gd rfl (by rw [hA.h]; rfl) ?_); simp [*])
   | fail)
  repeat (first | refine WK.seq ?_ | refine WK.block ?_ | refine WK.inBlock ?_ | refine WK.skip ?_ | refine WK.label ?_ | refine WK.scope ?_ | refine WK.inScope ?_ | refine WK.exit rfl ?_)
  refine WK.loopI (fun n => if n = 1 then 900 else n) (fun i : Nat => (⟨(upd (upd (upd J 0 (.sl false l.length (actL l))) 3 (.msl 1 0 (aFields (l.take i)).length)) 4 (.int .i64 i)), (upd B0 1 (.buf 11 (actL (aFields (l.take i))))), 0⟩ : St)) (fun i => i ≤ l.length) (fun i => l.length - i) (0) (by repeat (first | exact TmW.nil | refine TmW.upd ?_ (by simp (maxDischargeDepth := 120) [aFields]))) (by repeat (first | exact BxW.nil | refine BxW.upd ?_ (by simp (maxDischargeDepth := 120) [aFields]))) (by first | exact InjW.id | exact InjW.nil | exact InjW.one | exact InjW.two (by simp) | exact InjW.three (by simp) (by simp) (by simp)) (Nat.zero_le _) (fun i hi IH => ?_)
  by_cases h1 : i < l.length
  · obtain ⟨h4, h3⟩ := act_load l i h1
    have h6 : IntKind.i64.wrap ((i : Int) + 1) = i + 1 := wrap_i64 (by omega) (by omega)
    have hnx := aFields_succ h1
    have hln := aFields_len (l.take i)
    have htl : (l.take i).length ≤ l.length := List.length_take_le' _ _
    obtain ⟨W, hW⟩ : ∃ W, aFields (l.take i) = W := ⟨_, rfl⟩
    obtain ⟨x, hx⟩ : ∃ x, nth l i = x := ⟨_, rfl⟩
    have hld := act_get5 l i h1
    rw [hx] at h4 hnx hld
    rw [hW] at hln hnx ⊢
    have hWl : W.length ≤ 500000 := by omega
    have hil : i * 11 + 5 < l.length * 11 := by omega
    clear hW hx hln htl
    repeat' (first
     | refine WK.seq ?_
     | refine WK.block ?_
     | refine WK.inBlock ?_
     | refine WK.skip ?_
     | refine WK.label ?_
     | refine WK.scope ?_
     | refine WK.inScope ?_
     | refine WK.exit rfl ?_
     | refine WK.condT rfl ?_
     | refine WK.condF rfl ?_
     | (refine Hid.h hQ _ _ ?_; clear hQ hA)
     | refine WK.condAny rfl ?_ ?_
     | ((first | refine WK.cond2 rfl (fun h => ?_) (fun h => ?_) | refine Fork.mk (fun h => ?_) (fun h => ?_)) <;> (first | (simp [*] at h; done) | (have h2 := h; simp at h2; exfalso; omega) | (have h2 := h; simp at h2; try simp only [Bool.not_eq_true', Bool.not_eq_false'] at h) | skip))
     | ((first | refine WK.regH Try.ntmps101 (by kernel_rfl) ?_ | refine WK.regX (by kernel_rfl) Try.ntmps101 (by kernel_rfl) ?_); intro A hA Q hQ; simp [*])
     | (refine Hid.h hQ _ _ _ (by decide +kernel) ?_; clear hQ hA)
     | ((first | refine RunQ.gd rfl (by rw [hA.h]; rfl) ?_ | refine RunX.gd rfl (by rw [hA.h]; rfl) ?_); simp [*])
     | fail)
    repeat (first | refine WK.seq ?_ | refine WK.block ?_ | refine WK.inBlock ?_ | refine WK.skip ?_ | refine WK.label ?_ | refine WK.scope ?_ | refine WK.inScope ?_ | refine WK.exit rfl ?_)
    refine WK.loopI (fun n => n) (fun k : Nat => (⟨(upd (upd (upd (upd J 0 (.sl false l.length (actL l))) 3 (.msl 1 0 W.length)) 4 (.int .i64 i)) 5 (.int .i64 k)), (upd B0 1 (.buf 11 (actL W))), 0⟩ : St)) (fun k => k ≤ W.length ∧ insAt W x.oxm.field W.length = insAt W x.oxm.field k) (fun k => k) (W.length) (by repeat (first | exact TmW.nil | refine TmW.upd ?_ (by simp (maxDischargeDepth := 120)))) (by repeat (first | exact BxW.nil | refine BxW.upd ?_ (by simp (maxDischargeDepth := 120)))) (by first | exact InjW.id | exact InjW.nil | exact InjW.one | exact InjW.two (by simp) | exact InjW.three (by simp) (by simp) (by simp)) (⟨Nat.le_refl _, rfl⟩) (fun k hk IHk => ?_)
    have hz : actL W ++ [AV.int .i64 0, AV.int .i64 0, AV.int .i64 0, AV.int .i64 0, AV.int .i64 0, AV.int .i64 0, AV.bool false, AV.int .u64 0, AV.int .u64 0, AV.int .u64 0, AV.int .u64 0] = actL (shF W W.length) := by rw [shF_top, actL_app]; rfl
    have hbd : (W.length + 1) * 88 ≤ 140737488355328 := by omega
    have hw2 : IntKind.i64.wrap ((W.length : Int) + 1 - 1) = W.length := by rw [Int.add_sub_cancel]; exact wrap_i64 (by omega) (by omega)
    have hw3 : IntKind.i64.wrap (W.length : Int) = W.length := wrap_i64 (by omega) (by omega)
    by_cases h5 : 0 < k ∧ x.oxm.field < (nth W (k - 1)).oxm.field
    · obtain ⟨m, rfl⟩ : ∃ m, k = m + 1 := ⟨k - 1, by omega⟩
      rw [Nat.add_sub_cancel] at h5
      have h5' := h5.2
      have wl := act_get5 W m (by omega)
      obtain ⟨y, hy⟩ : ∃ y, nth W m = y := ⟨_, rfl⟩
      have hst : insAt W x.oxm.field (m + 1) = insAt W x.oxm.field m := by rw [insAt, if_pos h5.2]
      have hk2 := hk.2
      rw [hst] at hk2
      have hk1 := hk.1
      rw [hy] at wl h5'
      have w7 : IntKind.i64.wrap (m : Int) = m := wrap_i64 (by omega) (by omega)
      have w8 : (m : Int) < W.length := by omega
      have w9 : m * 11 + 5 < W.length * 11 := by omega
      have w10 : (0 : Int) < (m : Int) + 1 := by omega
      have w11 : m < W.length := by omega
      clear hy hst h5
      repeat' (first
       | refine WK.seq ?_
       | refine WK.block ?_
       | refine WK.inBlock ?_
       | refine WK.skip ?_
       | refine WK.label ?_
       | refine WK.scope ?_
       | refine WK.inScope ?_
       | refine WK.exit rfl ?_
       | refine WK.condT rfl ?_
       | refine WK.condF rfl ?_
       | (refine Hid.h hQ _ _ ?_; clear hQ hA)
       | refine WK.condAny rfl ?_ ?_
       | ((first | refine WK.cond2 rfl (fun h => ?_) (fun h => ?_) | refine Fork.mk (fun h => ?_) (fun h => ?_)) <;> (first | (simp [*] at h; done) | (have h2 := h; simp at h2; exfalso; omega) | (have h2 := h; simp at h2; try simp only [Bool.not_eq_true', Bool.not_eq_false'] at h) | skip))
       | ((first | refine WK.regH Try.ntmps101 (by kernel_rfl) ?_ | refine WK.regX (by kernel_rfl) Try.ntmps101 (by kernel_rfl) ?_); intro A hA Q hQ; simp [*])
       | (refine Hid.h hQ _ _ _ (by decide +kernel) ?_; clear hQ hA)
       | ((first | refine RunQ.gd rfl (by rw [hA.h]; rfl) ?_ | refine RunX.gd rfl (by rw [hA.h]; rfl) ?_); simp [*])
       | fail)
      repeat (first | refine WK.seq ?_ | refine WK.block ?_ | refine WK.inBlock ?_ | refine WK.skip ?_ | refine WK.label ?_ | refine WK.scope ?_ | refine WK.inScope ?_ | refine WK.exit rfl ?_)
      refine WK.next (fun n => n) (IHk (m) (⟨by omega, hk2⟩) (by first | omega | (dsimp only; omega))) (by repeat (first | exact TmW.nil | refine TmW.upd ?_ (by simp (maxDischargeDepth := 120)))) (by repeat (first | exact BxW.nil | refine BxW.upd ?_ (by simp (maxDischargeDepth := 120)))) (by first | exact InjW.id | exact InjW.nil | exact InjW.one | exact InjW.two (by simp) | exact InjW.three (by simp) (by simp) (by simp))
    · by_cases h0 : k = 0
      · have hp : insAt W x.oxm.field W.length = 0 := by rw [hk.2, h0]; rfl
        clear hk h5 IHk
        subst h0
        repeat' (first
         | refine WK.seq ?_
         | refine WK.block ?_
         | refine WK.inBlock ?_
         | refine WK.skip ?_
         | refine WK.label ?_
         | refine WK.scope ?_
         | refine WK.inScope ?_
         | refine WK.exit rfl ?_
         | refine WK.condT rfl ?_
         | refine WK.condF rfl ?_
         | (refine Hid.h hQ _ _ ?_; clear hQ hA)
         | refine WK.condAny rfl ?_ ?_
         | ((first | refine WK.cond2 rfl (fun h => ?_) (fun h => ?_) | refine Fork.mk (fun h => ?_) (fun h => ?_)) <;> (first | (simp [*] at h; done) | (have h2 := h; simp at h2; exfalso; omega) | (have h2 := h; simp at h2; try simp only [Bool.not_eq_true', Bool.not_eq_false'] at h) | skip))
         | ((first | refine WK.regH Try.ntmps101 (by kernel_rfl) ?_ | refine WK.regX (by kernel_rfl) Try.ntmps101 (by kernel_rfl) ?_); intro A hA Q hQ; simp [*])
         | (refine Hid.h hQ _ _ _ (by decide +kernel) ?_; clear hQ hA)
         | ((first | refine RunQ.gd rfl (by rw [hA.h]; rfl) ?_ | refine RunX.gd rfl (by rw [hA.h]; rfl) ?_); simp [*])
         | (refine RunQ.append 902 appAct rfl rfl rfl rfl rfl rfl rfl rfl rfl ?_ ?_ ?_ ?_ ?_; (focus (first | omega | (simp [*]; done); done)); (focus (first | omega | (simp [*]; done); done)); (focus (first | omega | (simp [*]; done); done)); (focus (first | omega | (simp [*]; done); done)); refine RunQ.evalH ?_; simp [*])
         | (refine RunQW.by (fun hw => ?_); refine RunQ.append 902 appAct rfl rfl rfl rfl rfl rfl rfl hw rfl ?_ ?_ ?_ ?_ ?_; (focus (first | omega | (simp [*]; done); done)); (focus (first | omega | (simp [*]; done); done)); (focus (first | omega | (simp [*]; done); done)); (focus (first | omega | (simp [*]; done); done)); clear hw; refine RunQ.evalH ?_; simp [*])
         | (refine RunX.append 902 appAct rfl rfl rfl rfl rfl rfl rfl rfl ?_ ?_ ?_ ?_ ?_; (focus (first | omega | (simp [*]; done); done)); (focus (first | omega | (simp [*]; done); done)); (focus (first | omega | (simp [*]; done); done)); (focus (first | omega | (simp [*]; done); done)); refine RunX.evalY ?_; simp [*])
         | (refine RunX.by (fun hw => ?_); refine RunX.append 902 appAct rfl rfl rfl rfl rfl rfl rfl hw ?_ ?_ ?_ ?_ ?_; (focus (first | omega | (simp [*]; done); done)); (focus (first | omega | (simp [*]; done); done)); (focus (first | omega | (simp [*]; done); done)); (focus (first | omega | (simp [*]; done); done)); clear hw; refine RunX.evalY ?_; simp [*])
         | fail)
        repeat (first | refine WK.seq ?_ | refine WK.block ?_ | refine WK.inBlock ?_ | refine WK.skip ?_ | refine WK.label ?_ | refine WK.scope ?_ | refine WK.inScope ?_ | refine WK.exit rfl ?_)
        refine WK.loopI (fun n => if n = 1 then 902 else n) (fun j : Nat => (⟨(upd (upd (upd (upd (upd J 0 (.sl false l.length (actL l))) 3 (.msl 1 0 (W.length + 1))) 4 (.int .i64 i)) 5 (.int .i64 (0 : Nat))) 6 (.int .i64 j)), (upd B0 1 (.buf 11 (actL (shF W j)))), 0⟩ : St)) (fun j => (0 : Nat) ≤ j ∧ j ≤ W.length) (fun j => j) (W.length) (by repeat (first | exact TmW.nil | refine TmW.upd ?_ (by simp (maxDischargeDepth := 120) [hz]))) (by repeat (first | exact BxW.nil | refine BxW.upd ?_ (by simp (maxDischargeDepth := 120) [hz]))) (by first | exact InjW.id | exact InjW.nil | exact InjW.one | exact InjW.two (by simp) | exact InjW.three (by simp) (by simp) (by simp)) (⟨by omega, Nat.le_refl _⟩) (fun j hj IHj => ?_)
        clear hz hbd
        have hsl := shF_len W j hj.2
        by_cases h7 : (0 : Nat) < j
        · obtain ⟨n, rfl⟩ : ∃ n, j = n + 1 := ⟨j - 1, by omega⟩
          have hn1 : n < W.length := by omega
          obtain ⟨u4, u3⟩ := act_load (shF W (n + 1)) n (by omega)
          have us := actL_set (shF W (n + 1)) (n + 1) (nth W n) (by omega)
          rw [shF_get W n hn1] at u4
          rw [shF_set W n hn1] at us
          obtain ⟨y, hy⟩ : ∃ y, nth W n = y := ⟨_, rfl⟩
          rw [hy] at u4 us
          obtain ⟨V, hV⟩ : ∃ V, shF W (n + 1) = V := ⟨_, rfl⟩
          rw [hV] at u4 u3 us hsl ⊢
          have u5 : n * 11 + 11 ≤ (W.length + 1) * 11 := by omega
          have u6 : (n + 1) * 11 + 11 ≤ (W.length + 1) * 11 := by omega
          have u7 : IntKind.i64.wrap (n : Int) = n := wrap_i64 (by omega) (by omega)
          have u8 : (n : Int) < (W.length : Int) + 1 := by omega
          have u9 : (n : Int) + 1 < (W.length : Int) + 1 := by omega
          have v1 : ((0 : Nat) : Int) < (n : Int) + 1 := by omega
          have v2 : (0 : Int) ≤ (n : Int) + 1 := by omega
          have v3 : n < W.length + 1 := by omega
          have v4 : n + 1 < W.length + 1 := by omega
          clear hV hy h7
          repeat' (first
           | refine WK.seq ?_
           | refine WK.block ?_
           | refine WK.inBlock ?_
           | refine WK.skip ?_
           | refine WK.label ?_
           | refine WK.scope ?_
           | refine WK.inScope ?_
           | refine WK.exit rfl ?_
           | refine WK.condT rfl ?_
           | refine WK.condF rfl ?_
           | (refine Hid.h hQ _ _ ?_; clear hQ hA)
           | refine WK.condAny rfl ?_ ?_
           | ((first | refine WK.cond2 rfl (fun h => ?_) (fun h => ?_) | refine Fork.mk (fun h => ?_) (fun h => ?_)) <;> (first | (simp [*] at h; done) | (have h2 := h; simp at h2; exfalso; omega) | (have h2 := h; simp at h2; try simp only [Bool.not_eq_true', Bool.not_eq_false'] at h) | skip))
           | ((first | refine WK.regH Try.ntmps101 (by kernel_rfl) ?_ | refine WK.regX (by kernel_rfl) Try.ntmps101 (by kernel_rfl) ?_); intro A hA Q hQ; simp [*])
           | (refine Hid.h hQ _ _ _ (by decide +kernel) ?_; clear hQ hA)
           | ((first | refine RunQ.gd rfl (by rw [hA.h]; rfl) ?_ | refine RunX.gd rfl (by rw [hA.h]; rfl) ?_); simp [*])
           | fail)
          repeat (first | refine WK.seq ?_ | refine WK.block ?_ | refine WK.inBlock ?_ | refine WK.skip ?_ | refine WK.label ?_ | refine WK.scope ?_ | refine WK.inScope ?_ | refine WK.exit rfl ?_)
          refine WK.next (fun n => n) (IHj (n) (⟨by omega, by omega⟩) (by first | omega | (dsimp only; omega))) (by repeat (first | exact TmW.nil | refine TmW.upd ?_ (by simp (maxDischargeDepth := 120) [us]))) (by repeat (first | exact BxW.nil | refine BxW.upd ?_ (by simp (maxDischargeDepth := 120) [us]))) (by first | exact InjW.id | exact InjW.nil | exact InjW.one | exact InjW.two (by simp) | exact InjW.three (by simp) (by simp) (by simp))
        · have hjk : j = (0 : Nat) := by omega
          subst hjk
          have us := actL_set (shF W 0) 0 x (by omega)
          have pt := insF_shF W x
          rw [hp] at pt
          rw [pt] at us
          have il := insF_len W x
          obtain ⟨V, hV⟩ : ∃ V, shF W 0 = V := ⟨_, rfl⟩
          rw [hV] at us hsl ⊢
          obtain ⟨Z, hZ⟩ : ∃ Z, insF W x = Z := ⟨_, rfl⟩
          rw [hZ] at us hnx il
          have u6 : 0 * 11 + 11 ≤ (W.length + 1) * 11 := by omega
          have u9 : (0 : Int) < (W.length : Int) + 1 := by omega
          have v4 : 0 < W.length + 1 := by omega
          simp only [Nat.zero_mul, List.take_zero, List.nil_append, Nat.zero_add] at us
          clear hV hZ pt IHj hj
          repeat' (first
           | refine WK.seq ?_
           | refine WK.block ?_
           | refine WK.inBlock ?_
           | refine WK.skip ?_
           | refine WK.label ?_
           | refine WK.scope ?_
           | refine WK.inScope ?_
           | refine WK.exit rfl ?_
           | refine WK.condT rfl ?_
           | refine WK.condF rfl ?_
           | (refine Hid.h hQ _ _ ?_; clear hQ hA)
           | refine WK.condAny rfl ?_ ?_
           | ((first | refine WK.cond2 rfl (fun h => ?_) (fun h => ?_) | refine Fork.mk (fun h => ?_) (fun h => ?_)) <;> (first | (simp [*] at h; done) | (have h2 := h; simp at h2; exfalso; omega) | (have h2 := h; simp at h2; try simp only [Bool.not_eq_true', Bool.not_eq_false'] at h) | skip))
           | ((first | refine WK.regH Try.ntmps101 (by kernel_rfl) ?_ | refine WK.regX (by kernel_rfl) Try.ntmps101 (by kernel_rfl) ?_); intro A hA Q hQ; simp [*])
           | (refine Hid.h hQ _ _ _ (by decide +kernel) ?_; clear hQ hA)
           | ((first | refine RunQ.gd rfl (by rw [hA.h]; rfl) ?_ | refine RunX.gd rfl (by rw [hA.h]; rfl) ?_); simp [*])
           | fail)
          repeat (first | refine WK.seq ?_ | refine WK.block ?_ | refine WK.inBlock ?_ | refine WK.skip ?_ | refine WK.label ?_ | refine WK.scope ?_ | refine WK.inScope ?_ | refine WK.exit rfl ?_)
          refine WK.next (fun n => n) (IH (i + 1) (by omega) (by first | omega | (dsimp only; omega))) (by repeat (first | exact TmW.nil | refine TmW.upd ?_ (by simp (maxDischargeDepth := 120) [hnx, us, il]))) (by repeat (first | exact BxW.nil | refine BxW.upd ?_ (by simp (maxDischargeDepth := 120) [hnx, us, il]))) (by first | exact InjW.id | exact InjW.nil | exact InjW.one | exact InjW.two (by simp) | exact InjW.three (by simp) (by simp) (by simp))
      · obtain ⟨m, rfl⟩ : ∃ m, k = m + 1 := ⟨k - 1, by omega⟩
        rw [Nat.add_sub_cancel] at h5
        have h5' : ¬ x.oxm.field < (nth W m).oxm.field := fun h => h5 ⟨by omega, h⟩
        have hp : insAt W x.oxm.field W.length = m + 1 := by rw [hk.2, insAt, if_neg h5']
        have wl := act_get5 W m (by omega)
        obtain ⟨y, hy⟩ : ∃ y, nth W m = y := ⟨_, rfl⟩
        have hk1 := hk.1
        rw [hy] at wl h5'
        have w7 : IntKind.i64.wrap (m : Int) = m := wrap_i64 (by omega) (by omega)
        have w8 : (m : Int) < W.length := by omega
        have w9 : m * 11 + 5 < W.length * 11 := by omega
        have w10 : (0 : Int) < (m : Int) + 1 := by omega
        have w12 : (0 : Int) ≤ (m : Int) + 1 := by omega
        have w11 : m < W.length := by omega
        clear hy h5 IHk hk
        repeat' (first
         | refine WK.seq ?_
         | refine WK.block ?_
         | refine WK.inBlock ?_
         | refine WK.skip ?_
         | refine WK.label ?_
         | refine WK.scope ?_
         | refine WK.inScope ?_
         | refine WK.exit rfl ?_
         | refine WK.condT rfl ?_
         | refine WK.condF rfl ?_
         | (refine Hid.h hQ _ _ ?_; clear hQ hA)
         | refine WK.condAny rfl ?_ ?_
         | ((first | refine WK.cond2 rfl (fun h => ?_) (fun h => ?_) | refine Fork.mk (fun h => ?_) (fun h => ?_)) <;> (first | (simp [*] at h; done) | (have h2 := h; simp at h2; exfalso; omega) | (have h2 := h; simp at h2; try simp only [Bool.not_eq_true', Bool.not_eq_false'] at h) | skip))
         | ((first | refine WK.regH Try.ntmps101 (by kernel_rfl) ?_ | refine WK.regX (by kernel_rfl) Try.ntmps101 (by kernel_rfl) ?_); intro A hA Q hQ; simp [*])
         | (refine Hid.h hQ _ _ _ (by decide +kernel) ?_; clear hQ hA)
         | ((first | refine RunQ.gd rfl (by rw [hA.h]; rfl) ?_ | refine RunX.gd rfl (by rw [hA.h]; rfl) ?_); simp [*])
         | (refine RunQ.append 902 appAct rfl rfl rfl rfl rfl rfl rfl rfl rfl ?_ ?_ ?_ ?_ ?_; (focus (first | omega | (simp [*]; done); done)); (focus (first | omega | (simp [*]; done); done)); (focus (first | omega | (simp [*]; done); done)); (focus (first | omega | (simp [*]; done); done)); refine RunQ.evalH ?_; simp [*])
         | (refine RunQW.by (fun hw => ?_); refine RunQ.append 902 appAct rfl rfl rfl rfl rfl rfl rfl hw rfl ?_ ?_ ?_ ?_ ?_; (focus (first | omega | (simp [*]; done); done)); (focus (first | omega | (simp [*]; done); done)); (focus (first | omega | (simp [*]; done); done)); (focus (first | omega | (simp [*]; done); done)); clear hw; refine RunQ.evalH ?_; simp [*])
         | (refine RunX.append 902 appAct rfl rfl rfl rfl rfl rfl rfl rfl ?_ ?_ ?_ ?_ ?_; (focus (first | omega | (simp [*]; done); done)); (focus (first | omega | (simp [*]; done); done)); (focus (first | omega | (simp [*]; done); done)); (focus (first | omega | (simp [*]; done); done)); refine RunX.evalY ?_; simp [*])
         | (refine RunX.by (fun hw => ?_); refine RunX.append 902 appAct rfl rfl rfl rfl rfl rfl rfl hw ?_ ?_ ?_ ?_ ?_; (focus (first | omega | (simp [*]; done); done)); (focus (first | omega | (simp [*]; done); done)); (focus (first | omega | (simp [*]; done); done)); (focus (first | omega | (simp [*]; done); done)); clear hw; refine RunX.evalY ?_; simp [*])
         | fail)
        repeat (first | refine WK.seq ?_ | refine WK.block ?_ | refine WK.inBlock ?_ | refine WK.skip ?_ | refine WK.label ?_ | refine WK.scope ?_ | refine WK.inScope ?_ | refine WK.exit rfl ?_)
        refine WK.loopI (fun n => if n = 1 then 902 else n) (fun j : Nat => (⟨(upd (upd (upd (upd (upd J 0 (.sl false l.length (actL l))) 3 (.msl 1 0 (W.length + 1))) 4 (.int .i64 i)) 5 (.int .i64 (m + 1 : Nat))) 6 (.int .i64 j)), (upd B0 1 (.buf 11 (actL (shF W j)))), 0⟩ : St)) (fun j => (m + 1 : Nat) ≤ j ∧ j ≤ W.length) (fun j => j) (W.length) (by repeat (first | exact TmW.nil | refine TmW.upd ?_ (by simp (maxDischargeDepth := 120) [hz]))) (by repeat (first | exact BxW.nil | refine BxW.upd ?_ (by simp (maxDischargeDepth := 120) [hz]))) (by first | exact InjW.id | exact InjW.nil | exact InjW.one | exact InjW.two (by simp) | exact InjW.three (by simp) (by simp) (by simp)) (⟨by omega, Nat.le_refl _⟩) (fun j hj IHj => ?_)
        clear hz hbd
        have hsl := shF_len W j hj.2
        by_cases h7 : (m + 1 : Nat) < j
        · obtain ⟨n, rfl⟩ : ∃ n, j = n + 1 := ⟨j - 1, by omega⟩
          have hn1 : n < W.length := by omega
          obtain ⟨u4, u3⟩ := act_load (shF W (n + 1)) n (by omega)
          have us := actL_set (shF W (n + 1)) (n + 1) (nth W n) (by omega)
          rw [shF_get W n hn1] at u4
          rw [shF_set W n hn1] at us
          obtain ⟨y, hy⟩ : ∃ y, nth W n = y := ⟨_, rfl⟩
          rw [hy] at u4 us
          obtain ⟨V, hV⟩ : ∃ V, shF W (n + 1) = V := ⟨_, rfl⟩
          rw [hV] at u4 u3 us hsl ⊢
          have u5 : n * 11 + 11 ≤ (W.length + 1) * 11 := by omega
          have u6 : (n + 1) * 11 + 11 ≤ (W.length + 1) * 11 := by omega
          have u7 : IntKind.i64.wrap (n : Int) = n := wrap_i64 (by omega) (by omega)
          have u8 : (n : Int) < (W.length : Int) + 1 := by omega
          have u9 : (n : Int) + 1 < (W.length : Int) + 1 := by omega
          have v1 : ((m + 1 : Nat) : Int) < (n : Int) + 1 := by omega
          have v2 : (0 : Int) ≤ (n : Int) + 1 := by omega
          have v3 : n < W.length + 1 := by omega
          have v4 : n + 1 < W.length + 1 := by omega
          clear hV hy h7
          repeat' (first
           | refine WK.seq ?_
           | refine WK.block ?_
           | refine WK.inBlock ?_
           | refine WK.skip ?_
           | refine WK.label ?_
           | refine WK.scope ?_
           | refine WK.inScope ?_
           | refine WK.exit rfl ?_
           | refine WK.condT rfl ?_
           | refine WK.condF rfl ?_
           | (refine Hid.h hQ _ _ ?_; clear hQ hA)
           | refine WK.condAny rfl ?_ ?_
           | ((first | refine WK.cond2 rfl (fun h => ?_) (fun h => ?_) | refine Fork.mk (fun h => ?_) (fun h => ?_)) <;> (first | (simp [*] at h; done) | (have h2 := h; simp at h2; exfalso; omega) | (have h2 := h; simp at h2; try simp only [Bool.not_eq_true', Bool.not_eq_false'] at h) | skip))
           | ((first | refine WK.regH Try.ntmps101 (by kernel_rfl) ?_ | refine WK.regX (by kernel_rfl) Try.ntmps101 (by kernel_rfl) ?_); intro A hA Q hQ; simp [*])
           | (refine Hid.h hQ _ _ _ (by decide +kernel) ?_; clear hQ hA)
           | ((first | refine RunQ.gd rfl (by rw [hA.h]; rfl) ?_ | refine RunX.gd rfl (by rw [hA.h]; rfl) ?_); simp [*])
           | fail)
          repeat (first | refine WK.seq ?_ | refine WK.block ?_ | refine WK.inBlock ?_ | refine WK.skip ?_ | refine WK.label ?_ | refine WK.scope ?_ | refine WK.inScope ?_ | refine WK.exit rfl ?_)
          refine WK.next (fun n => n) (IHj (n) (⟨by omega, by omega⟩) (by first | omega | (dsimp only; omega))) (by repeat (first | exact TmW.nil | refine TmW.upd ?_ (by simp (maxDischargeDepth := 120) [us]))) (by repeat (first | exact BxW.nil | refine BxW.upd ?_ (by simp (maxDischargeDepth := 120) [us]))) (by first | exact InjW.id | exact InjW.nil | exact InjW.one | exact InjW.two (by simp) | exact InjW.three (by simp) (by simp) (by simp))
        · have hjk : j = (m + 1 : Nat) := by omega
          subst hjk
          have us := actL_set (shF W (m + 1)) (m + 1) x (by omega)
          have pt := insF_shF W x
          rw [hp] at pt
          rw [pt] at us
          have il := insF_len W x
          obtain ⟨V, hV⟩ : ∃ V, shF W (m + 1) = V := ⟨_, rfl⟩
          rw [hV] at us hsl ⊢
          obtain ⟨Z, hZ⟩ : ∃ Z, insF W x = Z := ⟨_, rfl⟩
          rw [hZ] at us hnx il
          have u6 : (m + 1) * 11 + 11 ≤ (W.length + 1) * 11 := by omega
          have u9 : ((m + 1) : Int) < (W.length : Int) + 1 := by omega
          have v4 : (m + 1) < W.length + 1 := by omega
          clear hV hZ pt IHj hj
          repeat' (first
           | refine WK.seq ?_
           | refine WK.block ?_
           | refine WK.inBlock ?_
           | refine WK.skip ?_
           | refine WK.label ?_
           | refine WK.scope ?_
           | refine WK.inScope ?_
           | refine WK.exit rfl ?_
           | refine WK.condT rfl ?_
           | refine WK.condF rfl ?_
           | (refine Hid.h hQ _ _ ?_; clear hQ hA)
           | refine WK.condAny rfl ?_ ?_
           | ((first | refine WK.cond2 rfl (fun h => ?_) (fun h => ?_) | refine Fork.mk (fun h => ?_) (fun h => ?_)) <;> (first | (simp [*] at h; done) | (have h2 := h; simp at h2; exfalso; omega) | (have h2 := h; simp at h2; try simp only [Bool.not_eq_true', Bool.not_eq_false'] at h) | skip))
           | ((first | refine WK.regH Try.ntmps101 (by kernel_rfl) ?_ | refine WK.regX (by kernel_rfl) Try.ntmps101 (by kernel_rfl) ?_); intro A hA Q hQ; simp [*])
           | (refine Hid.h hQ _ _ _ (by decide +kernel) ?_; clear hQ hA)
           | ((first | refine RunQ.gd rfl (by rw [hA.h]; rfl) ?_ | refine RunX.gd rfl (by rw [hA.h]; rfl) ?_); simp [*])
           | fail)
          repeat (first | refine WK.seq ?_ | refine WK.block ?_ | refine WK.inBlock ?_ | refine WK.skip ?_ | refine WK.label ?_ | refine WK.scope ?_ | refine WK.inScope ?_ | refine WK.exit rfl ?_)
          refine WK.next (fun n => n) (IH (i + 1) (by omega) (by first | omega | (dsimp only; omega))) (by repeat (first | exact TmW.nil | refine TmW.upd ?_ (by simp (maxDischargeDepth := 120) [hnx, us, il]))) (by repeat (first | exact BxW.nil | refine BxW.upd ?_ (by simp (maxDischargeDepth := 120) [hnx, us, il]))) (by first | exact InjW.id | exact InjW.nil | exact InjW.one | exact InjW.two (by simp) | exact InjW.three (by simp) (by simp) (by simp))
  · have hT : l.take i = l := List.take_of_length_le (by omega)
    rw [hT]
    repeat' (first
     | refine WK.seq ?_
     | refine WK.block ?_
     | refine WK.inBlock ?_
     | refine WK.skip ?_
     | refine WK.label ?_
     | refine WK.scope ?_
     | refine WK.inScope ?_
     | refine WK.exit rfl ?_
     | refine WK.condT rfl ?_
     | refine WK.condF rfl ?_
     | (refine Hid.h hQ _ _ ?_; clear hQ hA)
     | refine WK.condAny rfl ?_ ?_
     | ((first | refine WK.cond2 rfl (fun h => ?_) (fun h => ?_) | refine Fork.mk (fun h => ?_) (fun h => ?_)) <;> (first | (simp [*] at h; done) | (have h2 := h; simp at h2; exfalso; omega) | (have h2 := h; simp at h2; try simp only [Bool.not_eq_true', Bool.not_eq_false'] at h) | skip))
     | ((first | refine WK.regH Try.ntmps101 (by kernel_rfl) ?_ | refine WK.regX (by kernel_rfl) Try.ntmps101 (by kernel_rfl) ?_); intro A hA Q hQ; simp [*])
     | (refine Hid.h hQ _ _ _ (by decide +kernel) ?_; clear hQ hA)
     | ((first | refine RunQ.gd rfl (by rw [hA.h]; rfl) ?_ | refine RunX.gd rfl (by rw [hA.h]; rfl) ?_); simp [*])
     | (refine WK.retO Try.func101 rfl rfl ?_ ?_ <;> simp (maxDischargeDepth := 120) [*])
     | fail)
end Go.Proofs.Ytbncoeoamjcjjaa
end

section
set_option linter.unusedVariables false
set_option linter.unusedSimpArgs false
namespace Go.Proofs.Ytbncoeoamjcjjaa
open Go Go.AI Go.Proofs
attribute [local irreducible] FnP FnO FnB FnT FnSeq WK RunQ RunQW RunX RunXW

theorem rofP_c (l : List Action) (k : Int) (hl : l.length ≤ 500000) : FnP Try.prog 100 [actS l, .int .i64 k] (actS (aOfK l k)) := by
  have h := (rofO_c l k hl).toP (by simp)
  rw [act_full _ _ rfl] at h
  exact h
theorem rfieldsP_c (l : List Action) (hl : l.length ≤ 500000) : FnP Try.prog 101 [actS l] (actS (aFields l)) := by
  have h := (rfieldsO_c l hl).toP (by simp)
  rw [act_full _ _ rfl] at h
  exact h
theorem rwriteP_c (set l : List Action) (hs : set.length ≤ 500000) (hl : l.length ≤ 500000) : FnP Try.prog 36 [actS set, actS l] (actS (aWrite set l)) := by
  have h := (rwriteO_c set l hs hl).toP (by simp)
  rw [act_full _ _ rfl] at h
  exact h
theorem rlistO_c (set : List Action) (hs : set.length ≤ 500000) : FnO Try.prog 38 [actS set] (aList set).length 11 (actL (aList set)) := by
  have o1 := rofO_c set 18 hs
  have o2 := rofP_c set 17 hs
  have o3 := rofP_c set 25 hs
  have o4 := rofP_c set 22 hs
  have o5 := rofP_c set 0 hs
  have b1 := aOfK_len set 18
  have b2 := aOfK_len set 17
  have b3 := aOfK_len set 25
  have b4 := aOfK_len set 22
  have b5 := aOfK_len set 0
  have o6 := rfieldsP_c (aOfK set 25) (by omega)
  have b6 := aFields_len (aOfK set 25)
  have e : aList set = aOfK set 18 ++ aOfK set 17 ++ aFields (aOfK set 25) ++ (if 0 < (aOfK set 22).length then aOfK set 22 else aOfK set 0) := rfl
  obtain ⟨A, hA⟩ : ∃ A, aOfK set 18 = A := ⟨_, rfl⟩
  obtain ⟨B, hB⟩ : ∃ B, aOfK set 17 = B := ⟨_, rfl⟩
  obtain ⟨C, hC⟩ : ∃ C, aOfK set 25 = C := ⟨_, rfl⟩
  obtain ⟨D, hD⟩ : ∃ D, aOfK set 22 = D := ⟨_, rfl⟩
  obtain ⟨E, hE⟩ : ∃ E, aOfK set 0 = E := ⟨_, rfl⟩
  simp only [hA, hB, hC, hD, hE] at o1 o2 o3 o4 o5 o6 b1 b2 b3 b4 b5 b6 e
  obtain ⟨F, hF⟩ : ∃ F, aFields C = F := ⟨_, rfl⟩
  rw [hF] at o6 b6 e
  rw [e]
  clear hA hB hC hD hE hF e
  have a1 : actL A ++ actL B = actL (A ++ B) := (actL_app A B).symm
  have l1 : A.length + B.length = (A ++ B).length := List.length_append.symm
  obtain ⟨M, hM⟩ : ∃ M, A ++ B = M := ⟨_, rfl⟩
  rw [hM] at a1 l1 ⊢
  have a2 : actL M ++ actL F = actL (M ++ F) := (actL_app M F).symm
  have l2 : M.length + F.length = (M ++ F).length := List.length_append.symm
  obtain ⟨N, hN⟩ : ∃ N, M ++ F = N := ⟨_, rfl⟩
  rw [hN] at a2 l2 ⊢
  clear hM hN
  have c1 : M.length * 88 ≤ 140737488355328 := by omega
  have c2 : N.length * 88 ≤ 140737488355328 := by omega
  unfold actS at *
  by_cases h : 0 < D.length
  · rw [if_pos h]
    have h' : (0 : Int) < D.length := by omega
    have a3 : actL N ++ actL D = actL (N ++ D) := (actL_app N D).symm
    have l3 : N.length + D.length = (N ++ D).length := List.length_append.symm
    have c3 : (N ++ D).length * 88 ≤ 140737488355328 := by omega
    obtain ⟨O, hO⟩ : ∃ O, N ++ D = O := ⟨_, rfl⟩
    rw [hO] at a3 l3 c3 ⊢
    clear hO b1 b2 b3 b4 b5 b6
    refine FnO.intro Try.func38 rfl rfl fun G w => ?_
    repeat' (first
     | refine WK.seq ?_
     | refine WK.block ?_
     | refine WK.inBlock ?_
     | refine WK.skip ?_
     | refine WK.label ?_
     | refine WK.scope ?_
     | refine WK.inScope ?_
     | refine WK.exit rfl ?_
     | refine WK.condT rfl ?_
     | refine WK.condF rfl ?_
     | (refine Hid.h hQ _ _ ?_; clear hQ hA)
     | refine WK.condAny rfl ?_ ?_
     | ((first | refine WK.cond2 rfl (fun h => ?_) (fun h => ?_)) <;> (first | (simp [*] at h; done) | (have h2 := h; simp at h2; exfalso; omega) | (have h2 := h; simp at h2; try simp only [Bool.not_eq_true', Bool.not_eq_false'] at h) | skip))
     | (refine WK.regH Try.ntmps38 (by kernel_rfl) ?_; intro A hA Q hQ; simp [*])
     | (refine RunQ.callO 900 rfl rfl rfl rfl rfl ?_ (o1) ?_ ?_ ?_ ?_; (focus (simp (maxDischargeDepth := 120) [*]; done)); (focus (simp [*]; done)); (focus (simp [*]; done)); (focus (simp [*]; done)); refine RunQ.evalH ?_; simp [*])
     | (refine RunQ.append 901 appAct rfl rfl rfl rfl rfl rfl rfl rfl rfl ?_ ?_ ?_ ?_ ?_; (focus (first | omega | (simp [*]; done); done)); (focus (first | omega | (simp [*]; done); done)); (focus (first | omega | (simp [*]; done); done)); (focus (first | omega | (simp [*]; done); done)); refine RunQ.evalH ?_; simp [*])
     | (refine RunQ.append 902 appAct rfl rfl rfl rfl rfl rfl rfl rfl rfl ?_ ?_ ?_ ?_ ?_; (focus (first | omega | (simp [*]; done); done)); (focus (first | omega | (simp [*]; done); done)); (focus (first | omega | (simp [*]; done); done)); (focus (first | omega | (simp [*]; done); done)); refine RunQ.evalH ?_; simp [*])
     | (refine RunQ.append 903 appAct rfl rfl rfl rfl rfl rfl rfl rfl rfl ?_ ?_ ?_ ?_ ?_; (focus (first | omega | (simp [*]; done); done)); (focus (first | omega | (simp [*]; done); done)); (focus (first | omega | (simp [*]; done); done)); (focus (first | omega | (simp [*]; done); done)); refine RunQ.evalH ?_; simp [*])
     | ((first | (refine RunQ.call rfl rfl rfl rfl rfl ?_ (o2) ?_ ?_; (focus (simp (maxDischargeDepth := 120) [*]; done))) | (refine RunQ.call rfl rfl rfl rfl rfl ?_ (o3) ?_ ?_; (focus (simp (maxDischargeDepth := 120) [*]; done))) | (refine RunQ.call rfl rfl rfl rfl rfl ?_ (o4) ?_ ?_; (focus (simp (maxDischargeDepth := 120) [*]; done))) | (refine RunQ.call rfl rfl rfl rfl rfl ?_ (o6) ?_ ?_; (focus (simp (maxDischargeDepth := 120) [*]; done)))); (focus (simp [*]; done)); refine RunQ.evalH ?_; simp [*])
     | (refine WK.retO Try.func38 rfl rfl ?_ ?_ <;> simp (maxDischargeDepth := 120) [*])
     | fail)
  · rw [if_neg h]
    have h' : D.length = 0 := by omega
    have a3 : actL N ++ actL E = actL (N ++ E) := (actL_app N E).symm
    have l3 : N.length + E.length = (N ++ E).length := List.length_append.symm
    have c3 : (N ++ E).length * 88 ≤ 140737488355328 := by omega
    obtain ⟨O, hO⟩ : ∃ O, N ++ E = O := ⟨_, rfl⟩
    rw [hO] at a3 l3 c3 ⊢
    clear hO b1 b2 b3 b4 b5 b6 h
    refine FnO.intro Try.func38 rfl rfl fun G w => ?_
    repeat' (first
     | refine WK.seq ?_
     | refine WK.block ?_
     | refine WK.inBlock ?_
     | refine WK.skip ?_
     | refine WK.label ?_
     | refine WK.scope ?_
     | refine WK.inScope ?_
     | refine WK.exit rfl ?_
     | refine WK.condT rfl ?_
     | refine WK.condF rfl ?_
     | (refine Hid.h hQ _ _ ?_; clear hQ hA)
     | refine WK.condAny rfl ?_ ?_
     | ((first | refine WK.cond2 rfl (fun h => ?_) (fun h => ?_)) <;> (first | (simp [*] at h; done) | (have h2 := h; simp at h2; exfalso; omega) | (have h2 := h; simp at h2; try simp only [Bool.not_eq_true', Bool.not_eq_false'] at h) | skip))
     | (refine WK.regH Try.ntmps38 (by kernel_rfl) ?_; intro A hA Q hQ; simp [*])
     | (refine RunQ.callO 900 rfl rfl rfl rfl rfl ?_ (o1) ?_ ?_ ?_ ?_; (focus (simp (maxDischargeDepth := 120) [*]; done)); (focus (simp [*]; done)); (focus (simp [*]; done)); (focus (simp [*]; done)); refine RunQ.evalH ?_; simp [*])
     | (refine RunQ.append 901 appAct rfl rfl rfl rfl rfl rfl rfl rfl rfl ?_ ?_ ?_ ?_ ?_; (focus (first | omega | (simp [*]; done); done)); (focus (first | omega | (simp [*]; done); done)); (focus (first | omega | (simp [*]; done); done)); (focus (first | omega | (simp [*]; done); done)); refine RunQ.evalH ?_; simp [*])
     | (refine RunQ.append 902 appAct rfl rfl rfl rfl rfl rfl rfl rfl rfl ?_ ?_ ?_ ?_ ?_; (focus (first | omega | (simp [*]; done); done)); (focus (first | omega | (simp [*]; done); done)); (focus (first | omega | (simp [*]; done); done)); (focus (first | omega | (simp [*]; done); done)); refine RunQ.evalH ?_; simp [*])
     | (refine RunQ.append 903 appAct rfl rfl rfl rfl rfl rfl rfl rfl rfl ?_ ?_ ?_ ?_ ?_; (focus (first | omega | (simp [*]; done); done)); (focus (first | omega | (simp [*]; done); done)); (focus (first | omega | (simp [*]; done); done)); (focus (first | omega | (simp [*]; done); done)); refine RunQ.evalH ?_; simp [*])
     | ((first | (refine RunQ.call rfl rfl rfl rfl rfl ?_ (o2) ?_ ?_; (focus (simp (maxDischargeDepth := 120) [*]; done))) | (refine RunQ.call rfl rfl rfl rfl rfl ?_ (o3) ?_ ?_; (focus (simp (maxDischargeDepth := 120) [*]; done))) | (refine RunQ.call rfl rfl rfl rfl rfl ?_ (o4) ?_ ?_; (focus (simp (maxDischargeDepth := 120) [*]; done))) | (refine RunQ.call rfl rfl rfl rfl rfl ?_ (o5) ?_ ?_; (focus (simp (maxDischargeDepth := 120) [*]; done))) | (refine RunQ.call rfl rfl rfl rfl rfl ?_ (o6) ?_ ?_; (focus (simp (maxDischargeDepth := 120) [*]; done)))); (focus (simp [*]; done)); refine RunQ.evalH ?_; simp [*])
     | (refine WK.retO Try.func38 rfl rfl ?_ ?_ <;> simp (maxDischargeDepth := 120) [*])
     | fail)
theorem rlistP_c (set : List Action) (hs : set.length ≤ 500000) : FnP Try.prog 38 [actS set] (actS (aList set)) := by
  have h := (rlistO_c set hs).toP (by simp)
  rw [act_full _ _ rfl] at h
  exact h
theorem asetTells_c (s l : List Action) (a : Action) : FnP Try.prog 7 [actS s, actS l, .agg a.enc] (.bool true) := by
  by_cases h1 : 60 < s.length
  · have h1' : (60 : Int) < s.length := by omega
    unfold actS
    refine FnP.intro Try.func7 rfl rfl fun G w => ?_
    repeat' (first
     | refine WK.seq ?_
     | refine WK.block ?_
     | refine WK.inBlock ?_
     | refine WK.skip ?_
     | refine WK.label ?_
     | refine WK.scope ?_
     | refine WK.inScope ?_
     | refine WK.exit rfl ?_
     | refine WK.condT rfl ?_
     | refine WK.condF rfl ?_
     | (refine Hid.h hQ _ _ ?_; clear hQ hA)
     | refine WK.condAny rfl ?_ ?_
     | ((first | refine WK.cond2 rfl (fun h => ?_) (fun h => ?_) | refine Fork.mk (fun h => ?_) (fun h => ?_)) <;> (first | (simp [*] at h; done) | (have h2 := h; simp at h2; exfalso; omega) | (have h2 := h; simp at h2; try simp only [Bool.not_eq_true', Bool.not_eq_false'] at h) | skip))
     | ((first | refine WK.regH Try.ntmps7 (by kernel_rfl) ?_ | refine WK.regX (by kernel_rfl) Try.ntmps7 (by kernel_rfl) ?_); intro A hA Q hQ; simp [*])
     | (refine Hid.h hQ _ _ _ (by decide +kernel) ?_; clear hQ hA)
     | ((first | refine RunQ.gd rfl (by rw [hA.h]; rfl) ?_ | refine RunX.gd rfl (by rw [hA.h]; rfl) ?_); simp [*])
     | (((first | refine RunQ.call rfl rfl rfl rfl rfl ?_ (awake28_c) ?_ ?_ | refine RunQW.call rfl rfl rfl rfl ?_ (awake28_c) ?_ ?_ | refine RunX.call rfl rfl rfl rfl ?_ (awake28_c) ?_ ?_ | refine RunXW.call rfl rfl rfl ?_ (awake28_c) ?_ ?_); (focus (simp (maxDischargeDepth := 120) [*]; done))); (focus (simp [*]; done)); (first | refine RunQ.evalH ?_ | refine RunX.evalY ?_); simp [*])
     | (refine WK.ret Try.func7 ?_ ?_ <;> simp (maxDischargeDepth := 120) [Try.results7, *])
     | fail)
  have h1' : ¬ (60 : Int) < s.length := by omega
  by_cases h2 : 60 < l.length
  · have h2' : (60 : Int) < l.length := by omega
    unfold actS
    refine FnP.intro Try.func7 rfl rfl fun G w => ?_
    repeat' (first
     | refine WK.seq ?_
     | refine WK.block ?_
     | refine WK.inBlock ?_
     | refine WK.skip ?_
     | refine WK.label ?_
     | refine WK.scope ?_
     | refine WK.inScope ?_
     | refine WK.exit rfl ?_
     | refine WK.condT rfl ?_
     | refine WK.condF rfl ?_
     | (refine Hid.h hQ _ _ ?_; clear hQ hA)
     | refine WK.condAny rfl ?_ ?_
     | ((first | refine WK.cond2 rfl (fun h => ?_) (fun h => ?_) | refine Fork.mk (fun h => ?_) (fun h => ?_)) <;> (first | (simp [*] at h; done) | (have h2 := h; simp at h2; exfalso; omega) | (have h2 := h; simp at h2; try simp only [Bool.not_eq_true', Bool.not_eq_false'] at h) | skip))
     | ((first | refine WK.regH Try.ntmps7 (by kernel_rfl) ?_ | refine WK.regX (by kernel_rfl) Try.ntmps7 (by kernel_rfl) ?_); intro A hA Q hQ; simp [*])
     | (refine Hid.h hQ _ _ _ (by decide +kernel) ?_; clear hQ hA)
     | ((first | refine RunQ.gd rfl (by rw [hA.h]; rfl) ?_ | refine RunX.gd rfl (by rw [hA.h]; rfl) ?_); simp [*])
     | (((first | refine RunQ.call rfl rfl rfl rfl rfl ?_ (awake28_c) ?_ ?_ | refine RunQW.call rfl rfl rfl rfl ?_ (awake28_c) ?_ ?_ | refine RunX.call rfl rfl rfl rfl ?_ (awake28_c) ?_ ?_ | refine RunXW.call rfl rfl rfl ?_ (awake28_c) ?_ ?_); (focus (simp (maxDischargeDepth := 120) [*]; done))); (focus (simp [*]; done)); (first | refine RunQ.evalH ?_ | refine RunX.evalY ?_); simp [*])
     | (refine WK.ret Try.func7 ?_ ?_ <;> simp (maxDischargeDepth := 120) [Try.results7, *])
     | fail)
  have h2' : ¬ (60 : Int) < l.length := by omega
  have n1 := (aWrite_len s l).2
  have p1 := awriteP_c s l (by omega) (by omega)
  have p2 := rwriteP_c s l (by omega) (by omega)
  have q1 := alistP_c s (by omega)
  have q2 := rlistP_c s (by omega)
  have r1 := arw_c a
  have r2 := r28rw_c a
  have ll := aList_len s (by omega)
  have ll2 : (aKept s).length ≤ s.length := List.length_filter_le _ _
  obtain ⟨S, hS⟩ : ∃ S, aWrite s l = S := ⟨_, rfl⟩
  obtain ⟨R, hR⟩ : ∃ R, aList s = R := ⟨_, rfl⟩
  obtain ⟨C, hC⟩ : ∃ C, aRw a = C := ⟨_, rfl⟩
  rw [hS] at p1 p2 n1
  rw [hR] at q1 q2 ll
  rw [hC] at r1 r2
  have e1 := aequal_c S S (by omega)
  have e2 := aequal_c R R (by omega)
  rw [eqBy_selfA] at e1 e2
  have hce : cubeEq C C = true := by unfold cubeEq; simp
  clear hS hR hC n1 ll ll2
  unfold actS at *
  refine FnP.intro Try.func7 rfl rfl fun G w => ?_
  repeat' (first
   | refine WK.seq ?_
   | refine WK.block ?_
   | refine WK.inBlock ?_
   | refine WK.skip ?_
   | refine WK.label ?_
   | refine WK.scope ?_
   | refine WK.inScope ?_
   | refine WK.exit rfl ?_
   | refine WK.condT rfl ?_
   | refine WK.condF rfl ?_
   | (refine Hid.h hQ _ _ ?_; clear hQ hA)
   | refine WK.condAny rfl ?_ ?_
   | ((first | refine WK.cond2 rfl (fun h => ?_) (fun h => ?_) | refine Fork.mk (fun h => ?_) (fun h => ?_)) <;> (first | (simp [*] at h; done) | (have h2 := h; simp at h2; exfalso; omega) | (have h2 := h; simp at h2; try simp only [Bool.not_eq_true', Bool.not_eq_false'] at h) | skip))
   | ((first | refine WK.regH Try.ntmps7 (by kernel_rfl) ?_ | refine WK.regX (by kernel_rfl) Try.ntmps7 (by kernel_rfl) ?_); intro A hA Q hQ; simp [*])
   | (refine Hid.h hQ _ _ _ (by decide +kernel) ?_; clear hQ hA)
   | ((first | refine RunQ.gd rfl (by rw [hA.h]; rfl) ?_ | refine RunX.gd rfl (by rw [hA.h]; rfl) ?_); simp [*])
   | ((first | ((first | refine RunQ.call rfl rfl rfl rfl rfl ?_ (p1) ?_ ?_ | refine RunQW.call rfl rfl rfl rfl ?_ (p1) ?_ ?_ | refine RunX.call rfl rfl rfl rfl ?_ (p1) ?_ ?_ | refine RunXW.call rfl rfl rfl ?_ (p1) ?_ ?_); (focus (simp (maxDischargeDepth := 120) [*]; done))) | ((first | refine RunQ.call rfl rfl rfl rfl rfl ?_ (p2) ?_ ?_ | refine RunQW.call rfl rfl rfl rfl ?_ (p2) ?_ ?_ | refine RunX.call rfl rfl rfl rfl ?_ (p2) ?_ ?_ | refine RunXW.call rfl rfl rfl ?_ (p2) ?_ ?_); (focus (simp (maxDischargeDepth := 120) [*]; done))) | ((first | refine RunQ.call rfl rfl rfl rfl rfl ?_ (q1) ?_ ?_ | refine RunQW.call rfl rfl rfl rfl ?_ (q1) ?_ ?_ | refine RunX.call rfl rfl rfl rfl ?_ (q1) ?_ ?_ | refine RunXW.call rfl rfl rfl ?_ (q1) ?_ ?_); (focus (simp (maxDischargeDepth := 120) [*]; done))) | ((first | refine RunQ.call rfl rfl rfl rfl rfl ?_ (q2) ?_ ?_ | refine RunQW.call rfl rfl rfl rfl ?_ (q2) ?_ ?_ | refine RunX.call rfl rfl rfl rfl ?_ (q2) ?_ ?_ | refine RunXW.call rfl rfl rfl ?_ (q2) ?_ ?_); (focus (simp (maxDischargeDepth := 120) [*]; done))) | ((first | refine RunQ.call rfl rfl rfl rfl rfl ?_ (e1) ?_ ?_ | refine RunQW.call rfl rfl rfl rfl ?_ (e1) ?_ ?_ | refine RunX.call rfl rfl rfl rfl ?_ (e1) ?_ ?_ | refine RunXW.call rfl rfl rfl ?_ (e1) ?_ ?_); (focus (simp (maxDischargeDepth := 120) [*]; done))) | ((first | refine RunQ.call rfl rfl rfl rfl rfl ?_ (e2) ?_ ?_ | refine RunQW.call rfl rfl rfl rfl ?_ (e2) ?_ ?_ | refine RunX.call rfl rfl rfl rfl ?_ (e2) ?_ ?_ | refine RunXW.call rfl rfl rfl ?_ (e2) ?_ ?_); (focus (simp (maxDischargeDepth := 120) [*]; done))) | ((first | refine RunQ.call rfl rfl rfl rfl rfl ?_ (r1) ?_ ?_ | refine RunQW.call rfl rfl rfl rfl ?_ (r1) ?_ ?_ | refine RunX.call rfl rfl rfl rfl ?_ (r1) ?_ ?_ | refine RunXW.call rfl rfl rfl ?_ (r1) ?_ ?_); (focus (simp (maxDischargeDepth := 120) [*]; done))) | ((first | refine RunQ.call rfl rfl rfl rfl rfl ?_ (r2) ?_ ?_ | refine RunQW.call rfl rfl rfl rfl ?_ (r2) ?_ ?_ | refine RunX.call rfl rfl rfl rfl ?_ (r2) ?_ ?_ | refine RunXW.call rfl rfl rfl ?_ (r2) ?_ ?_); (focus (simp (maxDischargeDepth := 120) [*]; done))) | ((first | refine RunQ.call rfl rfl rfl rfl rfl ?_ (awake28_c) ?_ ?_ | refine RunQW.call rfl rfl rfl rfl ?_ (awake28_c) ?_ ?_ | refine RunX.call rfl rfl rfl rfl ?_ (awake28_c) ?_ ?_ | refine RunXW.call rfl rfl rfl ?_ (awake28_c) ?_ ?_); (focus (simp (maxDischargeDepth := 120) [*]; done)))); (focus (simp [*]; done)); (first | refine RunQ.evalH ?_ | refine RunX.evalY ?_); simp [*])
   | (refine WK.ret Try.func7 ?_ ?_ <;> simp (maxDischargeDepth := 120) [Try.results7, *])
   | fail)
end Go.Proofs.Ytbncoeoamjcjjaa
end
