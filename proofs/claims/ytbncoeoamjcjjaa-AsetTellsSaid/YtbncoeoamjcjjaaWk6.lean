/- Sets of actions: written. -/
import Derived.Test.YtbncoeoamjcjjaaWk5
set_option linter.all false
set_option linter.unnecessarySimpa false
section
set_option linter.unusedVariables false
set_option linter.unusedSimpArgs false
namespace Go.Proofs.Ytbncoeoamjcjjaa
open Go Go.AI Go.Proofs
attribute [local irreducible] FnP FnO FnB FnT FnSeq WK RunQ RunQW RunX RunXW

def aSpot (a : Action) : Int × Int := (a.kind, if a.kind = 25 then a.oxm.field else 0)
def aLike (a b : Action) : Bool := aSpot a == aSpot b
def aPut (out : List Action) (a : Action) : List Action := match out.findIdx? (aLike a) with | some i => out.set i a | none => out ++ [a]
def aWrite (set l : List Action) : List Action := l.foldl aPut set
theorem aWrite_succ {set l : List Action} {i : Nat} (h : i < l.length) : aWrite set (l.take (i + 1)) = aPut (aWrite set (l.take i)) (nth l i) := by
  unfold aWrite; rw [take_nth h, List.foldl_append]; rfl
theorem aPut_len (out : List Action) (a : Action) : out.length ≤ (aPut out a).length ∧ (aPut out a).length ≤ out.length + 1 := by
  unfold aPut; split <;> simp
theorem aWrite_len (set l : List Action) : set.length ≤ (aWrite set l).length ∧ (aWrite set l).length ≤ set.length + l.length := by
  unfold aWrite
  induction l generalizing set with
  | nil => simp
  | cons a l ih =>
    have h1 := ih (aPut set a)
    have h2 := aPut_len set a
    rw [List.foldl_cons, List.length_cons]; omega
theorem aat_c (a : Action) : FnP Try.prog 68 [.agg a.enc] (.agg [.int .i64 (aSpot a).1, .int .i64 (aSpot a).2]) := by
  refine FnP.intro Try.func68 rfl rfl fun G w => ?_
  repeat' (first
   | refine WK.seq ?_
   | refine WK.block ?_
   | refine WK.inBlock ?_
   | refine WK.skip ?_
   | refine WK.label ?_
   | refine WK.scope ?_
   | refine WK.inScope ?_
   | refine WK.exit rfl ?_
   | refine WK.condT rfl ?_
   | refine WK.condF rfl ?_
   | (refine Hid.h hQ _ _ ?_; clear hQ hA)
   | refine WK.condAny rfl ?_ ?_
   | ((first | refine WK.cond2 rfl (fun h => ?_) (fun h => ?_)) <;> (first | (simp [*] at h; done) | (have h2 := h; simp at h2; exfalso; omega) | (have h2 := h; simp at h2; try simp only [Bool.not_eq_true', Bool.not_eq_false'] at h) | skip))
   | (refine WK.regH Try.ntmps68 (by kernel_rfl) ?_; intro A hA Q hQ; simp [Action.enc, *])
   | (refine WK.ret Try.func68 ?_ ?_ <;> simp (maxDischargeDepth := 120) [Try.results68, Action.enc, aSpot, *])
   | fail)
theorem awrite1_c (a b : Action) : FnP Try.prog 67 [.agg b.enc, .iptr a.enc] (.bool (aLike a b)) := by
  have e : aLike a b = ((aSpot a).1 == (aSpot b).1 && (aSpot a).2 == (aSpot b).2) := by unfold aLike; rfl
  refine FnP.intro Try.func67 rfl rfl fun G w => ?_
  repeat' (first
   | refine WK.seq ?_
   | refine WK.block ?_
   | refine WK.inBlock ?_
   | refine WK.skip ?_
   | refine WK.label ?_
   | refine WK.scope ?_
   | refine WK.inScope ?_
   | refine WK.exit rfl ?_
   | refine WK.condT rfl ?_
   | refine WK.condF rfl ?_
   | (refine Hid.h hQ _ _ ?_; clear hQ hA)
   | refine WK.condAny rfl ?_ ?_
   | ((first | refine WK.cond2 rfl (fun h => ?_) (fun h => ?_)) <;> (first | (simp [*] at h; done) | (have h2 := h; simp at h2; exfalso; omega) | (have h2 := h; simp at h2; try simp only [Bool.not_eq_true', Bool.not_eq_false'] at h) | skip))
   | ((first | refine WK.regH Try.ntmps67 (by kernel_rfl) ?_ | refine WK.regX (by kernel_rfl) Try.ntmps67 (by kernel_rfl) ?_); intro A hA Q hQ; simp [*])
   | (refine Hid.h hQ _ _ _ (by decide +kernel) ?_; clear hQ hA)
   | ((first | ((first | refine RunQ.call rfl rfl rfl rfl rfl ?_ (aat_c a) ?_ ?_ | refine RunX.call rfl rfl rfl rfl ?_ (aat_c a) ?_ ?_); (focus (simp (maxDischargeDepth := 120) [*]; done))) | ((first | refine RunQ.call rfl rfl rfl rfl rfl ?_ (aat_c b) ?_ ?_ | refine RunX.call rfl rfl rfl rfl ?_ (aat_c b) ?_ ?_); (focus (simp (maxDischargeDepth := 120) [*]; done)))); (focus (simp [*]; done)); (first | refine RunQ.evalH ?_ | refine RunX.evalY ?_); simp [*])
   | (refine WK.ret Try.func67 ?_ ?_ <;> simp (maxDischargeDepth := 120) [Try.results67, *])
   | fail)
theorem clone_actO (l : List Action) (hl : l.length ≤ 1000000) : FnO Try.prog 41 [actS l] l.length 11 (actL l) := by
  have hb : l.length * 88 ≤ 140737488355328 := by omega
  unfold actS
  cases l with
  | nil =>
    refine FnO.intro Try.func41 rfl rfl fun G w => ?_
    repeat' (first
     | refine WK.seq ?_
     | refine WK.block ?_
     | refine WK.inBlock ?_
     | refine WK.skip ?_
     | refine WK.label ?_
     | refine WK.scope ?_
     | refine WK.inScope ?_
     | refine WK.exit rfl ?_
     | refine WK.condT rfl ?_
     | refine WK.condF rfl ?_
     | (refine Hid.h hQ _ _ ?_; clear hQ hA)
     | refine WK.condAny rfl ?_ ?_
     | ((first | refine WK.cond2 rfl (fun h => ?_) (fun h => ?_)) <;> (first | (simp [*] at h; done) | (have h2 := h; simp at h2; exfalso; omega) | (have h2 := h; simp at h2; try simp only [Bool.not_eq_true', Bool.not_eq_false'] at h) | skip))
     | (refine WK.regH Try.ntmps41 (by kernel_rfl) ?_; intro A hA Q hQ; simp [*])
     | fail)
    · repeat (first | refine WK.seq ?_ | refine WK.block ?_ | refine WK.inBlock ?_ | refine WK.skip ?_ | refine WK.label ?_ | refine WK.scope ?_ | refine WK.inScope ?_ | refine WK.exit rfl ?_)
      refine WK.ghost (Ghost.own 2 900 11 rfl rfl) ?_
      repeat (first | refine WK.seq ?_ | refine WK.block ?_ | refine WK.inBlock ?_ | refine WK.skip ?_ | refine WK.label ?_ | refine WK.scope ?_ | refine WK.inScope ?_ | refine WK.exit rfl ?_)
      refine WK.retO Try.func41 (by rfl) (by rfl) (by simp (maxDischargeDepth := 120) [actL_nil]) (by simp [actL_nil])
    · repeat' (first
       | refine WK.seq ?_
       | refine WK.block ?_
       | refine WK.inBlock ?_
       | refine WK.skip ?_
       | refine WK.label ?_
       | refine WK.scope ?_
       | refine WK.inScope ?_
       | refine WK.exit rfl ?_
       | refine WK.condT rfl ?_
       | refine WK.condF rfl ?_
       | (refine Hid.h hQ _ _ ?_; clear hQ hA)
       | refine WK.condAny rfl ?_ ?_
       | ((first | refine WK.cond2 rfl (fun h => ?_) (fun h => ?_)) <;> (first | (simp [*] at h; done) | (have h2 := h; simp at h2; exfalso; omega) | (have h2 := h; simp at h2; try simp only [Bool.not_eq_true', Bool.not_eq_false'] at h) | skip))
       | (refine WK.regH Try.ntmps41 (by kernel_rfl) ?_; intro A hA Q hQ; simp [*])
       | (refine RunQ.append0 900 901 appAct rfl rfl rfl rfl rfl rfl rfl ?_ rfl ?_ ?_ ?_ ?_ ?_ ?_; (focus (simp [*]; done)); (focus (first | omega | (simp [*]; done); done)); (focus (first | omega | (simp [*]; done); done)); (focus (simp [*]; done)); (focus (simp [*]; done)); (focus (simp [*]; done)); refine RunQ.evalH ?_; simp [*])
       | (refine WK.retO Try.func41 rfl rfl ?_ ?_ <;> simp (maxDischargeDepth := 120) [actL_nil, *])
       | fail)
  | cons x l =>
    have e : (actL (x :: l)).take ((l.length + 1) * 11) = actL (x :: l) := List.take_of_length_le (by simp)
    simp only [List.length_cons] at hl hb ⊢
    refine FnO.intro Try.func41 rfl rfl fun G w => ?_
    repeat' (first
     | refine WK.seq ?_
     | refine WK.block ?_
     | refine WK.inBlock ?_
     | refine WK.skip ?_
     | refine WK.label ?_
     | refine WK.scope ?_
     | refine WK.inScope ?_
     | refine WK.exit rfl ?_
     | refine WK.condT rfl ?_
     | refine WK.condF rfl ?_
     | (refine Hid.h hQ _ _ ?_; clear hQ hA)
     | refine WK.condAny rfl ?_ ?_
     | ((first | refine WK.cond2 rfl (fun h => ?_) (fun h => ?_)) <;> (first | (simp [*] at h; done) | (have h2 := h; simp at h2; exfalso; omega) | (have h2 := h; simp at h2; try simp only [Bool.not_eq_true', Bool.not_eq_false'] at h) | skip))
     | (refine WK.regH Try.ntmps41 (by kernel_rfl) ?_; intro A hA Q hQ; simp [*])
     | (refine RunQ.append0 900 901 appAct rfl rfl rfl rfl rfl rfl rfl ?_ rfl ?_ ?_ ?_ ?_ ?_ ?_; (focus (simp [*]; done)); (focus (first | omega | (simp [*]; done); done)); (focus (first | omega | (simp [*]; done); done)); (focus (simp [*]; done)); (focus (simp [*]; done)); (focus (simp [*]; done)); refine RunQ.evalH ?_; simp [*])
     | (refine WK.retO Try.func41 rfl rfl ?_ ?_ <;> simp (maxDischargeDepth := 120) [*])
     | fail)
set_option maxHeartbeats 4000000 in
theorem awriteO_c (set l : List Action) (hs : set.length ≤ 500000) (hl : l.length ≤ 500000) : FnO Try.prog 16 [actS set, actS l] (aWrite set l).length 11 (actL (aWrite set l)) := by
  have hc := clone_actO set (by omega)
  unfold actS at *
  refine FnO.intro Try.func16 rfl rfl fun G w => ?_
  repeat' (first
   | refine WK.seq ?_
   | refine WK.block ?_
   | refine WK.inBlock ?_
   | refine WK.skip ?_
   | refine WK.label ?_
   | refine WK.scope ?_
   | refine WK.inScope ?_
   | refine WK.exit rfl ?_
   | refine WK.condT rfl ?_
   | refine WK.condF rfl ?_
   | (refine Hid.h hQ _ _ ?_; clear hQ hA)
   | refine WK.condAny rfl ?_ ?_
   | ((first | refine WK.cond2 rfl (fun h => ?_) (fun h => ?_)) <;> (first | (simp [*] at h; done) | (have h2 := h; simp at h2; exfalso; omega) | (have h2 := h; simp at h2; try simp only [Bool.not_eq_true', Bool.not_eq_false'] at h) | skip))
   | (refine WK.regH Try.ntmps16 (by kernel_rfl) ?_; intro A hA Q hQ; simp [*])
   | (refine RunQ.callO 900 rfl rfl rfl rfl rfl ?_ (hc) ?_ ?_ ?_ ?_; (focus (simp (maxDischargeDepth := 120) [*]; done)); (focus (simp [*]; done)); (focus (simp [*]; done)); (focus (simp [*]; done)); refine RunQ.evalH ?_; simp [*])
   | fail)
  repeat (first | refine WK.seq ?_ | refine WK.block ?_ | refine WK.inBlock ?_ | refine WK.skip ?_ | refine WK.label ?_ | refine WK.scope ?_ | refine WK.inScope ?_ | refine WK.exit rfl ?_)
  refine WK.loopI (fun n => if n = 1 then 900 else n) (fun i : Nat => (⟨(upd (upd (upd (upd (upd J 1 (.sl false l.length (actL l))) 5 (.msl 1 0 (aWrite set (l.take i)).length)) 11 (.sl false l.length (actL l))) 12 (.int .i64 l.length)) 13 (.int .i64 i)), (upd B0 1 (.buf 11 (actL (aWrite set (l.take i))))), 0⟩ : St)) (fun i => i ≤ l.length) (fun i => l.length - i) (0) (by repeat (first | exact TmW.nil | refine TmW.upd ?_ (by simp (maxDischargeDepth := 120) [aWrite]))) (by repeat (first | exact BxW.nil | refine BxW.upd ?_ (by simp (maxDischargeDepth := 120) [aWrite]))) (by first | exact InjW.id | exact InjW.nil | exact InjW.one | exact InjW.two (by simp) | exact InjW.three (by simp) (by simp) (by simp)) (Nat.zero_le _) (fun i hi IH => ?_)
  have hln := aWrite_len set (l.take i)
  have htl : (l.take i).length ≤ l.length := List.length_take_le' _ _
  by_cases h1 : i < l.length
  · obtain ⟨h4, h3⟩ := act_load l i h1
    have h6 : IntKind.i64.wrap ((i : Int) + 1) = i + 1 := wrap_i64 (by omega) (by omega)
    have hnx := aWrite_succ (set := set) h1
    obtain ⟨W, hW⟩ : ∃ W, aWrite set (l.take i) = W := ⟨_, rfl⟩
    obtain ⟨x, hx⟩ : ∃ x, nth l i = x := ⟨_, rfl⟩
    rw [hx] at h4 hnx
    rw [hW] at hln hnx ⊢
    have hix := indexB_act 67 [.iptr x.enc] (aLike x) W (by simp) (by omega) (fun y _ => awrite1_c x y)
    have hWl : W.length ≤ 1000000 := by omega
    clear hW hx
    repeat' (first
     | refine WK.seq ?_
     | refine WK.block ?_
     | refine WK.inBlock ?_
     | refine WK.skip ?_
     | refine WK.label ?_
     | refine WK.scope ?_
     | refine WK.inScope ?_
     | refine WK.exit rfl ?_
     | refine WK.condT rfl ?_
     | refine WK.condF rfl ?_
     | (refine Hid.h hQ _ _ ?_; clear hQ hA)
     | refine WK.condAny rfl ?_ ?_
     | ((first | refine WK.cond2 rfl (fun h => ?_) (fun h => ?_)) <;> (first | (simp [*] at h; done) | (have h2 := h; simp at h2; exfalso; omega) | (have h2 := h; simp at h2; try simp only [Bool.not_eq_true', Bool.not_eq_false'] at h) | skip))
     | ((first | refine WK.regH (id := 0) Try.ntmps16 (by kernel_rfl) ?_ | refine WK.regH (id := 1) Try.ntmps16 (by kernel_rfl) ?_ | refine WK.regH (id := 2) Try.ntmps16 (by kernel_rfl) ?_ | refine WK.regH (id := 3) Try.ntmps16 (by kernel_rfl) ?_ | refine WK.regH (id := 4) Try.ntmps16 (by kernel_rfl) ?_); intro A hA Q hQ; simp [*])
     | fail)
    repeat (first | refine WK.seq ?_ | refine WK.block ?_ | refine WK.inBlock ?_ | refine WK.skip ?_ | refine WK.label ?_ | refine WK.scope ?_ | refine WK.inScope ?_ | refine WK.exit rfl ?_)
    refine WK.ghost (Ghost.frzVar 7 rfl rfl) ?_
    rcases idx_cases (aLike x) W with ⟨e, hn⟩ | ⟨j, hj, e, hp, hn⟩
    · have hput : aPut W x = W ++ [x] := by
        unfold aPut
        have : W.findIdx? (aLike x) = none := by
          rw [List.findIdx?_eq_none_iff]; intro y hy
          obtain ⟨j, hj, rfl⟩ := mem_nth hy
          exact hn j hj
        rw [this]
      have hsn : actL W ++ x.enc = actL (W ++ [x]) := by rw [actL_app]; simp [actL]
      have hbd : (W.length + 1) * 88 ≤ 140737488355328 := by omega
      rw [e] at hix
      rw [hput] at hnx
      clear e hn hput
      repeat' (first
       | refine WK.seq ?_
       | refine WK.block ?_
       | refine WK.inBlock ?_
       | refine WK.skip ?_
       | refine WK.label ?_
       | refine WK.scope ?_
       | refine WK.inScope ?_
       | refine WK.exit rfl ?_
       | refine WK.condT rfl ?_
       | refine WK.condF rfl ?_
       | (refine Hid.h hQ _ _ ?_; clear hQ hA)
       | refine WK.condAny rfl ?_ ?_
       | ((first | refine WK.cond2 rfl (fun h => ?_) (fun h => ?_)) <;> (first | (simp [*] at h; done) | (have h2 := h; simp at h2; exfalso; omega) | (have h2 := h; simp at h2; try simp only [Bool.not_eq_true', Bool.not_eq_false'] at h) | skip))
       | (refine WK.regH Try.ntmps16 (by kernel_rfl) ?_; intro A hA Q hQ; simp [*])
       | (refine RunQ.callB 1 rfl rfl rfl rfl rfl (hix) ?_ ?_ rfl rfl ?_ ?_ ?_; (focus (simp (maxDischargeDepth := 120) [*]; done)); (focus (simp (maxDischargeDepth := 120) [*]; done)); (focus (simp [*]; done)); (focus (simp [*]; done)); refine RunQ.evalH ?_; simp [*])
       | (refine RunQ.append 902 appAct rfl rfl rfl rfl rfl rfl rfl rfl rfl ?_ ?_ ?_ ?_ ?_; (focus (first | omega | (simp [*]; done); done)); (focus (first | omega | (simp [*]; done); done)); (focus (first | omega | (simp [*]; done); done)); (focus (first | omega | (simp [*]; done); done)); refine RunQ.evalH ?_; simp [*])
       | fail)
      repeat (first | refine WK.seq ?_ | refine WK.block ?_ | refine WK.inBlock ?_ | refine WK.skip ?_ | refine WK.label ?_ | refine WK.scope ?_ | refine WK.inScope ?_ | refine WK.exit rfl ?_)
      refine WK.next (fun n => if n = 1 then 902 else n) (IH (i + 1) (by omega) (by first | omega | (dsimp only; omega))) (by repeat (first | exact TmW.nil | refine TmW.upd ?_ (by simp (maxDischargeDepth := 120) [hnx, hsn]))) (by repeat (first | exact BxW.nil | refine BxW.upd ?_ (by simp (maxDischargeDepth := 120) [hnx, hsn]))) (by first | exact InjW.id | exact InjW.nil | exact InjW.one | exact InjW.two (by simp) | exact InjW.three (by simp) (by simp) (by simp))
    · have hput : aPut W x = W.set j x := by
        unfold aPut
        have : W.findIdx? (aLike x) = some j := by
          rw [List.findIdx?_eq_some_iff_getElem]
          refine ⟨hj, by rw [← nth_eq hj]; exact hp, fun k hk => ?_⟩
          have := hn k hk
          rw [nth_eq (by omega)] at this
          simp [this]
        rw [this]
      have hsn := actL_set W j x hj
      have hb1 : j * 11 + 11 ≤ W.length * 11 := by omega
      have hb2 : (j : Int) < W.length := by omega
      have hj0 : ¬ (j : Int) < 0 := by omega
      have hls : (W.set j x).length = W.length := List.length_set
      rw [e] at hix
      rw [hput] at hnx
      clear e hn hput
      repeat' (first
       | refine WK.seq ?_
       | refine WK.block ?_
       | refine WK.inBlock ?_
       | refine WK.skip ?_
       | refine WK.label ?_
       | refine WK.scope ?_
       | refine WK.inScope ?_
       | refine WK.exit rfl ?_
       | refine WK.condT rfl ?_
       | refine WK.condF rfl ?_
       | (refine Hid.h hQ _ _ ?_; clear hQ hA)
       | refine WK.condAny rfl ?_ ?_
       | ((first | refine WK.cond2 rfl (fun h => ?_) (fun h => ?_)) <;> (first | (simp [*] at h; done) | (have h2 := h; simp at h2; exfalso; omega) | (have h2 := h; simp at h2; try simp only [Bool.not_eq_true', Bool.not_eq_false'] at h) | skip))
       | (refine WK.regH Try.ntmps16 (by kernel_rfl) ?_; intro A hA Q hQ; simp [*])
       | (refine RunQ.callB 1 rfl rfl rfl rfl rfl (hix) ?_ ?_ rfl rfl ?_ ?_ ?_; (focus (simp (maxDischargeDepth := 120) [*]; done)); (focus (simp (maxDischargeDepth := 120) [*]; done)); (focus (simp [*]; done)); (focus (simp [*]; done)); refine RunQ.evalH ?_; simp [*])
       | fail)
      repeat (first | refine WK.seq ?_ | refine WK.block ?_ | refine WK.inBlock ?_ | refine WK.skip ?_ | refine WK.label ?_ | refine WK.scope ?_ | refine WK.inScope ?_ | refine WK.exit rfl ?_)
      refine WK.next (fun n => n) (IH (i + 1) (by omega) (by first | omega | (dsimp only; omega))) (by repeat (first | exact TmW.nil | refine TmW.upd ?_ (by simp (maxDischargeDepth := 120) [hnx, hsn, hls]))) (by repeat (first | exact BxW.nil | refine BxW.upd ?_ (by simp (maxDischargeDepth := 120) [hnx, hsn, hls]))) (by first | exact InjW.id | exact InjW.nil | exact InjW.one | exact InjW.two (by simp) | exact InjW.three (by simp) (by simp) (by simp))
  · have hT : l.take i = l := List.take_of_length_le (by omega)
    rw [hT]
    repeat' (first
     | refine WK.seq ?_
     | refine WK.block ?_
     | refine WK.inBlock ?_
     | refine WK.skip ?_
     | refine WK.label ?_
     | refine WK.scope ?_
     | refine WK.inScope ?_
     | refine WK.exit rfl ?_
     | refine WK.condT rfl ?_
     | refine WK.condF rfl ?_
     | (refine Hid.h hQ _ _ ?_; clear hQ hA)
     | refine WK.condAny rfl ?_ ?_
     | ((first | refine WK.cond2 rfl (fun h => ?_) (fun h => ?_)) <;> (first | (simp [*] at h; done) | (have h2 := h; simp at h2; exfalso; omega) | (have h2 := h; simp at h2; try simp only [Bool.not_eq_true', Bool.not_eq_false'] at h) | skip))
     | (refine WK.regH Try.ntmps16 (by kernel_rfl) ?_; intro A hA Q hQ; simp [*])
     | (refine WK.retO Try.func16 rfl rfl ?_ ?_ <;> simp (maxDischargeDepth := 120) [*])
     | fail)
end Go.Proofs.Ytbncoeoamjcjjaa
end

section
set_option linter.unusedVariables false
set_option linter.unusedSimpArgs false
namespace Go.Proofs.Ytbncoeoamjcjjaa
open Go Go.AI Go.Proofs
attribute [local irreducible] FnP FnO FnB FnT FnSeq WK RunQ RunQW RunX RunXW

def aTurn (k : Int) : Int := if k = 18 then 0 else if k = 17 then 1 else if k = 25 then 2 else if k = 22 then 3 else if k = 0 then 4 else -1
theorem aTurn_le (k : Int) : -1 ≤ aTurn k ∧ aTurn k ≤ 4 := by unfold aTurn; (repeat' split) <;> omega
theorem aTurn_first (k : Int) : firstI (fun i => k == nth [18, 17, 25, 22, 0] i) ([18, 17, 25, 22, 0] : List Int).length = aTurn k := by
  unfold firstI
  unfold aTurn
  show (match (List.range 5).find? (fun i => k == nth [18, 17, 25, 22, 0] i) with | some i => (i : Int) | none => -1) = _
  rw [show List.range 5 = [0, 1, 2, 3, 4] from rfl]
  simp only [List.find?, show nth ([18, 17, 25, 22, 0] : List Int) 0 = 18 from rfl, show nth ([18, 17, 25, 22, 0] : List Int) 1 = 17 from rfl, show nth ([18, 17, 25, 22, 0] : List Int) 2 = 25 from rfl, show nth ([18, 17, 25, 22, 0] : List Int) 3 = 22 from rfl, show nth ([18, 17, 25, 22, 0] : List Int) 4 = 0 from rfl]
  by_cases h1 : k = 18
  · subst h1; rfl
  by_cases h2 : k = 17
  · subst h2; rfl
  by_cases h3 : k = 25
  · subst h3; rfl
  by_cases h4 : k = 22
  · subst h4; rfl
  by_cases h5 : k = 0
  · subst h5; rfl
  simp only [beq_eq_false_iff_ne.2 h1, beq_eq_false_iff_ne.2 h2, beq_eq_false_iff_ne.2 h3, beq_eq_false_iff_ne.2 h4, beq_eq_false_iff_ne.2 h5, if_neg h1, if_neg h2, if_neg h3, if_neg h4, if_neg h5]
theorem aturn_c (k : Int) : FnP Try.prog 97 [.int .i64 k] (.int .i64 (aTurn k)) := by
  have h := index_c [18, 17, 25, 22, 0] k (by decide)
  rw [aTurn_first] at h
  simp only [intS, intL, List.map_cons, List.map_nil, List.length_cons, List.length_nil] at h
  refine FnP.intro Try.func97 rfl rfl fun G w => ?_
  repeat' (first
   | refine WK.seq ?_
   | refine WK.block ?_
   | refine WK.inBlock ?_
   | refine WK.skip ?_
   | refine WK.label ?_
   | refine WK.scope ?_
   | refine WK.inScope ?_
   | refine WK.exit rfl ?_
   | refine WK.condT rfl ?_
   | refine WK.condF rfl ?_
   | (refine Hid.h hQ _ _ ?_; clear hQ hA)
   | refine WK.condAny rfl ?_ ?_
   | ((first | refine WK.cond2 rfl (fun h => ?_) (fun h => ?_)) <;> (first | (simp [*] at h; done) | (have h2 := h; simp at h2; exfalso; omega) | (have h2 := h; simp at h2; try simp only [Bool.not_eq_true', Bool.not_eq_false'] at h) | skip))
   | (refine WK.regH Try.ntmps97 (by kernel_rfl) ?_; intro A hA Q hQ; simp [*])
   | ((refine RunQ.call rfl rfl rfl rfl rfl ?_ (h) ?_ ?_; (focus (simp (maxDischargeDepth := 120) [*]; done))); (focus (simp [*]; done)); refine RunQ.evalH ?_; simp [*])
   | (refine WK.ret Try.func97 ?_ ?_ <;> simp (maxDischargeDepth := 120) [Try.results97, *])
   | fail)
def aGoesG (a : Action) : Bool := a.kind == 22
theorem alist1_c (a : Action) : FnP Try.prog 94 [.agg a.enc] (.bool (aGoesG a)) := by
  refine FnP.intro Try.func94 rfl rfl fun G w => ?_
  repeat' (first
   | refine WK.seq ?_
   | refine WK.block ?_
   | refine WK.inBlock ?_
   | refine WK.skip ?_
   | refine WK.label ?_
   | refine WK.scope ?_
   | refine WK.inScope ?_
   | refine WK.exit rfl ?_
   | refine WK.condT rfl ?_
   | refine WK.condF rfl ?_
   | (refine Hid.h hQ _ _ ?_; clear hQ hA)
   | refine WK.condAny rfl ?_ ?_
   | ((first | refine WK.cond2 rfl (fun h => ?_) (fun h => ?_)) <;> (first | (simp [*] at h; done) | (have h2 := h; simp at h2; exfalso; omega) | (have h2 := h; simp at h2; try simp only [Bool.not_eq_true', Bool.not_eq_false'] at h) | skip))
   | (refine WK.regH Try.ntmps94 (by kernel_rfl) ?_; intro A hA Q hQ; simp [Action.enc, *])
   | (refine WK.ret Try.func94 ?_ ?_ <;> simp (maxDischargeDepth := 120) [Try.results94, Action.enc, aGoesG, *])
   | fail)
def aOut (g : Bool) (a : Action) : Bool := decide (aTurn a.kind < 0) || (g && a.kind == 0)
theorem alist2_c (g : Bool) (a : Action) : FnP Try.prog 96 [.agg a.enc, .iptr [.bool g]] (.bool (aOut g a)) := by
  refine FnP.intro Try.func96 rfl rfl fun G w => ?_
  repeat' (first
   | refine WK.seq ?_
   | refine WK.block ?_
   | refine WK.inBlock ?_
   | refine WK.skip ?_
   | refine WK.label ?_
   | refine WK.scope ?_
   | refine WK.inScope ?_
   | refine WK.exit rfl ?_
   | refine WK.condT rfl ?_
   | refine WK.condF rfl ?_
   | (refine Hid.h hQ _ _ ?_; clear hQ hA)
   | refine WK.condAny rfl ?_ ?_
   | ((first | refine WK.cond2 rfl (fun h => ?_) (fun h => ?_) | refine Fork.mk (fun h => ?_) (fun h => ?_)) <;> (first | (simp [*] at h; done) | (have h2 := h; simp at h2; exfalso; omega) | (have h2 := h; simp at h2; try simp only [Bool.not_eq_true', Bool.not_eq_false'] at h) | skip))
   | (refine WK.regH Try.ntmps96 (by kernel_rfl) ?_; intro A hA Q hQ; simp [Action.enc, *])
   | (refine RunQ.gd rfl (by rw [hA.h]; rfl) ?_; simp [Action.enc, *])
   | (((first | refine RunQ.call rfl rfl rfl rfl rfl ?_ (aturn_c a.kind) ?_ ?_ | refine RunQW.call rfl rfl rfl rfl ?_ (aturn_c a.kind) ?_ ?_); (focus (simp (maxDischargeDepth := 120) [Action.enc, *]; done))); (focus (simp [Action.enc, *]; done)); refine RunQ.evalH ?_; simp [Action.enc, *])
   | (refine WK.ret Try.func96 ?_ ?_ <;> simp (maxDischargeDepth := 120) [Try.results96, Action.enc, aOut, *])
   | fail)
def aCmp (a b : Action) : Int := if aTurn a.kind = aTurn b.kind then (if (aSpot a).2 < (aSpot b).2 then -1 else if (aSpot b).2 < (aSpot a).2 then 1 else 0) else aTurn a.kind - aTurn b.kind
def aLt (a b : Action) : Bool := decide (aTurn a.kind < aTurn b.kind) || (decide (aTurn a.kind = aTurn b.kind) && decide ((aSpot a).2 < (aSpot b).2))
theorem aCmp_neg (a b : Action) : decide (aCmp a b < 0) = aLt a b := by
  unfold aCmp aLt
  by_cases h : aTurn a.kind = aTurn b.kind
  · rw [if_pos h]
    by_cases h1 : (aSpot a).2 < (aSpot b).2
    · rw [if_pos h1]; simp [h, h1]
    · rw [if_neg h1]; split <;> simp [h, h1]
  · rw [if_neg h]
    have : (decide (aTurn a.kind - aTurn b.kind < 0)) = decide (aTurn a.kind < aTurn b.kind) := decide_eq_decide.2 (by omega)
    rw [this]; simp [h]
theorem alist3_c (a b : Action) : FnP Try.prog 99 [.agg a.enc, .agg b.enc] (.int .i64 (aCmp a b)) := by
  have ha := aTurn_le a.kind
  have hb := aTurn_le b.kind
  have k1 : (aSpot a).1 = a.kind := rfl
  have k2 : (aSpot b).1 = b.kind := rfl
  have w1 : IntKind.i64.wrap (aTurn a.kind - aTurn b.kind) = aTurn a.kind - aTurn b.kind := wrap_i64 (by omega) (by omega)
  by_cases h : aTurn a.kind = aTurn b.kind
  · have w0 : IntKind.i64.wrap 0 = 0 := rfl
    by_cases f1 : (aSpot a).2 < (aSpot b).2
    · refine FnP.intro Try.func99 rfl rfl fun G w => ?_
      repeat' (first
       | refine WK.seq ?_
       | refine WK.block ?_
       | refine WK.inBlock ?_
       | refine WK.skip ?_
       | refine WK.label ?_
       | refine WK.scope ?_
       | refine WK.inScope ?_
       | refine WK.exit rfl ?_
       | refine WK.condT rfl ?_
       | refine WK.condF rfl ?_
       | (refine Hid.h hQ _ _ ?_; clear hQ hA)
       | refine WK.condAny rfl ?_ ?_
       | ((first | refine WK.cond2 rfl (fun h => ?_) (fun h => ?_)) <;> (first | (simp [*] at h; done) | (have h2 := h; simp at h2; exfalso; omega) | (have h2 := h; simp at h2; try simp only [Bool.not_eq_true', Bool.not_eq_false'] at h) | skip))
       | ((first | refine WK.regH Try.ntmps99 (by kernel_rfl) ?_ | refine WK.regX (by kernel_rfl) Try.ntmps99 (by kernel_rfl) ?_); intro A hA Q hQ; simp [bne, *])
       | (refine Hid.h hQ _ _ _ (by decide +kernel) ?_; clear hQ hA)
       | ((first | ((first | refine RunQ.call rfl rfl rfl rfl rfl ?_ (aat_c a) ?_ ?_ | refine RunX.call rfl rfl rfl rfl ?_ (aat_c a) ?_ ?_); (focus (simp (maxDischargeDepth := 120) [bne, *]; done))) | ((first | refine RunQ.call rfl rfl rfl rfl rfl ?_ (aat_c b) ?_ ?_ | refine RunX.call rfl rfl rfl rfl ?_ (aat_c b) ?_ ?_); (focus (simp (maxDischargeDepth := 120) [bne, *]; done))) | ((first | refine RunQ.call rfl rfl rfl rfl rfl ?_ (aturn_c a.kind) ?_ ?_ | refine RunX.call rfl rfl rfl rfl ?_ (aturn_c a.kind) ?_ ?_); (focus (simp (maxDischargeDepth := 120) [bne, *]; done))) | ((first | refine RunQ.call rfl rfl rfl rfl rfl ?_ (aturn_c b.kind) ?_ ?_ | refine RunX.call rfl rfl rfl rfl ?_ (aturn_c b.kind) ?_ ?_); (focus (simp (maxDischargeDepth := 120) [bne, *]; done)))); (focus (simp [bne, *]; done)); (first | refine RunQ.evalH ?_ | refine RunX.evalY ?_); simp [bne, *])
       | (refine WK.ret Try.func99 ?_ ?_ <;> simp (maxDischargeDepth := 120) [Try.results99, bne, aCmp, *])
       | fail)
    by_cases f2 : (aSpot b).2 < (aSpot a).2
    · refine FnP.intro Try.func99 rfl rfl fun G w => ?_
      repeat' (first
       | refine WK.seq ?_
       | refine WK.block ?_
       | refine WK.inBlock ?_
       | refine WK.skip ?_
       | refine WK.label ?_
       | refine WK.scope ?_
       | refine WK.inScope ?_
       | refine WK.exit rfl ?_
       | refine WK.condT rfl ?_
       | refine WK.condF rfl ?_
       | (refine Hid.h hQ _ _ ?_; clear hQ hA)
       | refine WK.condAny rfl ?_ ?_
       | ((first | refine WK.cond2 rfl (fun h => ?_) (fun h => ?_)) <;> (first | (simp [*] at h; done) | (have h2 := h; simp at h2; exfalso; omega) | (have h2 := h; simp at h2; try simp only [Bool.not_eq_true', Bool.not_eq_false'] at h) | skip))
       | ((first | refine WK.regH Try.ntmps99 (by kernel_rfl) ?_ | refine WK.regX (by kernel_rfl) Try.ntmps99 (by kernel_rfl) ?_); intro A hA Q hQ; simp [bne, *])
       | (refine Hid.h hQ _ _ _ (by decide +kernel) ?_; clear hQ hA)
       | ((first | ((first | refine RunQ.call rfl rfl rfl rfl rfl ?_ (aat_c a) ?_ ?_ | refine RunX.call rfl rfl rfl rfl ?_ (aat_c a) ?_ ?_); (focus (simp (maxDischargeDepth := 120) [bne, *]; done))) | ((first | refine RunQ.call rfl rfl rfl rfl rfl ?_ (aat_c b) ?_ ?_ | refine RunX.call rfl rfl rfl rfl ?_ (aat_c b) ?_ ?_); (focus (simp (maxDischargeDepth := 120) [bne, *]; done))) | ((first | refine RunQ.call rfl rfl rfl rfl rfl ?_ (aturn_c a.kind) ?_ ?_ | refine RunX.call rfl rfl rfl rfl ?_ (aturn_c a.kind) ?_ ?_); (focus (simp (maxDischargeDepth := 120) [bne, *]; done))) | ((first | refine RunQ.call rfl rfl rfl rfl rfl ?_ (aturn_c b.kind) ?_ ?_ | refine RunX.call rfl rfl rfl rfl ?_ (aturn_c b.kind) ?_ ?_); (focus (simp (maxDischargeDepth := 120) [bne, *]; done)))); (focus (simp [bne, *]; done)); (first | refine RunQ.evalH ?_ | refine RunX.evalY ?_); simp [bne, *])
       | (refine WK.ret Try.func99 ?_ ?_ <;> simp (maxDischargeDepth := 120) [Try.results99, bne, aCmp, *])
       | fail)
    · refine FnP.intro Try.func99 rfl rfl fun G w => ?_
      repeat' (first
       | refine WK.seq ?_
       | refine WK.block ?_
       | refine WK.inBlock ?_
       | refine WK.skip ?_
       | refine WK.label ?_
       | refine WK.scope ?_
       | refine WK.inScope ?_
       | refine WK.exit rfl ?_
       | refine WK.condT rfl ?_
       | refine WK.condF rfl ?_
       | (refine Hid.h hQ _ _ ?_; clear hQ hA)
       | refine WK.condAny rfl ?_ ?_
       | ((first | refine WK.cond2 rfl (fun h => ?_) (fun h => ?_)) <;> (first | (simp [*] at h; done) | (have h2 := h; simp at h2; exfalso; omega) | (have h2 := h; simp at h2; try simp only [Bool.not_eq_true', Bool.not_eq_false'] at h) | skip))
       | ((first | refine WK.regH Try.ntmps99 (by kernel_rfl) ?_ | refine WK.regX (by kernel_rfl) Try.ntmps99 (by kernel_rfl) ?_); intro A hA Q hQ; simp [bne, *])
       | (refine Hid.h hQ _ _ _ (by decide +kernel) ?_; clear hQ hA)
       | ((first | ((first | refine RunQ.call rfl rfl rfl rfl rfl ?_ (aat_c a) ?_ ?_ | refine RunX.call rfl rfl rfl rfl ?_ (aat_c a) ?_ ?_); (focus (simp (maxDischargeDepth := 120) [bne, *]; done))) | ((first | refine RunQ.call rfl rfl rfl rfl rfl ?_ (aat_c b) ?_ ?_ | refine RunX.call rfl rfl rfl rfl ?_ (aat_c b) ?_ ?_); (focus (simp (maxDischargeDepth := 120) [bne, *]; done))) | ((first | refine RunQ.call rfl rfl rfl rfl rfl ?_ (aturn_c a.kind) ?_ ?_ | refine RunX.call rfl rfl rfl rfl ?_ (aturn_c a.kind) ?_ ?_); (focus (simp (maxDischargeDepth := 120) [bne, *]; done))) | ((first | refine RunQ.call rfl rfl rfl rfl rfl ?_ (aturn_c b.kind) ?_ ?_ | refine RunX.call rfl rfl rfl rfl ?_ (aturn_c b.kind) ?_ ?_); (focus (simp (maxDischargeDepth := 120) [bne, *]; done)))); (focus (simp [bne, *]; done)); (first | refine RunQ.evalH ?_ | refine RunX.evalY ?_); simp [bne, *])
       | (refine WK.ret Try.func99 ?_ ?_ <;> simp (maxDischargeDepth := 120) [Try.results99, bne, aCmp, *])
       | fail)
  · have h2 : (aTurn a.kind - aTurn b.kind == 0) = false := by rw [beq_eq_false_iff_ne]; omega
    have e : aCmp a b = aTurn a.kind - aTurn b.kind := by unfold aCmp; rw [if_neg h]
    refine FnP.intro Try.func99 rfl rfl fun G w => ?_
    repeat' (first
     | refine WK.seq ?_
     | refine WK.block ?_
     | refine WK.inBlock ?_
     | refine WK.skip ?_
     | refine WK.label ?_
     | refine WK.scope ?_
     | refine WK.inScope ?_
     | refine WK.exit rfl ?_
     | refine WK.condT rfl ?_
     | refine WK.condF rfl ?_
     | (refine Hid.h hQ _ _ ?_; clear hQ hA)
     | refine WK.condAny rfl ?_ ?_
     | ((first | refine WK.cond2 rfl (fun h => ?_) (fun h => ?_)) <;> (first | (simp [*] at h; done) | (have h2 := h; simp at h2; exfalso; omega) | (have h2 := h; simp at h2; try simp only [Bool.not_eq_true', Bool.not_eq_false'] at h) | skip))
     | ((first | refine WK.regH Try.ntmps99 (by kernel_rfl) ?_ | refine WK.regX (by kernel_rfl) Try.ntmps99 (by kernel_rfl) ?_); intro A hA Q hQ; simp [bne, *])
     | (refine Hid.h hQ _ _ _ (by decide +kernel) ?_; clear hQ hA)
     | ((first | ((first | refine RunQ.call rfl rfl rfl rfl rfl ?_ (aat_c a) ?_ ?_ | refine RunX.call rfl rfl rfl rfl ?_ (aat_c a) ?_ ?_); (focus (simp (maxDischargeDepth := 120) [bne, *]; done))) | ((first | refine RunQ.call rfl rfl rfl rfl rfl ?_ (aat_c b) ?_ ?_ | refine RunX.call rfl rfl rfl rfl ?_ (aat_c b) ?_ ?_); (focus (simp (maxDischargeDepth := 120) [bne, *]; done))) | ((first | refine RunQ.call rfl rfl rfl rfl rfl ?_ (aturn_c a.kind) ?_ ?_ | refine RunX.call rfl rfl rfl rfl ?_ (aturn_c a.kind) ?_ ?_); (focus (simp (maxDischargeDepth := 120) [bne, *]; done))) | ((first | refine RunQ.call rfl rfl rfl rfl rfl ?_ (aturn_c b.kind) ?_ ?_ | refine RunX.call rfl rfl rfl rfl ?_ (aturn_c b.kind) ?_ ?_); (focus (simp (maxDischargeDepth := 120) [bne, *]; done)))); (focus (simp [bne, *]; done)); (first | refine RunQ.evalH ?_ | refine RunX.evalY ?_); simp [bne, *])
     | (refine WK.ret Try.func99 ?_ ?_ <;> simp (maxDischargeDepth := 120) [Try.results99, bne, *])
     | fail)
theorem roA_id (K : List Action) : roA K idF K.length = actL K := by
  unfold roA; congr 1
  refine List.ext_getElem (by rw [roB_len]) fun i h1 h2 => ?_
  simp only [roB, List.getElem_map, List.getElem_range, idF, Int.toNat_natCast]
  exact nth_eq h2
/-- how many are behind, of a list's and one more -/
def aRank (K : List Action) (x : Int) : Int := ((K ++ [default]).countP fun y => aLt (nth K x.toNat) y : Nat)
theorem count_lt {α : Type} {p q : α → Bool} : ∀ {l : List α}, (∀ y, y ∈ l → p y = true → q y = true) → (∃ b, b ∈ l ∧ q b = true ∧ p b = false) → l.countP p < l.countP q
  | [], _, ⟨b, hb, _⟩ => by cases hb
  | x :: l, h, ⟨b, hb, hq, hp⟩ => by
    rw [List.countP_cons, List.countP_cons]
    have hm : l.countP p ≤ l.countP q := List.countP_mono_left fun y hy => h y (List.mem_cons_of_mem _ hy)
    rcases List.mem_cons.1 hb with rfl | hb'
    · rw [hp, hq]; simp; omega
    · have ih := count_lt (p := p) (q := q) (l := l) (fun y hy => h y (List.mem_cons_of_mem _ hy)) ⟨b, hb', hq, hp⟩
      have := h x (by simp)
      cases hpx : p x
      · simp; omega
      · rw [this hpx]; simp; omega
theorem aLt_irr (a : Action) : aLt a a = false := by unfold aLt; simp
theorem aLt_iff (a b : Action) : aLt a b = true ↔ aTurn a.kind < aTurn b.kind ∨ (aTurn a.kind = aTurn b.kind ∧ (aSpot a).2 < (aSpot b).2) := by unfold aLt; simp
theorem mem_ext (K : List Action) (x : Int) : nth K x.toNat ∈ K ++ [default] := by
  by_cases h : x.toNat < K.length
  · exact List.mem_append_left _ (nth_mem h)
  · have : nth K x.toNat = default := by unfold nth; rw [List.getD_eq_getElem?_getD, List.getElem?_eq_none (by omega)]; rfl
    rw [this]; simp
theorem aRank_lt (K : List Action) (x y : Int) : decide (aCmp (nth K x.toNat) (nth K y.toNat) < 0) = decide (aRank K y < aRank K x) := by
  rw [aCmp_neg]
  cases h : aLt (nth K x.toNat) (nth K y.toNat)
  · symm; rw [decide_eq_false_iff_not]
    have : (K ++ [default]).countP (fun z => aLt (nth K x.toNat) z) ≤ (K ++ [default]).countP (fun z => aLt (nth K y.toNat) z) := by
      refine List.countP_mono_left fun z _ hz => ?_
      rw [aLt_iff] at hz ⊢
      have h' : ¬ (aLt (nth K x.toNat) (nth K y.toNat) = true) := by rw [h]; exact Bool.false_ne_true
      rw [aLt_iff] at h'
      omega
    unfold aRank; omega
  · symm; rw [decide_eq_true_eq]
    have : (K ++ [default]).countP (fun z => aLt (nth K y.toNat) z) < (K ++ [default]).countP (fun z => aLt (nth K x.toNat) z) := by
      refine count_lt (fun z _ hz => ?_) ⟨nth K y.toNat, mem_ext K y, h, aLt_irr _⟩
      rw [aLt_iff] at hz h ⊢
      omega
    unfold aRank; omega
theorem aCmpA (K : List Action) (n : Nat) : CmpA K (fun x y => aCmp (nth K x.toNat) (nth K y.toNat)) 99 [] (aRank K) n :=
  ⟨fun x y _ _ => alist3_c _ _, fun x y => aRank_lt K x y⟩
def aKept (set : List Action) : List Action := set.filter fun a => !aOut (set.any aGoesG) a
theorem aKept_keep (set : List Action) : keepN (aOut (set.any aGoesG)) set set.length = aKept set := by unfold keepN aKept; rw [List.take_length]
set_option maxHeartbeats 4000000 in
theorem alistO_c (set : List Action) (hs : set.length ≤ 500000) : ∃ g, Srt (aRank (aKept set)) g 0 (aKept set).length ∧ (∀ x, x < (aKept set).length → 0 ≤ g x ∧ g x < (aKept set).length) ∧
    FnO Try.prog 37 [actS set] (aKept set).length 11 (actL (roB (aKept set) g (aKept set).length)) := by
  have hkl : (aKept set).length ≤ set.length := List.length_filter_le _ _
  obtain ⟨g, h1, h2, h3⟩ := sortStableA_c (aKept set) (fun x y => aCmp (nth (aKept set) x.toNat) (nth (aKept set) y.toNat)) 99 [] (aRank (aKept set)) (aKept set).length rfl (by omega) (aCmpA _ _)
  refine ⟨g, h1, h2, ?_⟩
  rw [roA_id] at h3
  have hc := clone_actO set (by omega)
  have hcon := containsf_act 94 [] aGoesG set rfl (by omega) (fun x _ => alist1_c x)
  have hdel := delete_act 96 [.iptr [.bool (set.any aGoesG)]] (aOut (set.any aGoesG)) set (by simp) (by omega) (fun x _ => alist2_c _ x)
  rw [aKept_keep] at hdel
  show FnO _ _ _ _ _ (roA (aKept set) g (aKept set).length)
  unfold actS at *
  refine FnO.intro Try.func37 rfl rfl fun G w => ?_
  repeat' (first
   | refine WK.seq ?_
   | refine WK.block ?_
   | refine WK.inBlock ?_
   | refine WK.skip ?_
   | refine WK.label ?_
   | refine WK.scope ?_
   | refine WK.inScope ?_
   | refine WK.exit rfl ?_
   | refine WK.condT rfl ?_
   | refine WK.condF rfl ?_
   | (refine Hid.h hQ _ _ ?_; clear hQ hA)
   | refine WK.condAny rfl ?_ ?_
   | ((first | refine WK.cond2 rfl (fun h => ?_) (fun h => ?_)) <;> (first | (simp [*] at h; done) | (have h2 := h; simp at h2; exfalso; omega) | (have h2 := h; simp at h2; try simp only [Bool.not_eq_true', Bool.not_eq_false'] at h) | skip))
   | ((first | refine WK.regH (id := 0) Try.ntmps37 (by kernel_rfl) ?_ | refine WK.regH (id := 1) Try.ntmps37 (by kernel_rfl) ?_); intro A hA Q hQ; simp [*])
   | ((refine RunQ.call rfl rfl rfl rfl rfl ?_ (hcon) ?_ ?_; (focus (simp (maxDischargeDepth := 120) [*]; done))); (focus (simp [*]; done)); refine RunQ.evalH ?_; simp [*])
   | fail)
  repeat (first | refine WK.seq ?_ | refine WK.block ?_ | refine WK.inBlock ?_ | refine WK.skip ?_ | refine WK.label ?_ | refine WK.scope ?_ | refine WK.inScope ?_ | refine WK.exit rfl ?_)
  refine WK.ghost (Ghost.frzVar 3 rfl rfl) ?_
  repeat' (first
   | refine WK.seq ?_
   | refine WK.block ?_
   | refine WK.inBlock ?_
   | refine WK.skip ?_
   | refine WK.label ?_
   | refine WK.scope ?_
   | refine WK.inScope ?_
   | refine WK.exit rfl ?_
   | refine WK.condT rfl ?_
   | refine WK.condF rfl ?_
   | (refine Hid.h hQ _ _ ?_; clear hQ hA)
   | refine WK.condAny rfl ?_ ?_
   | ((first | refine WK.cond2 rfl (fun h => ?_) (fun h => ?_)) <;> (first | (simp [*] at h; done) | (have h2 := h; simp at h2; exfalso; omega) | (have h2 := h; simp at h2; try simp only [Bool.not_eq_true', Bool.not_eq_false'] at h) | skip))
   | ((first | refine WK.regH (id := 0) Try.ntmps37 (by kernel_rfl) ?_ | refine WK.regH (id := 1) Try.ntmps37 (by kernel_rfl) ?_ | refine WK.regH (id := 2) Try.ntmps37 (by kernel_rfl) ?_); intro A hA Q hQ; simp [*])
   | (refine RunQ.callO 900 rfl rfl rfl rfl rfl ?_ (hc) ?_ ?_ ?_ ?_; (focus (simp (maxDischargeDepth := 120) [*]; done)); (focus (simp [*]; done)); (focus (simp [*]; done)); (focus (simp [*]; done)); refine RunQ.evalH ?_; simp [*])
   | (refine RunQ.callBm 900 rfl rfl rfl rfl rfl (hdel) ?_ ?_ rfl rfl ?_ ?_; (focus (simp (maxDischargeDepth := 120) [*]; done)); (focus (simp (maxDischargeDepth := 120) [*]; done)); (focus (simp [*]; done)); refine RunQ.evalH ?_; simp [*])
   | fail)
  refine WK.ghost (Ghost.trim 900 11 rfl) ?_
  repeat' (first
   | refine WK.seq ?_
   | refine WK.block ?_
   | refine WK.inBlock ?_
   | refine WK.skip ?_
   | refine WK.label ?_
   | refine WK.scope ?_
   | refine WK.inScope ?_
   | refine WK.exit rfl ?_
   | refine WK.condT rfl ?_
   | refine WK.condF rfl ?_
   | (refine Hid.h hQ _ _ ?_; clear hQ hA)
   | refine WK.condAny rfl ?_ ?_
   | ((first | refine WK.cond2 rfl (fun h => ?_) (fun h => ?_)) <;> (first | (simp [*] at h; done) | (have h2 := h; simp at h2; exfalso; omega) | (have h2 := h; simp at h2; try simp only [Bool.not_eq_true', Bool.not_eq_false'] at h) | skip))
   | (refine WK.regH Try.ntmps37 (by kernel_rfl) ?_; intro A hA Q hQ; simp [*])
   | (refine RunQ.callB 900 rfl rfl rfl rfl rfl (h3) ?_ ?_ rfl rfl ?_ ?_ ?_; (focus (simp (maxDischargeDepth := 120) [*]; done)); (focus (simp (maxDischargeDepth := 120) [*]; done)); (focus (simp [*]; done)); (focus (simp [*]; done)); refine RunQ.evalH ?_; simp [*])
   | (refine WK.retO Try.func37 rfl rfl ?_ ?_ <;> simp (maxDischargeDepth := 120) [*])
   | fail)
end Go.Proofs.Ytbncoeoamjcjjaa
end

section
set_option linter.unusedVariables false
set_option linter.unusedSimpArgs false
namespace Go.Proofs.Ytbncoeoamjcjjaa
open Go Go.AI Go.Proofs

def aEqv (a b : Action) : Bool := decide (aTurn a.kind = aTurn b.kind) && decide ((aSpot a).2 = (aSpot b).2)
theorem aEqv_iff (a b : Action) : aEqv a b = true ↔ aTurn a.kind = aTurn b.kind ∧ (aSpot a).2 = (aSpot b).2 := by unfold aEqv; simp
theorem aEqv_refl (a : Action) : aEqv a a = true := by rw [aEqv_iff]; exact ⟨rfl, rfl⟩
def ASrt (R : List Action) : Prop := R.Pairwise fun a b => aLt b a = false
theorem sort_unique : ∀ {R R' : List Action}, ASrt R → ASrt R' → (∀ c, R.filter (aEqv c) = R'.filter (aEqv c)) → R = R'
  | [], [], _, _, _ => rfl
  | [], b :: t, _, _, h => by have := h b; simp [aEqv_refl] at this
  | a :: t, [], _, _, h => by have := h a; simp [aEqv_refl] at this
  | a :: t, b :: s, h1, h2, h => by
    unfold ASrt at h1 h2
    rw [List.pairwise_cons] at h1 h2
    have ha := h a
    have hb := h b
    have ma : a ∈ b :: s := by
      have : a ∈ (b :: s).filter (aEqv a) := by rw [← ha]; simp [aEqv_refl]
      exact (List.mem_filter.1 this).1
    have mb : b ∈ a :: t := by
      have : b ∈ (a :: t).filter (aEqv b) := by rw [hb]; simp [aEqv_refl]
      exact (List.mem_filter.1 this).1
    have l1 : aLt a b = false := by
      rcases List.mem_cons.1 ma with rfl | m
      · exact aLt_irr _
      · exact h2.1 a m
    have l2 : aLt b a = false := by
      rcases List.mem_cons.1 mb with rfl | m
      · exact aLt_irr _
      · exact h1.1 b m
    have he : aEqv a b = true := by
      rw [aEqv_iff]
      have n1 : ¬ aLt a b = true := by rw [l1]; exact Bool.false_ne_true
      have n2 : ¬ aLt b a = true := by rw [l2]; exact Bool.false_ne_true
      rw [aLt_iff] at n1 n2
      omega
    rw [List.filter_cons_of_pos (aEqv_refl a), List.filter_cons_of_pos he] at ha
    have hab : a = b := by injection ha
    subst hab
    congr 1
    refine sort_unique h1.2 h2.2 fun c => ?_
    have hc := h c
    by_cases k : aEqv c a = true
    · rw [List.filter_cons_of_pos k, List.filter_cons_of_pos k] at hc
      injection hc
    · rw [List.filter_cons_of_neg k, List.filter_cons_of_neg k] at hc
      exact hc
theorem inc_ext : ∀ {l m : List Nat}, l.Pairwise (· < ·) → m.Pairwise (· < ·) → (∀ x, x ∈ l ↔ x ∈ m) → l = m
  | [], [], _, _, _ => rfl
  | [], b :: m, _, _, h => by have := (h b).2 (by simp); cases this
  | a :: l, [], _, _, h => by have := (h a).1 (by simp); cases this
  | a :: l, b :: m, h1, h2, h => by
    rw [List.pairwise_cons] at h1 h2
    have hab : a = b := by
      have ma := (h a).1 (by simp)
      have mb := (h b).2 (by simp)
      rcases List.mem_cons.1 ma with e | ma
      · exact e
      rcases List.mem_cons.1 mb with e | mb
      · exact e.symm
      have := h2.1 a ma; have := h1.1 b mb; omega
    subst hab
    congr 1
    refine inc_ext h1.2 h2.2 fun x => ?_
    constructor
    · intro hx
      rcases List.mem_cons.1 ((h x).1 (List.mem_cons_of_mem _ hx)) with e | hm
      · have := h1.1 x hx; omega
      · exact hm
    · intro hx
      rcases List.mem_cons.1 ((h x).2 (List.mem_cons_of_mem _ hx)) with e | hm
      · have := h2.1 x hx; omega
      · exact hm
theorem pigeon : ∀ {l m : List Nat}, l.Nodup → (∀ x, x ∈ l → x ∈ m) → m.length ≤ l.length → ∀ x, x ∈ m → x ∈ l
  | [], m, _, _, h, x, hx => by
    have : m = [] := List.eq_nil_of_length_eq_zero (by simpa using h)
    subst this; cases hx
  | a :: l, m, hn, hs, h, x, hx => by
    rw [List.nodup_cons] at hn
    by_cases e : x = a
    · subst e; simp
    · have hm := hs a (by simp)
      have h1 : ∀ y, y ∈ l → y ∈ m.erase a := fun y hy => by
        have hy2 := hs y (List.mem_cons_of_mem _ hy)
        have : y ≠ a := fun e => hn.1 (e ▸ hy)
        exact (List.mem_erase_of_ne this).2 hy2
      have h2 : (m.erase a).length ≤ l.length := by rw [List.length_erase_of_mem hm]; simp at h; omega
      exact List.mem_cons_of_mem _ (pigeon hn.2 h1 h2 x ((List.mem_erase_of_ne e).2 hx))
theorem map_nth (K : List Action) : (List.range K.length).map (nth K) = K := by
  refine List.ext_getElem (by simp) fun i h1 h2 => ?_
  simp only [List.getElem_map, List.getElem_range]
  exact nth_eq h2
theorem roB_sorted {K : List Action} {g : Nat → Int} (hs : Srt (aRank K) g 0 K.length) : ASrt (roB K g K.length) := by
  unfold ASrt roB
  rw [List.pairwise_map]
  have h : (List.range K.length).Pairwise (· < ·) := List.pairwise_lt_range
  refine List.Pairwise.imp_of_mem (fun {i j} hi hj hij => ?_) h
  have ha := hs i j (Nat.zero_le _) hij (List.mem_range.1 hj)
  have hr := aRank_lt K (g j) (g i)
  rw [aCmp_neg] at hr
  rw [hr, decide_eq_false_iff_not]
  unfold ahead at ha; omega
theorem roB_stable {K : List Action} {g : Nat → Int} (hs : Srt (aRank K) g 0 K.length) (hr : ∀ x, x < K.length → 0 ≤ g x ∧ g x < K.length) (c : Action) : (roB K g K.length).filter (aEqv c) = K.filter (aEqv c) := by
  obtain ⟨idx, hidx⟩ : ∃ idx, (List.range K.length).map (fun i => (g i).toNat) = idx := ⟨_, rfl⟩
  have e1 : roB K g K.length = idx.map (nth K) := by rw [← hidx, List.map_map]; rfl
  have hlen : idx.length = K.length := by rw [← hidx]; simp
  have hpw : (List.range K.length).Pairwise fun i j => ahead (aRank K) (g i) (g j) ∧ 0 ≤ g i ∧ 0 ≤ g j :=
    List.Pairwise.imp_of_mem (fun {i j} hi hj hij => ⟨hs i j (Nat.zero_le _) hij (List.mem_range.1 hj), (hr i (List.mem_range.1 hi)).1, (hr j (List.mem_range.1 hj)).1⟩) List.pairwise_lt_range
  have hnd : idx.Nodup := by
    rw [← hidx]
    unfold List.Nodup
    rw [List.pairwise_map]
    refine hpw.imp fun {i j} ⟨ha, h0, h1⟩ e => ?_
    have : g i = g j := by omega
    unfold ahead at ha; rw [this] at ha; omega
  have hsub : ∀ x, x ∈ idx → x ∈ List.range K.length := fun x hx => by
    rw [← hidx] at hx
    obtain ⟨i, hi, rfl⟩ := List.mem_map.1 hx
    have := hr i (List.mem_range.1 hi)
    rw [List.mem_range]; omega
  have hall := pigeon hnd hsub (by rw [hlen]; simp)
  have hinc : (idx.filter fun j => aEqv c (nth K j)).Pairwise (· < ·) := by
    rw [List.pairwise_filter, ← hidx, List.pairwise_map]
    refine hpw.imp fun {i j} ⟨ha, h0, h1⟩ p1 p2 => ?_
    rw [aEqv_iff] at p1 p2
    have r1 := aRank_lt K (g i) (g j)
    have r2 := aRank_lt K (g j) (g i)
    rw [aCmp_neg] at r1 r2
    have n1 : ¬ aLt (nth K (g i).toNat) (nth K (g j).toNat) = true := by rw [aLt_iff]; omega
    have n2 : ¬ aLt (nth K (g j).toNat) (nth K (g i).toNat) = true := by rw [aLt_iff]; omega
    rw [Bool.not_eq_true] at n1 n2
    rw [n1] at r1; rw [n2] at r2
    have q1 := of_decide_eq_false r1.symm
    have q2 := of_decide_eq_false r2.symm
    unfold ahead at ha; omega
  have e2 : (idx.filter fun j => aEqv c (nth K j)) = (List.range K.length).filter fun j => aEqv c (nth K j) := by
    refine inc_ext hinc (List.pairwise_lt_range.filter _) fun x => ?_
    rw [List.mem_filter, List.mem_filter]
    exact ⟨fun h => ⟨hsub x h.1, h.2⟩, fun h => ⟨hall x h.1, h.2⟩⟩
  rw [e1, List.filter_map]
  conv => rhs; rw [← map_nth K, List.filter_map]
  exact congrArg _ e2
/-- all of a kind -/
def aOfK (l : List Action) (k : Int) : List Action := l.filter fun a => a.kind == k
def insAt (out : List Action) (f : Int) : Nat → Nat
  | 0 => 0
  | n + 1 => if f < (nth out n).oxm.field then insAt out f n else n + 1
def insF (out : List Action) (a : Action) : List Action := out.take (insAt out a.oxm.field out.length) ++ a :: out.drop (insAt out a.oxm.field out.length)
def aFields (l : List Action) : List Action := l.foldl insF []
def aList (set : List Action) : List Action := aOfK set 18 ++ aOfK set 17 ++ aFields (aOfK set 25) ++ (if 0 < (aOfK set 22).length then aOfK set 22 else aOfK set 0)
theorem insAt_spec (out : List Action) (f : Int) : ∀ n, n ≤ out.length → insAt out f n ≤ n ∧ (∀ j, insAt out f n ≤ j → j < n → f < (nth out j).oxm.field) ∧ (0 < insAt out f n → (nth out (insAt out f n - 1)).oxm.field ≤ f)
  | 0, _ => ⟨Nat.le_refl _, fun j h1 h2 => by omega, fun h => by simp [insAt] at h⟩
  | n + 1, h => by
    rw [insAt]
    split
    · rename_i hlt
      obtain ⟨h1, h2, h3⟩ := insAt_spec out f n (by omega)
      refine ⟨by omega, fun j j1 j2 => ?_, h3⟩
      by_cases e : j = n
      · rw [e]; exact hlt
      · exact h2 j j1 (by omega)
    · rename_i hlt
      exact ⟨Nat.le_refl _, fun j j1 j2 => by omega, fun _ => by rw [Nat.add_sub_cancel]; omega⟩
def FSrt (l : List Action) : Prop := l.Pairwise fun a b => a.oxm.field ≤ b.oxm.field
theorem fsrt_nth {l : List Action} (h : FSrt l) {i j : Nat} (hij : i ≤ j) (hj : j < l.length) : (nth l i).oxm.field ≤ (nth l j).oxm.field := by
  by_cases e : i = j
  · rw [e]; exact Int.le_refl _
  · rw [nth_eq (by omega), nth_eq hj]
    exact List.pairwise_iff_getElem.1 h i j (by omega) hj (by omega)
theorem ins_split {out : List Action} (h : FSrt out) (a : Action) : (∀ x, x ∈ out.take (insAt out a.oxm.field out.length) → x.oxm.field ≤ a.oxm.field) ∧ ∀ x, x ∈ out.drop (insAt out a.oxm.field out.length) → a.oxm.field < x.oxm.field := by
  obtain ⟨h1, h2, h3⟩ := insAt_spec out a.oxm.field out.length (Nat.le_refl _)
  obtain ⟨p, hp⟩ : ∃ p, insAt out a.oxm.field out.length = p := ⟨_, rfl⟩
  rw [hp] at h1 h2 h3 ⊢
  constructor
  · intro x hx
    obtain ⟨i, hi, rfl⟩ := List.mem_iff_getElem.1 hx
    rw [List.length_take] at hi
    rw [List.getElem_take, ← nth_eq (by omega)]
    exact Int.le_trans (fsrt_nth h (show i ≤ p - 1 by omega) (by omega)) (h3 (by omega))
  · intro x hx
    obtain ⟨i, hi, rfl⟩ := List.mem_iff_getElem.1 hx
    rw [List.length_drop] at hi
    rw [List.getElem_drop, ← nth_eq (by omega)]
    exact h2 _ (by omega) (by omega)
theorem insF_srt {out : List Action} (h : FSrt out) (a : Action) : FSrt (insF out a) := by
  obtain ⟨s1, s2⟩ := ins_split h a
  unfold FSrt insF
  rw [List.pairwise_append, List.pairwise_cons]
  have h12 := h
  unfold FSrt at h12
  rw [← List.take_append_drop (insAt out a.oxm.field out.length) out, List.pairwise_append] at h12
  refine ⟨h12.1, ⟨fun x hx => Int.le_of_lt (s2 x hx), h12.2.1⟩, fun x hx y hy => ?_⟩
  rcases List.mem_cons.1 hy with rfl | hy
  · exact s1 x hx
  · exact h12.2.2 x hx y hy
theorem insF_filter {out : List Action} (h : FSrt out) (a : Action) (f : Int) : (insF out a).filter (fun x => x.oxm.field == f) = out.filter (fun x => x.oxm.field == f) ++ [a].filter (fun x => x.oxm.field == f) := by
  obtain ⟨s1, s2⟩ := ins_split h a
  unfold insF
  conv => rhs; rw [← List.take_append_drop (insAt out a.oxm.field out.length) out, List.filter_append]
  rw [List.filter_append, List.append_assoc]
  congr 1
  by_cases e : a.oxm.field = f
  · have hn : (out.drop (insAt out a.oxm.field out.length)).filter (fun x => x.oxm.field == f) = [] := by
      rw [List.filter_eq_nil_iff]; intro x hx
      have := s2 x hx
      simp; omega
    rw [List.filter_cons_of_pos (by simpa using e), hn, List.nil_append, List.filter_cons_of_pos (by simpa using e)]
    rfl
  · have : (a.oxm.field == f) = false := by simpa using e
    simp [this]
theorem aFields_spec (l : List Action) : FSrt (aFields l) ∧ ∀ f, (aFields l).filter (fun x => x.oxm.field == f) = l.filter (fun x => x.oxm.field == f) := by
  have key : ∀ (l out : List Action), FSrt out → FSrt (l.foldl insF out) ∧ ∀ f, (l.foldl insF out).filter (fun x => x.oxm.field == f) = out.filter (fun x => x.oxm.field == f) ++ l.filter (fun x => x.oxm.field == f) := by
    intro l
    induction l with
    | nil => intro out h; exact ⟨h, fun f => by simp⟩
    | cons a l ih =>
      intro out h
      obtain ⟨h1, h2⟩ := ih (insF out a) (insF_srt h a)
      refine ⟨h1, fun f => ?_⟩
      rw [List.foldl_cons, h2 f, insF_filter h a f, List.append_assoc]
      congr 1
      rw [← List.filter_append]; rfl
  obtain ⟨h1, h2⟩ := key l [] List.Pairwise.nil
  exact ⟨h1, fun f => by unfold aFields; rw [h2 f]; rfl⟩
theorem aTurn_inj {k j : Int} (h : aTurn k = aTurn j) (hk : aTurn j ≠ -1) : k = j := by
  unfold aTurn at h hk
  revert h hk
  (repeat' split) <;> omega
theorem aSpot_no {a : Action} (h : ¬ a.kind = 25) : (aSpot a).2 = 0 := by unfold aSpot; rw [if_neg h]
theorem aSpot_set {a : Action} (h : a.kind = 25) : (aSpot a).2 = a.oxm.field := by unfold aSpot; rw [if_pos h]
theorem ofK_filter (set : List Action) (k : Int) (c : Action) (hk : aTurn k ≠ -1) : (aOfK set k).filter (aEqv c) = if aTurn c.kind = aTurn k then set.filter (aEqv c) else [] := by
  unfold aOfK
  rw [List.filter_filter]
  split
  · rename_i h
    refine List.filter_congr fun a _ => ?_
    cases he : aEqv c a
    · rfl
    · rw [aEqv_iff] at he
      have : a.kind = k := aTurn_inj (by omega) hk
      simp [this]
  · rename_i h
    rw [List.filter_eq_nil_iff]; intro a _ hh
    rw [Bool.and_eq_true, aEqv_iff, beq_iff_eq] at hh
    rw [hh.2] at hh; omega
theorem fields_kind (set : List Action) : ∀ x, x ∈ aFields (aOfK set 25) → x.kind = 25 := by
  intro x hx
  have h := (aFields_spec (aOfK set 25)).2 x.oxm.field
  have : x ∈ (aFields (aOfK set 25)).filter (fun y => y.oxm.field == x.oxm.field) := List.mem_filter.2 ⟨hx, by simp⟩
  rw [h] at this
  have := (List.mem_filter.1 (List.mem_filter.1 this).1).2
  simpa using this
theorem fields_filter (set : List Action) (c : Action) : (aFields (aOfK set 25)).filter (aEqv c) = if aTurn c.kind = 2 then set.filter (aEqv c) else [] := by
  split
  · rename_i h
    have hc : c.kind = 25 := aTurn_inj (j := 25) h (by decide)
    have e : ∀ l : List Action, (∀ x, x ∈ l → x.kind = 25) → l.filter (aEqv c) = l.filter fun x => x.oxm.field == c.oxm.field := fun l hl => by
      refine List.filter_congr fun a ha => ?_
      have hk := hl a ha
      rw [Bool.eq_iff_iff, aEqv_iff, aSpot_set hc, aSpot_set hk, hc, hk, beq_iff_eq]
      constructor
      · intro h; exact h.2.symm
      · intro h; exact ⟨rfl, h.symm⟩
    rw [e _ (fields_kind set), (aFields_spec (aOfK set 25)).2, ← e _ (fun x hx => by have := (List.mem_filter.1 hx).2; simpa using this), ofK_filter set 25 c (by decide), if_pos (show aTurn c.kind = aTurn 25 from h)]
  · rename_i h
    rw [List.filter_eq_nil_iff]; intro a ha hh
    rw [aEqv_iff, fields_kind set a ha] at hh
    exact h hh.1
theorem any_group (set : List Action) : set.any aGoesG = decide (0 < (aOfK set 22).length) := by
  rw [Bool.eq_iff_iff, decide_eq_true_eq, List.any_eq_true]
  constructor
  · rintro ⟨x, hx, hk⟩
    exact List.length_pos_of_mem (List.mem_filter.2 ⟨hx, hk⟩)
  · intro h
    obtain ⟨x, hx⟩ := List.exists_mem_of_length_pos h
    exact ⟨x, (List.mem_filter.1 hx).1, (List.mem_filter.1 hx).2⟩
theorem aList_filter (set : List Action) (c : Action) : (aList set).filter (aEqv c) = (aKept set).filter (aEqv c) := by
  have ht := aTurn_le c.kind
  unfold aList aKept
  rw [any_group, List.filter_append, List.filter_append, List.filter_append, ofK_filter set 18 c (by decide), ofK_filter set 17 c (by decide), fields_filter, List.filter_filter]
  rw [show aTurn 18 = 0 from rfl, show aTurn 17 = 1 from rfl]
  have h3 : ((if 0 < (aOfK set 22).length then aOfK set 22 else aOfK set 0).filter (aEqv c)) = if 0 < (aOfK set 22).length then (if aTurn c.kind = 3 then set.filter (aEqv c) else []) else (if aTurn c.kind = 4 then set.filter (aEqv c) else []) := by
    split
    · exact ofK_filter set 22 c (by decide)
    · exact ofK_filter set 0 c (by decide)
  rw [h3]
  obtain ⟨G, hG⟩ : ∃ G, decide (0 < (aOfK set 22).length) = G := ⟨_, rfl⟩
  have keep : ∀ t, aTurn c.kind = t → 0 ≤ t → (t = 4 → G = false) → set.filter (fun a => (aEqv c a && !aOut G a)) = set.filter (aEqv c) := fun t h0 h1 h2 => by
    refine List.filter_congr fun a _ => ?_
    cases he : aEqv c a
    · rfl
    · rw [aEqv_iff] at he
      unfold aOut
      have d1 : decide (aTurn a.kind < 0) = false := decide_eq_false (by omega)
      rw [d1]
      by_cases h4 : t = 4
      · rw [h2 h4]; rfl
      · have : (a.kind == 0) = false := by
          rw [beq_eq_false_iff_ne]; intro e
          have : aTurn a.kind = 4 := by rw [e]; rfl
          omega
        rw [this]; simp
  rw [hG]
  have hcase : aTurn c.kind = -1 ∨ aTurn c.kind = 0 ∨ aTurn c.kind = 1 ∨ aTurn c.kind = 2 ∨ aTurn c.kind = 3 ∨ aTurn c.kind = 4 := by omega
  have hswap : (fun a => (!aOut G a && aEqv c a)) = fun a => (aEqv c a && !aOut G a) := by funext a; exact Bool.and_comm _ _
  first | rw [hswap] | skip
  rcases hcase with h | h | h | h | h | h
  · rw [h]
    have : set.filter (fun a => (aEqv c a && !aOut G a)) = [] := by
      rw [List.filter_eq_nil_iff]; intro a _ hh
      rw [Bool.and_eq_true, aEqv_iff] at hh
      have := hh.2
      unfold aOut at this
      rw [show decide (aTurn a.kind < 0) = true from decide_eq_true (by omega)] at this
      simp at this
    rw [this]; simp
  · rw [keep 0 h (by omega) (by omega), h]; simp
  · rw [keep 1 h (by omega) (by omega), h]; simp
  · rw [keep 2 h (by omega) (by omega), h]; simp
  · rw [keep 3 h (by omega) (by omega), h]
    by_cases hp : 0 < (aOfK set 22).length
    · simp [hp]
    · have : set.filter (aEqv c) = [] := by
        have h22 : aOfK set 22 = [] := List.eq_nil_of_length_eq_zero (by omega)
        have := ofK_filter set 22 c (by decide)
        rw [h22, if_pos (show aTurn c.kind = aTurn 22 from h)] at this
        exact this.symm
      simp [hp, this]
  · by_cases hp : 0 < (aOfK set 22).length
    · have hGt : G = true := by rw [← hG]; exact decide_eq_true hp
      have : set.filter (fun a => (aEqv c a && !aOut G a)) = [] := by
        rw [List.filter_eq_nil_iff]; intro a _ hh
        rw [Bool.and_eq_true, aEqv_iff] at hh
        have hk : a.kind = 0 := aTurn_inj (j := 0) (by rw [← hh.1.1, h]; rfl) (by decide)
        have := hh.2
        unfold aOut at this
        rw [hGt, hk] at this
        simp at this
      rw [this, h]; simp [hp]
    · have hGf : G = false := by rw [← hG]; exact decide_eq_false hp
      rw [keep 4 h (by omega) (fun _ => hGf), h]; simp [hp]
theorem aLt_turn {a b : Action} {s t : Int} (ha : aTurn a.kind = s) (hb : aTurn b.kind = t) (h : s < t) : aLt b a = false := by
  cases hl : aLt b a
  · rfl
  · rw [aLt_iff] at hl; omega
theorem ofK_srt (set : List Action) (k : Int) (hk : ¬ k = 25) : ASrt (aOfK set k) := by
  unfold ASrt
  refine List.pairwise_iff_getElem.2 fun i j hi hj hij => ?_
  have h1 : (aOfK set k)[i].kind = k := by have := (List.mem_filter.1 (List.getElem_mem hi)).2; simpa using this
  have h2 : (aOfK set k)[j].kind = k := by have := (List.mem_filter.1 (List.getElem_mem hj)).2; simpa using this
  cases hl : aLt (aOfK set k)[j] (aOfK set k)[i]
  · rfl
  · rw [aLt_iff, aSpot_no (by rw [h2]; exact hk), aSpot_no (by rw [h1]; exact hk), h1, h2] at hl; omega
theorem ofK_turn {set : List Action} {k : Int} {x : Action} (h : x ∈ aOfK set k) : aTurn x.kind = aTurn k := by
  have := (List.mem_filter.1 h).2
  rw [beq_iff_eq] at this
  rw [this]
theorem aList_srt (set : List Action) : ASrt (aList set) := by
  have ht : ∀ x, x ∈ (if 0 < (aOfK set 22).length then aOfK set 22 else aOfK set 0) → 3 ≤ aTurn x.kind := fun x hx => by
    split at hx
    · rw [ofK_turn hx]; decide
    · rw [ofK_turn hx]; decide
  have h2 : ∀ x, x ∈ aFields (aOfK set 25) → aTurn x.kind = 2 := fun x hx => by rw [fields_kind set x hx]; rfl
  unfold ASrt aList
  rw [List.pairwise_append, List.pairwise_append, List.pairwise_append]
  refine ⟨⟨⟨ofK_srt set 18 (by decide), ofK_srt set 17 (by decide), fun x hx y hy => ?_⟩, ?_, fun x hx y hy => ?_⟩, ?_, fun x hx y hy => ?_⟩
  · exact aLt_turn (ofK_turn hx) (ofK_turn hy) (by decide)
  · refine List.pairwise_iff_getElem.2 fun i j hi hj hij => ?_
    have hf := List.pairwise_iff_getElem.1 (aFields_spec (aOfK set 25)).1 i j hi hj hij
    have k1 := fields_kind set _ (List.getElem_mem hi)
    have k2 := fields_kind set _ (List.getElem_mem hj)
    cases hl : aLt (aFields (aOfK set 25))[j] (aFields (aOfK set 25))[i]
    · rfl
    · rw [aLt_iff, aSpot_set k1, aSpot_set k2, k1, k2] at hl; omega
  · rcases List.mem_append.1 hx with hx | hx
    · exact aLt_turn (ofK_turn hx) (h2 y hy) (by decide)
    · exact aLt_turn (ofK_turn hx) (h2 y hy) (by decide)
  · split
    · exact ofK_srt set 22 (by decide)
    · exact ofK_srt set 0 (by decide)
  · have hy' := ht y hy
    rcases List.mem_append.1 hx with hx | hx
    · rcases List.mem_append.1 hx with hx | hx
      · exact aLt_turn (ofK_turn hx) rfl (by have : aTurn 18 = 0 := rfl; omega)
      · exact aLt_turn (ofK_turn hx) rfl (by have : aTurn 17 = 1 := rfl; omega)
    · exact aLt_turn (h2 x hx) rfl (by omega)
theorem alist_c (set : List Action) (hs : set.length ≤ 500000) : FnO Try.prog 37 [actS set] (aList set).length 11 (actL (aList set)) := by
  obtain ⟨g, h1, h2, h3⟩ := alistO_c set hs
  have e : roB (aKept set) g (aKept set).length = aList set := sort_unique (roB_sorted h1) (aList_srt set) fun c => by
    rw [roB_stable h1 h2 c, aList_filter]
  have hl := roB_len (aKept set) g (aKept set).length
  rw [e] at h3 hl
  rwa [← hl] at h3
end Go.Proofs.Ytbncoeoamjcjjaa
end

section
set_option linter.unusedVariables false
set_option linter.unusedSimpArgs false
namespace Go.Proofs.Ytbncoeoamjcjjaa
open Go Go.AI Go.Proofs
attribute [local irreducible] FnP FnO FnB FnT FnSeq WK RunQ RunQW RunX RunXW

def tOver (a b : Tern) : Tern := ⟨(a.clean.value.less b.clean.mask).or b.clean.value, a.clean.mask.or b.clean.mask⟩
def rSet (c : Cube) (f : Int) (v m : Wide) : Cube := if fRight f then (fun j => if (j : Int) = f then tOver (c j).clean ⟨v, m⟩ else (c j).clean) else cubeClean c
def aRw (a : Action) : Cube := if a.kind = 25 then rSet cubeZ a.oxm.field a.oxm.tern.value a.oxm.tern.mask else if a.kind = 17 then rSet cubeZ 5 (bitW 12) (bitW 12) else if a.kind = 18 then rSet (rSet cubeZ 5 wideZ (lowW 13)) 6 wideZ (lowW 3) else cubeZ
theorem clean_idem (t : Tern) : t.clean.clean = t.clean := by
  unfold Tern.clean Wide.and
  simp [BitVec.and_assoc]
theorem tOver_clean (a b : Tern) : tOver a.clean b = tOver a b := by unfold tOver; rw [clean_idem]
theorem tOver_zero (a : Tern) : tOver a ternZ = a.clean := by
  have h : ∀ x : BitVec 64, (x &&& ~~~(0#64)) ||| 0#64 = x := fun x => by rw [BitVec.or_zero, BitVec.not_zero, BitVec.and_allOnes]
  have h2 : ∀ x : BitVec 64, x ||| 0#64 = x := fun x => BitVec.or_zero
  have h3 : ternZ.clean = ternZ := by unfold Tern.clean Wide.and ternZ wideZ; simp
  unfold tOver
  rw [h3]
  unfold ternZ wideZ Wide.less Wide.or
  simp only [h, h2]
theorem reach_c (fid : Nat) (caps : List AV) (g : Nat → Tern) (hcl : ClL caps = true)
    (hf : ∀ i : Nat, i < 24 → FnP Try.prog fid (.int .i64 i :: caps) (.agg (g i).enc)) :
    FnP Try.prog 190 [.fn fid caps] (.agg (encC g)) := by
  refine FnP.intro Try.func190 rfl rfl fun G w => ?_
  repeat (first | refine WK.seq ?_ | refine WK.block ?_ | refine WK.inBlock ?_ | refine WK.skip ?_ | refine WK.label ?_ | refine WK.scope ?_ | refine WK.inScope ?_ | refine WK.exit rfl ?_)
  first | refine WK.reg 100 Try.ntmps190 (by kernel_rfl) ?_ | refine WK.regD 100 clsOf (by kernel_rfl) Try.ntmps190 (by kernel_rfl) (by kernel_rfl) ?_
  intro A hA Q hQ
  simp
  refine hQ _ _ ?_
  clear hQ hA
  repeat (first | refine WK.seq ?_ | refine WK.block ?_ | refine WK.inBlock ?_ | refine WK.skip ?_ | refine WK.label ?_ | refine WK.scope ?_ | refine WK.inScope ?_ | refine WK.exit rfl ?_)
  first | refine WK.reg 200 Try.ntmps190 (by kernel_rfl) ?_ | refine WK.regD 200 clsOf (by kernel_rfl) Try.ntmps190 (by kernel_rfl) (by kernel_rfl) ?_
  intro A hA Q hQ
  simp
  refine hQ _ _ ?_
  clear hQ hA
  repeat (first | refine WK.seq ?_ | refine WK.block ?_ | refine WK.inBlock ?_ | refine WK.skip ?_ | refine WK.label ?_ | refine WK.scope ?_ | refine WK.inScope ?_ | refine WK.exit rfl ?_)
  first | refine WK.reg 300 Try.ntmps190 (by kernel_rfl) ?_ | refine WK.regD 300 clsOf (by kernel_rfl) Try.ntmps190 (by kernel_rfl) (by kernel_rfl) ?_
  intro A hA Q hQ
  simp
  refine hQ _ _ ?_
  clear hQ hA
  repeat (first | refine WK.seq ?_ | refine WK.block ?_ | refine WK.inBlock ?_ | refine WK.skip ?_ | refine WK.label ?_ | refine WK.scope ?_ | refine WK.inScope ?_ | refine WK.exit rfl ?_)
  refine WK.loopI (fun n => n) (fun i : Nat => (⟨(upd (upd (upd (upd J 0 (.fn fid caps)) 2 (.ptr 0 0)) 3 (.ptr 100 0)) 5 (.int .i64 i)), (upd (upd B0 0 (.var (encC cubeZ))) 100 (.var (encC fun j => if j < i then g j else cubeZ j))), 0⟩ : St)) (fun i => i ≤ 24) (fun i => 24 - i) (0) (by repeat (first | exact TmW.nil | refine TmW.upd ?_ (by simp (maxDischargeDepth := 120) [hcl]))) (by repeat (first | exact BxW.nil | refine BxW.upd ?_ (by simp (maxDischargeDepth := 120) [hcl]))) (by first | exact InjW.id | exact InjW.nil | exact InjW.one | exact InjW.two (by simp) | exact InjW.three (by simp) (by simp) (by simp)) (by omega) (fun i hi IH => ?_)
  repeat (first | refine WK.seq ?_ | refine WK.block ?_ | refine WK.inBlock ?_ | refine WK.skip ?_ | refine WK.label ?_ | refine WK.scope ?_ | refine WK.inScope ?_ | refine WK.exit rfl ?_)
  first | refine WK.reg 400 Try.ntmps190 (by kernel_rfl) ?_ | refine WK.regD 400 clsOf (by kernel_rfl) Try.ntmps190 (by kernel_rfl) (by kernel_rfl) ?_
  intro A hA Q hQ
  simp
  refine hQ _ _ ?_
  clear hQ hA
  repeat (first | refine WK.seq ?_ | refine WK.block ?_ | refine WK.inBlock ?_ | refine WK.skip ?_ | refine WK.label ?_ | refine WK.scope ?_ | refine WK.inScope ?_ | refine WK.exit rfl ?_)
  refine WK.cond2 rfl (fun h1 => ?_) (fun h1 => ?_)
  · simp at h1
    have h2 : i < 24 := by omega
    have h3 : i * 4 + 4 ≤ 96 := by omega
    have h6 : IntKind.i64.wrap ((i : Int) + 1) = i + 1 := wrap_i64 (by omega) (by omega)
    repeat (first | refine WK.seq ?_ | refine WK.block ?_ | refine WK.inBlock ?_ | refine WK.skip ?_ | refine WK.label ?_ | refine WK.scope ?_ | refine WK.inScope ?_ | refine WK.exit rfl ?_)
    first | refine WK.reg 500 Try.ntmps190 (by kernel_rfl) ?_ | refine WK.regD 500 clsOf (by kernel_rfl) Try.ntmps190 (by kernel_rfl) (by kernel_rfl) ?_
    intro A hA Q hQ
    simp
    refine hQ _ _ ?_
    clear hQ hA
    repeat (first | refine WK.seq ?_ | refine WK.block ?_ | refine WK.inBlock ?_ | refine WK.skip ?_ | refine WK.label ?_ | refine WK.scope ?_ | refine WK.inScope ?_ | refine WK.exit rfl ?_)
    first | refine WK.reg 600 Try.ntmps190 (by kernel_rfl) ?_ | refine WK.regD 600 clsOf (by kernel_rfl) Try.ntmps190 (by kernel_rfl) (by kernel_rfl) ?_
    intro A hA Q hQ
    simp
    refine RunQ.call rfl rfl rfl rfl (by rfl) (by simp (maxDischargeDepth := 120) [hcl, h1, h2, h3, encC_set]) (hf i h2) (by simp [hcl, h1, h2, h3, encC_set]) ?_
    refine RunQ.eval ?_
    simp [hcl, h1, h2, h3, encC_set]
    refine hQ _ _ ?_
    clear hQ hA
    have h7 : encC (fun j => if j = i then g i else if j < i then g j else cubeZ j) = encC (fun j => if j < i + 1 then g j else cubeZ j) :=
      encN_congr _ _ fun j hj => by
        by_cases e : j = i
        · subst e; simp
        · by_cases e2 : j < i
          · simp [e, e2, show j < i + 1 by omega]
          · simp [e, e2, show ¬ j < i + 1 by omega]
    repeat (first | refine WK.seq ?_ | refine WK.block ?_ | refine WK.inBlock ?_ | refine WK.skip ?_ | refine WK.label ?_ | refine WK.scope ?_ | refine WK.inScope ?_ | refine WK.exit rfl ?_)
    first | refine WK.reg 700 Try.ntmps190 (by kernel_rfl) ?_ | refine WK.regD 700 clsOf (by kernel_rfl) Try.ntmps190 (by kernel_rfl) (by kernel_rfl) ?_
    intro A hA Q hQ
    simp [h6]
    refine hQ _ _ ?_
    clear hQ hA
    repeat (first | refine WK.seq ?_ | refine WK.block ?_ | refine WK.inBlock ?_ | refine WK.skip ?_ | refine WK.label ?_ | refine WK.scope ?_ | refine WK.inScope ?_ | refine WK.exit rfl ?_)
    refine WK.next (fun n => n) (IH (i + 1) (by omega) (by first | omega | (dsimp only; omega))) (by repeat (first | exact TmW.nil | refine TmW.upd ?_ (by simp (maxDischargeDepth := 120) [h7, hcl]))) (by repeat (first | exact BxW.nil | refine BxW.upd ?_ (by simp (maxDischargeDepth := 120) [h7, hcl]))) (by first | exact InjW.id | exact InjW.nil | exact InjW.one | exact InjW.two (by simp) | exact InjW.three (by simp) (by simp) (by simp))
  · simp at h1
    repeat (first | refine WK.seq ?_ | refine WK.block ?_ | refine WK.inBlock ?_ | refine WK.skip ?_ | refine WK.label ?_ | refine WK.scope ?_ | refine WK.inScope ?_ | refine WK.exit rfl ?_)
    first | refine WK.reg 800 Try.ntmps190 (by kernel_rfl) ?_ | refine WK.regD 800 clsOf (by kernel_rfl) Try.ntmps190 (by kernel_rfl) (by kernel_rfl) ?_
    intro A hA Q hQ
    simp
    refine hQ _ _ ?_
    clear hQ hA
    have h8 : encC (fun j => if j < i then g j else cubeZ j) = encC g := encN_congr _ _ fun j hj => by simp [show j < i by omega]
    repeat (first | refine WK.seq ?_ | refine WK.block ?_ | refine WK.inBlock ?_ | refine WK.skip ?_ | refine WK.label ?_ | refine WK.scope ?_ | refine WK.inScope ?_ | refine WK.exit rfl ?_)
    refine WK.ret Try.func190 (by simp (maxDischargeDepth := 120) [Try.results190, h8]) (by simp [h8])
theorem rwclean1_c (c : Cube) (i : Nat) (h2 : i < 24) : FnP Try.prog 191 [.int .i64 i, .iptr (encC c)] (.agg (c i).clean.enc) := by
  have h1 : (i : Int) < 24 := by omega
  have h3 : 4 ≤ 96 - i * 4 := by omega
  refine FnP.intro Try.func191 rfl rfl fun G w => ?_
  repeat (first | refine WK.seq ?_ | refine WK.block ?_ | refine WK.inBlock ?_ | refine WK.skip ?_ | refine WK.label ?_ | refine WK.scope ?_ | refine WK.inScope ?_ | refine WK.exit rfl ?_)
  first | refine WK.reg 100 Try.ntmps191 (by kernel_rfl) ?_ | refine WK.regD 100 clsOf (by kernel_rfl) Try.ntmps191 (by kernel_rfl) (by kernel_rfl) ?_
  intro A hA Q hQ
  simp
  refine hQ _ _ ?_
  clear hQ hA
  repeat (first | refine WK.seq ?_ | refine WK.block ?_ | refine WK.inBlock ?_ | refine WK.skip ?_ | refine WK.label ?_ | refine WK.scope ?_ | refine WK.inScope ?_ | refine WK.exit rfl ?_)
  first | refine WK.reg 200 Try.ntmps191 (by kernel_rfl) ?_ | refine WK.regD 200 clsOf (by kernel_rfl) Try.ntmps191 (by kernel_rfl) (by kernel_rfl) ?_
  intro A hA Q hQ
  simp [h1, h3, encC_sub, h2]
  refine RunQ.call rfl rfl rfl rfl (by rfl) (by simp (maxDischargeDepth := 120)) (clean_c (c i)) (by simp) ?_
  refine RunQ.eval ?_
  simp
  refine hQ _ _ ?_
  clear hQ hA
  repeat (first | refine WK.seq ?_ | refine WK.block ?_ | refine WK.inBlock ?_ | refine WK.skip ?_ | refine WK.label ?_ | refine WK.scope ?_ | refine WK.inScope ?_ | refine WK.exit rfl ?_)
  refine WK.ret Try.func191 (by simp (maxDischargeDepth := 120) [Try.results191]) (by simp)
theorem rwclean_c (c : Cube) : FnP Try.prog 151 [.agg (encC c)] (.agg (encC (cubeClean c))) := by
  refine FnP.intro Try.func151 rfl rfl fun G w => ?_
  repeat (first | refine WK.seq ?_ | refine WK.block ?_ | refine WK.inBlock ?_ | refine WK.skip ?_ | refine WK.label ?_ | refine WK.scope ?_ | refine WK.inScope ?_ | refine WK.exit rfl ?_)
  first | refine WK.reg 100 Try.ntmps151 (by kernel_rfl) ?_ | refine WK.regD 100 clsOf (by kernel_rfl) Try.ntmps151 (by kernel_rfl) (by kernel_rfl) ?_
  intro A hA Q hQ
  simp
  refine hQ _ _ ?_
  clear hQ hA
  repeat (first | refine WK.seq ?_ | refine WK.block ?_ | refine WK.inBlock ?_ | refine WK.skip ?_ | refine WK.label ?_ | refine WK.scope ?_ | refine WK.inScope ?_ | refine WK.exit rfl ?_)
  refine WK.ghost (Ghost.frzVar 1 rfl rfl) ?_
  repeat (first | refine WK.seq ?_ | refine WK.block ?_ | refine WK.inBlock ?_ | refine WK.skip ?_ | refine WK.label ?_ | refine WK.scope ?_ | refine WK.inScope ?_ | refine WK.exit rfl ?_)
  first | refine WK.reg 200 Try.ntmps151 (by kernel_rfl) ?_ | refine WK.regD 200 clsOf (by kernel_rfl) Try.ntmps151 (by kernel_rfl) (by kernel_rfl) ?_
  intro A hA Q hQ
  simp
  refine RunQ.call rfl rfl rfl rfl (by rfl) (by simp (maxDischargeDepth := 120)) (reach_c _ [.iptr (encC c)] (cubeClean c) (by simp) (fun i hi => rwclean1_c c i hi)) (by simp) ?_
  refine RunQ.eval ?_
  simp
  refine hQ _ _ ?_
  clear hQ hA
  repeat (first | refine WK.seq ?_ | refine WK.block ?_ | refine WK.inBlock ?_ | refine WK.skip ?_ | refine WK.label ?_ | refine WK.scope ?_ | refine WK.inScope ?_ | refine WK.exit rfl ?_)
  refine WK.ret Try.func151 (by simp (maxDischargeDepth := 120) [Try.results151]) (by simp)
theorem over_c (a b : Tern) : FnP Try.prog 152 [.agg a.enc, .agg b.enc] (.agg (tOver a b).enc) := by
  refine FnP.intro Try.func152 rfl rfl fun G w => ?_
  repeat' (first
   | refine WK.seq ?_
   | refine WK.block ?_
   | refine WK.inBlock ?_
   | refine WK.skip ?_
   | refine WK.label ?_
   | refine WK.scope ?_
   | refine WK.inScope ?_
   | refine WK.exit rfl ?_
   | refine WK.condT rfl ?_
   | refine WK.condF rfl ?_
   | (refine Hid.h hQ _ _ ?_; clear hQ hA)
   | refine WK.condAny rfl ?_ ?_
   | ((first | refine WK.cond2 rfl (fun h => ?_) (fun h => ?_)) <;> (first | (simp [*] at h; done) | (have h2 := h; simp at h2; exfalso; omega) | (have h2 := h; simp at h2; try simp only [Bool.not_eq_true', Bool.not_eq_false'] at h) | skip))
   | ((first | refine WK.regH Try.ntmps152 (by kernel_rfl) ?_ | refine WK.regX (by kernel_rfl) Try.ntmps152 (by kernel_rfl) ?_); intro A hA Q hQ; simp [Tern.enc, Wide.enc, *])
   | (refine Hid.h hQ _ _ _ (by decide +kernel) ?_; clear hQ hA)
   | ((first | ((first | refine RunQ.call rfl rfl rfl rfl rfl ?_ (clean_c a) ?_ ?_ | refine RunX.call rfl rfl rfl rfl ?_ (clean_c a) ?_ ?_); (focus (simp (maxDischargeDepth := 120) [Tern.enc, Wide.enc, *]; done))) | ((first | refine RunQ.call rfl rfl rfl rfl rfl ?_ (clean_c b) ?_ ?_ | refine RunX.call rfl rfl rfl rfl ?_ (clean_c b) ?_ ?_); (focus (simp (maxDischargeDepth := 120) [Tern.enc, Wide.enc, *]; done))) | ((first | refine RunQ.call rfl rfl rfl rfl rfl ?_ (less_c a.clean.value b.clean.mask) ?_ ?_ | refine RunX.call rfl rfl rfl rfl ?_ (less_c a.clean.value b.clean.mask) ?_ ?_); (focus (simp (maxDischargeDepth := 120) [Tern.enc, Wide.enc, *]; done))) | ((first | refine RunQ.call rfl rfl rfl rfl rfl ?_ (or_c (a.clean.value.less b.clean.mask) b.clean.value) ?_ ?_ | refine RunX.call rfl rfl rfl rfl ?_ (or_c (a.clean.value.less b.clean.mask) b.clean.value) ?_ ?_); (focus (simp (maxDischargeDepth := 120) [Tern.enc, Wide.enc, *]; done))) | ((first | refine RunQ.call rfl rfl rfl rfl rfl ?_ (or_c a.clean.mask b.clean.mask) ?_ ?_ | refine RunX.call rfl rfl rfl rfl ?_ (or_c a.clean.mask b.clean.mask) ?_ ?_); (focus (simp (maxDischargeDepth := 120) [Tern.enc, Wide.enc, *]; done)))); (focus (simp [Tern.enc, Wide.enc, *]; done)); (first | refine RunQ.evalH ?_ | refine RunX.evalY ?_); simp [Tern.enc, Wide.enc, *])
   | (refine WK.ret Try.func152 ?_ ?_ <;> simp (maxDischargeDepth := 120) [Try.results152, Tern.enc, Wide.enc, tOver, Tern.enc, Wide.enc, *])
   | fail)
theorem rwset_c (c : Cube) (f : Int) (v m : Wide) : FnP Try.prog 103 [.agg (encC c), .int .i64 f, .agg v.enc, .agg m.enc] (.agg (encC (rSet c f v m))) := by
  by_cases hr : fRight f = true
  · obtain ⟨n, hn⟩ : ∃ n : Nat, f = n := ⟨f.toNat, by simp [fRight] at hr; omega⟩
    subst hn
    have h2 : n < 24 := by simp [fRight] at hr; omega
    have h3 : n * 4 + 4 ≤ 96 := by omega
    have h1 : (n : Int) < 24 := by omega
    have h4 : 4 ≤ 96 - n * 4 := by omega
    have e : encC (fun j => if j = n then tOver (c n).clean ⟨v, m⟩ else cubeClean c j) = encC (rSet c n v m) := by
      unfold rSet
      rw [if_pos hr]
      refine encN_congr _ _ fun j hj => ?_
      by_cases e : j = n
      · subst e; simp
      · have : ¬ (j : Int) = n := by omega
        simp [e, this, cubeClean]
    have hs := encC_sub (cubeClean c) n h2
    have hw := encC_set (cubeClean c) n (tOver (c n).clean ⟨v, m⟩) h2
    have ho : FnP Try.prog 152 [.agg (c n).clean.enc, .agg (v.enc ++ m.enc)] (.agg (tOver (c n).clean ⟨v, m⟩).enc) := over_c (c n).clean ⟨v, m⟩
    rw [e] at hw
    obtain ⟨T, hT⟩ : ∃ T, tOver (c n).clean ⟨v, m⟩ = T := ⟨_, rfl⟩
    rw [hT] at hw ho
    clear hT e
    have hb : List.take 2 (v.enc ++ [AV.int IntKind.u64 0, AV.int IntKind.u64 0]) ++ (m.enc ++ List.drop 4 (v.enc ++ [AV.int IntKind.u64 0, AV.int IntKind.u64 0])) = v.enc ++ m.enc := rfl
    rw [show cubeClean c n = (c n).clean from rfl] at hs
    refine FnP.intro Try.func103 rfl rfl fun G w => ?_
    repeat' (first
     | refine WK.seq ?_
     | refine WK.block ?_
     | refine WK.inBlock ?_
     | refine WK.skip ?_
     | refine WK.label ?_
     | refine WK.scope ?_
     | refine WK.inScope ?_
     | refine WK.exit rfl ?_
     | refine WK.condT rfl ?_
     | refine WK.condF rfl ?_
     | (refine Hid.h hQ _ _ ?_; clear hQ hA)
     | refine WK.condAny rfl ?_ ?_
     | ((first | refine WK.cond2 rfl (fun h => ?_) (fun h => ?_)) <;> (first | (simp [*] at h; done) | (have h2 := h; simp at h2; exfalso; omega) | (have h2 := h; simp at h2; try simp only [Bool.not_eq_true', Bool.not_eq_false'] at h) | skip))
     | ((first | refine WK.regH Try.ntmps103 (by kernel_rfl) ?_ | refine WK.regX (by kernel_rfl) Try.ntmps103 (by kernel_rfl) ?_); intro A hA Q hQ; simp [*])
     | (refine Hid.h hQ _ _ _ (by decide +kernel) ?_; clear hQ hA)
     | ((first | ((first | refine RunQ.call rfl rfl rfl rfl rfl ?_ (rwclean_c c) ?_ ?_ | refine RunX.call rfl rfl rfl rfl ?_ (rwclean_c c) ?_ ?_); (focus (simp (maxDischargeDepth := 120) [*]; done))) | ((first | refine RunQ.call rfl rfl rfl rfl rfl ?_ (fright_c n) ?_ ?_ | refine RunX.call rfl rfl rfl rfl ?_ (fright_c n) ?_ ?_); (focus (simp (maxDischargeDepth := 120) [*]; done))) | ((first | refine RunQ.call rfl rfl rfl rfl rfl ?_ (ho) ?_ ?_ | refine RunX.call rfl rfl rfl rfl ?_ (ho) ?_ ?_); (focus (simp (maxDischargeDepth := 120) [*]; done)))); (focus (simp [*]; done)); (first | refine RunQ.evalH ?_ | refine RunX.evalY ?_); simp [*])
     | (refine WK.ret Try.func103 ?_ ?_ <;> simp (maxDischargeDepth := 120) [Try.results103, *])
     | fail)
  · have e : rSet c f v m = cubeClean c := by unfold rSet; rw [if_neg hr]
    have hr' : fRight f = false := by simpa using hr
    refine FnP.intro Try.func103 rfl rfl fun G w => ?_
    repeat' (first
     | refine WK.seq ?_
     | refine WK.block ?_
     | refine WK.inBlock ?_
     | refine WK.skip ?_
     | refine WK.label ?_
     | refine WK.scope ?_
     | refine WK.inScope ?_
     | refine WK.exit rfl ?_
     | refine WK.condT rfl ?_
     | refine WK.condF rfl ?_
     | (refine Hid.h hQ _ _ ?_; clear hQ hA)
     | refine WK.condAny rfl ?_ ?_
     | ((first | refine WK.cond2 rfl (fun h => ?_) (fun h => ?_)) <;> (first | (simp [*] at h; done) | (have h2 := h; simp at h2; exfalso; omega) | (have h2 := h; simp at h2; try simp only [Bool.not_eq_true', Bool.not_eq_false'] at h) | skip))
     | ((first | refine WK.regH Try.ntmps103 (by kernel_rfl) ?_ | refine WK.regX (by kernel_rfl) Try.ntmps103 (by kernel_rfl) ?_); intro A hA Q hQ; simp [*])
     | (refine Hid.h hQ _ _ _ (by decide +kernel) ?_; clear hQ hA)
     | ((first | ((first | refine RunQ.call rfl rfl rfl rfl rfl ?_ (rwclean_c c) ?_ ?_ | refine RunX.call rfl rfl rfl rfl ?_ (rwclean_c c) ?_ ?_); (focus (simp (maxDischargeDepth := 120) [*]; done))) | ((first | refine RunQ.call rfl rfl rfl rfl rfl ?_ (fright_c f) ?_ ?_ | refine RunX.call rfl rfl rfl rfl ?_ (fright_c f) ?_ ?_); (focus (simp (maxDischargeDepth := 120) [*]; done)))); (focus (simp [*]; done)); (first | refine RunQ.evalH ?_ | refine RunX.evalY ?_); simp [*])
     | (refine WK.ret Try.func103 ?_ ?_ <;> simp (maxDischargeDepth := 120) [Try.results103, e, *])
     | fail)
theorem rwnone_c : FnP Try.prog 46 [] (.agg (encC cubeZ)) := by
  refine FnP.intro Try.func46 rfl rfl fun G w => ?_
  repeat' (first
   | refine WK.seq ?_
   | refine WK.block ?_
   | refine WK.inBlock ?_
   | refine WK.skip ?_
   | refine WK.label ?_
   | refine WK.scope ?_
   | refine WK.inScope ?_
   | refine WK.exit rfl ?_
   | refine WK.condT rfl ?_
   | refine WK.condF rfl ?_
   | (refine Hid.h hQ _ _ ?_; clear hQ hA)
   | refine WK.condAny rfl ?_ ?_
   | ((first | refine WK.cond2 rfl (fun h => ?_) (fun h => ?_)) <;> (first | (simp [*] at h; done) | (have h2 := h; simp at h2; exfalso; omega) | (have h2 := h; simp at h2; try simp only [Bool.not_eq_true', Bool.not_eq_false'] at h) | skip))
   | (refine WK.regH Try.ntmps46 (by kernel_rfl) ?_; intro A hA Q hQ; simp [*])
   | (refine WK.ret Try.func46 ?_ ?_ <;> simp (maxDischargeDepth := 120) [Try.results46, *])
   | fail)
theorem bit12_c : FnP Try.prog 104 [.int .i64 12] (.agg (bitW 12).enc) := by
  have w0 : IntKind.i64.wrap 0 = 0 := rfl
  have w1 : IntKind.i64.wrap 12 = 12 := rfl
  have w2 : bShl IntKind.u64 1 12 = 4096 := rfl
  have w3 : (bitW 12).enc = [.int .u64 0, .int .u64 4096] := rfl
  refine FnP.intro Try.func104 rfl rfl fun G w => ?_
  repeat' (first
   | refine WK.seq ?_
   | refine WK.block ?_
   | refine WK.inBlock ?_
   | refine WK.skip ?_
   | refine WK.label ?_
   | refine WK.scope ?_
   | refine WK.inScope ?_
   | refine WK.exit rfl ?_
   | refine WK.condT rfl ?_
   | refine WK.condF rfl ?_
   | (refine Hid.h hQ _ _ ?_; clear hQ hA)
   | refine WK.condAny rfl ?_ ?_
   | ((first | refine WK.cond2 rfl (fun h => ?_) (fun h => ?_) | refine Fork.mk (fun h => ?_) (fun h => ?_)) <;> (first | (simp [*] at h; done) | (have h2 := h; simp at h2; exfalso; omega) | (have h2 := h; simp at h2; try simp only [Bool.not_eq_true', Bool.not_eq_false'] at h) | skip))
   | (refine WK.regH Try.ntmps104 (by kernel_rfl) ?_; intro A hA Q hQ; simp [*])
   | (refine RunQ.gd rfl (by rw [hA.h]; rfl) ?_; simp [*])
   | (refine WK.ret Try.func104 ?_ ?_ <;> simp (maxDischargeDepth := 120) [Try.results104, *])
   | fail)
theorem arw_c (a : Action) : FnP Try.prog 39 [.agg a.enc] (.agg (encC (aRw a))) := by
  have hl := low_c 13
  have hl2 := low_c 3
  have hz : (Wide.enc wideZ) = [.int .u64 0, .int .u64 0] := rfl
  by_cases k1 : a.kind = 25
  · have e : aRw a = rSet cubeZ a.oxm.field a.oxm.tern.value a.oxm.tern.mask := by unfold aRw; rw [if_pos k1]
    obtain ⟨o, ho⟩ : ∃ o, a.oxm = o := ⟨_, rfl⟩
    rw [ho] at e
    have hs := rwset_c cubeZ o.field o.tern.value o.tern.mask
    have ht := otern_c o
    obtain ⟨t, hT⟩ : ∃ t, o.tern = t := ⟨_, rfl⟩
    rw [hT] at hs ht e
    refine FnP.intro Try.func39 rfl rfl fun G w => ?_
    repeat' (first
     | refine WK.seq ?_
     | refine WK.block ?_
     | refine WK.inBlock ?_
     | refine WK.skip ?_
     | refine WK.label ?_
     | refine WK.scope ?_
     | refine WK.inScope ?_
     | refine WK.exit rfl ?_
     | refine WK.condT rfl ?_
     | refine WK.condF rfl ?_
     | (refine Hid.h hQ _ _ ?_; clear hQ hA)
     | refine WK.condAny rfl ?_ ?_
     | ((first | refine WK.cond2 rfl (fun h => ?_) (fun h => ?_)) <;> (first | (simp [*] at h; done) | (have h2 := h; simp at h2; exfalso; omega) | (have h2 := h; simp at h2; try simp only [Bool.not_eq_true', Bool.not_eq_false'] at h) | skip))
     | ((first | refine WK.regH Try.ntmps39 (by kernel_rfl) ?_ | refine WK.regX (by kernel_rfl) Try.ntmps39 (by kernel_rfl) ?_); intro A hA Q hQ; simp [Action.enc, Oxm.enc, Tern.enc, Wide.enc, *])
     | (refine Hid.h hQ _ _ _ (by decide +kernel) ?_; clear hQ hA)
     | ((first | ((first | refine RunQ.call rfl rfl rfl rfl rfl ?_ (rwnone_c) ?_ ?_ | refine RunX.call rfl rfl rfl rfl ?_ (rwnone_c) ?_ ?_); (focus (simp (maxDischargeDepth := 120) [Action.enc, Oxm.enc, Tern.enc, Wide.enc, *]; done))) | ((first | refine RunQ.call rfl rfl rfl rfl rfl ?_ (ht) ?_ ?_ | refine RunX.call rfl rfl rfl rfl ?_ (ht) ?_ ?_); (focus (simp (maxDischargeDepth := 120) [Action.enc, Oxm.enc, Tern.enc, Wide.enc, *]; done))) | ((first | refine RunQ.call rfl rfl rfl rfl rfl ?_ (hs) ?_ ?_ | refine RunX.call rfl rfl rfl rfl ?_ (hs) ?_ ?_); (focus (simp (maxDischargeDepth := 120) [Action.enc, Oxm.enc, Tern.enc, Wide.enc, *]; done)))); (focus (simp [Action.enc, Oxm.enc, Tern.enc, Wide.enc, *]; done)); (first | refine RunQ.evalH ?_ | refine RunX.evalY ?_); simp [Action.enc, Oxm.enc, Tern.enc, Wide.enc, *])
     | (refine WK.ret Try.func39 ?_ ?_ <;> simp (maxDischargeDepth := 120) [Try.results39, Action.enc, Oxm.enc, Tern.enc, Wide.enc, e, *])
     | fail)
  by_cases k2 : a.kind = 17
  · have e : aRw a = rSet cubeZ 5 (bitW 12) (bitW 12) := by unfold aRw; rw [if_neg k1, if_pos k2]
    have hs := rwset_c cubeZ 5 (bitW 12) (bitW 12)
    refine FnP.intro Try.func39 rfl rfl fun G w => ?_
    repeat' (first
     | refine WK.seq ?_
     | refine WK.block ?_
     | refine WK.inBlock ?_
     | refine WK.skip ?_
     | refine WK.label ?_
     | refine WK.scope ?_
     | refine WK.inScope ?_
     | refine WK.exit rfl ?_
     | refine WK.condT rfl ?_
     | refine WK.condF rfl ?_
     | (refine Hid.h hQ _ _ ?_; clear hQ hA)
     | refine WK.condAny rfl ?_ ?_
     | ((first | refine WK.cond2 rfl (fun h => ?_) (fun h => ?_)) <;> (first | (simp [*] at h; done) | (have h2 := h; simp at h2; exfalso; omega) | (have h2 := h; simp at h2; try simp only [Bool.not_eq_true', Bool.not_eq_false'] at h) | skip))
     | ((first | refine WK.regH Try.ntmps39 (by kernel_rfl) ?_ | refine WK.regX (by kernel_rfl) Try.ntmps39 (by kernel_rfl) ?_); intro A hA Q hQ; simp [Action.enc, *])
     | (refine Hid.h hQ _ _ _ (by decide +kernel) ?_; clear hQ hA)
     | ((first | ((first | refine RunQ.call rfl rfl rfl rfl rfl ?_ (rwnone_c) ?_ ?_ | refine RunX.call rfl rfl rfl rfl ?_ (rwnone_c) ?_ ?_); (focus (simp (maxDischargeDepth := 120) [Action.enc, *]; done))) | ((first | refine RunQ.call rfl rfl rfl rfl rfl ?_ (bit12_c) ?_ ?_ | refine RunX.call rfl rfl rfl rfl ?_ (bit12_c) ?_ ?_); (focus (simp (maxDischargeDepth := 120) [Action.enc, *]; done))) | ((first | refine RunQ.call rfl rfl rfl rfl rfl ?_ (hs) ?_ ?_ | refine RunX.call rfl rfl rfl rfl ?_ (hs) ?_ ?_); (focus (simp (maxDischargeDepth := 120) [Action.enc, *]; done)))); (focus (simp [Action.enc, *]; done)); (first | refine RunQ.evalH ?_ | refine RunX.evalY ?_); simp [Action.enc, *])
     | (refine WK.ret Try.func39 ?_ ?_ <;> simp (maxDischargeDepth := 120) [Try.results39, Action.enc, e, *])
     | fail)
  by_cases k3 : a.kind = 18
  · have e : aRw a = rSet (rSet cubeZ 5 wideZ (lowW 13)) 6 wideZ (lowW 3) := by unfold aRw; rw [if_neg k1, if_neg k2, if_pos k3]
    have hs := rwset_c cubeZ 5 wideZ (lowW 13)
    have hs2 := rwset_c (rSet cubeZ 5 wideZ (lowW 13)) 6 wideZ (lowW 3)
    rw [hz] at hs hs2
    refine FnP.intro Try.func39 rfl rfl fun G w => ?_
    repeat' (first
     | refine WK.seq ?_
     | refine WK.block ?_
     | refine WK.inBlock ?_
     | refine WK.skip ?_
     | refine WK.label ?_
     | refine WK.scope ?_
     | refine WK.inScope ?_
     | refine WK.exit rfl ?_
     | refine WK.condT rfl ?_
     | refine WK.condF rfl ?_
     | (refine Hid.h hQ _ _ ?_; clear hQ hA)
     | refine WK.condAny rfl ?_ ?_
     | ((first | refine WK.cond2 rfl (fun h => ?_) (fun h => ?_)) <;> (first | (simp [*] at h; done) | (have h2 := h; simp at h2; exfalso; omega) | (have h2 := h; simp at h2; try simp only [Bool.not_eq_true', Bool.not_eq_false'] at h) | skip))
     | ((first | refine WK.regH Try.ntmps39 (by kernel_rfl) ?_ | refine WK.regX (by kernel_rfl) Try.ntmps39 (by kernel_rfl) ?_); intro A hA Q hQ; simp [Action.enc, *])
     | (refine Hid.h hQ _ _ _ (by decide +kernel) ?_; clear hQ hA)
     | ((first | ((first | refine RunQ.call rfl rfl rfl rfl rfl ?_ (rwnone_c) ?_ ?_ | refine RunX.call rfl rfl rfl rfl ?_ (rwnone_c) ?_ ?_); (focus (simp (maxDischargeDepth := 120) [Action.enc, *]; done))) | ((first | refine RunQ.call rfl rfl rfl rfl rfl ?_ (hl) ?_ ?_ | refine RunX.call rfl rfl rfl rfl ?_ (hl) ?_ ?_); (focus (simp (maxDischargeDepth := 120) [Action.enc, *]; done))) | ((first | refine RunQ.call rfl rfl rfl rfl rfl ?_ (hl2) ?_ ?_ | refine RunX.call rfl rfl rfl rfl ?_ (hl2) ?_ ?_); (focus (simp (maxDischargeDepth := 120) [Action.enc, *]; done))) | ((first | refine RunQ.call rfl rfl rfl rfl rfl ?_ (hs) ?_ ?_ | refine RunX.call rfl rfl rfl rfl ?_ (hs) ?_ ?_); (focus (simp (maxDischargeDepth := 120) [Action.enc, *]; done))) | ((first | refine RunQ.call rfl rfl rfl rfl rfl ?_ (hs2) ?_ ?_ | refine RunX.call rfl rfl rfl rfl ?_ (hs2) ?_ ?_); (focus (simp (maxDischargeDepth := 120) [Action.enc, *]; done)))); (focus (simp [Action.enc, *]; done)); (first | refine RunQ.evalH ?_ | refine RunX.evalY ?_); simp [Action.enc, *])
     | (refine WK.ret Try.func39 ?_ ?_ <;> simp (maxDischargeDepth := 120) [Try.results39, Action.enc, e, *])
     | fail)
  · have e : aRw a = cubeZ := by unfold aRw; rw [if_neg k1, if_neg k2, if_neg k3]
    refine FnP.intro Try.func39 rfl rfl fun G w => ?_
    repeat' (first
     | refine WK.seq ?_
     | refine WK.block ?_
     | refine WK.inBlock ?_
     | refine WK.skip ?_
     | refine WK.label ?_
     | refine WK.scope ?_
     | refine WK.inScope ?_
     | refine WK.exit rfl ?_
     | refine WK.condT rfl ?_
     | refine WK.condF rfl ?_
     | (refine Hid.h hQ _ _ ?_; clear hQ hA)
     | refine WK.condAny rfl ?_ ?_
     | ((first | refine WK.cond2 rfl (fun h => ?_) (fun h => ?_)) <;> (first | (simp [*] at h; done) | (have h2 := h; simp at h2; exfalso; omega) | (have h2 := h; simp at h2; try simp only [Bool.not_eq_true', Bool.not_eq_false'] at h) | skip))
     | ((first | refine WK.regH Try.ntmps39 (by kernel_rfl) ?_ | refine WK.regX (by kernel_rfl) Try.ntmps39 (by kernel_rfl) ?_); intro A hA Q hQ; simp [Action.enc, *])
     | (refine Hid.h hQ _ _ _ (by decide +kernel) ?_; clear hQ hA)
     | (((first | refine RunQ.call rfl rfl rfl rfl rfl ?_ (rwnone_c) ?_ ?_ | refine RunX.call rfl rfl rfl rfl ?_ (rwnone_c) ?_ ?_); (focus (simp (maxDischargeDepth := 120) [Action.enc, *]; done))); (focus (simp [Action.enc, *]; done)); (first | refine RunQ.evalH ?_ | refine RunX.evalY ?_); simp [Action.enc, *])
     | (refine WK.ret Try.func39 ?_ ?_ <;> simp (maxDischargeDepth := 120) [Try.results39, Action.enc, e, *])
     | fail)
end Go.Proofs.Ytbncoeoamjcjjaa
end
