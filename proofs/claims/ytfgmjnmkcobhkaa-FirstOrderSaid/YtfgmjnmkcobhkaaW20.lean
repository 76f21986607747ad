/- The flows of a table that have a header, in their order: by the program, and by the reference. -/
import Derived.Test.YtfgmjnmkcobhkaaW19
set_option linter.all false
set_option linter.unnecessarySimpa false
set_option linter.unusedVariables false
set_option linter.unusedSimpArgs false
namespace Go.Proofs.Ytfgmjnmkcobhkaa
open Go Go.AI Go.Proofs

theorem filt_get {α : Type} [Inhabited α] {p : α → Bool} {O : List α} {i : Nat} (h : i < O.length) (hp : p (nth O i) = true) :
    (O.filter p)[((O.take i).filter p).length]? = some (nth O i) ∧ ((O.take i).filter p).length < (O.filter p).length := by
  have e : O = O.take i ++ nth O i :: O.drop (i + 1) := by
    have := List.take_append_drop i O
    rw [List.drop_eq_getElem_cons h] at this
    rw [nth_eq h]; exact this.symm
  have e2 : O.filter p = (O.take i).filter p ++ nth O i :: (O.drop (i + 1)).filter p := by
    conv => lhs; rw [e, List.filter_append, List.filter_cons, hp]
    rfl
  rw [e2]
  constructor
  · simp
  · simp
theorem filt_succ {α : Type} [Inhabited α] {p : α → Bool} {O : List α} {i : Nat} (h : i < O.length) :
    (O.take (i + 1)).filter p = if p (nth O i) then (O.take i).filter p ++ [nth O i] else (O.take i).filter p := by
  rw [take_nth h, List.filter_append]
  by_cases hp : p (nth O i) = true <;> simp [hp]
theorem filt_len {α : Type} (p : α → Bool) (O : List α) (i : Nat) : ((O.take i).filter p).length ≤ O.length := by
  have h1 := List.length_filter_le p (O.take i)
  have h2 : (O.take i).length ≤ O.length := by simp; omega
  omega
theorem yInt_some {L : List Int} {k : Nat} {x : Int} (h : L[k]? = some x) : (yInt L)[k]? = some [.int .i64 x] := by simp [yInt, h]
def orderOf (l : List Flow) : List Int := ordN (prioAt l) l.length
theorem orderOf_len (l : List Flow) : (orderOf l).length = l.length := ordN_len _ _
theorem orderOf_mem {l : List Flow} {x : Int} (h : x ∈ orderOf l) : ∃ q : Nat, x = q ∧ q < l.length := by
  have := ordN_mem _ _ _ h
  exact ⟨x.toNat, by omega, by omega⟩
def hasAt (l : List Flow) (h : Header) (x : Int) : Bool := cubeHas (Flow.cube (nth l x.toNat)) h
def firsts (l : List Flow) (h : Header) : List Int := (orderOf l).filter (hasAt l h)
theorem firsts_len (l : List Flow) (h : Header) : (firsts l h).length ≤ l.length := by
  have := List.length_filter_le (hasAt l h) (orderOf l)
  rw [orderOf_len] at this; exact this
theorem seqAll_c (l : List Flow) (h : Header) (hl : l.length ≤ 20) (hf : ∀ f, f ∈ l → FPl f) :
    FnSeq Try.prog 84 [.iptr [.sl false l.length (flowL l)], .iptr (encH h)] (yInt (firsts l h)) := by
  have ho := orderOf_len l
  have hc : FnP Try.prog 43 [flowS l] (.sl false (orderOf l).length (intL (orderOf l))) := order_c l hl
  refine FnSeq.intro Try.func84 rfl rfl fun lp Y go hW G w own => ?_
  repeat (first | refine WK.seq ?_ | refine WK.block ?_ | refine WK.inBlock ?_ | refine WK.skip ?_ | refine WK.label ?_ | refine WK.scope ?_ | refine WK.inScope ?_ | refine WK.exit rfl ?_)
  first | refine WK.reg 100 Try.ntmps84 (by kernel_rfl) ?_ | refine WK.regD 100 clsOf (by kernel_rfl) Try.ntmps84 (by kernel_rfl) (by kernel_rfl) ?_
  intro A hA Q hQ
  simp
  refine RunQ.call rfl rfl rfl rfl (by rfl) (by simp (maxDischargeDepth := 120) [flowS]) (hc) (by simp [flowS]) ?_
  refine RunQ.eval ?_
  simp [flowS]
  refine hQ _ _ ?_
  clear hQ hA
  repeat (first | refine WK.seq ?_ | refine WK.block ?_ | refine WK.inBlock ?_ | refine WK.skip ?_ | refine WK.label ?_ | refine WK.scope ?_ | refine WK.inScope ?_ | refine WK.exit rfl ?_)
  refine WK.loopI (fun n => n) (fun i : Nat => (⟨(upd (upd (upd (upd (upd (upd J 0 (.yv lp)) 1 (.iptr [.sl false l.length (flowL l)])) 2 (.iptr (encH h))) 7 (.sl false (orderOf l).length (intL (orderOf l)))) 8 (.int .i64 (orderOf l).length)) 9 (.int .i64 i)), (upd B0 0 (.frn Y (((orderOf l).take i).filter (hasAt l h)).length)), 0⟩ : St)) (fun i => i ≤ (orderOf l).length ∧ ∀ j, j < (((orderOf l).take i).filter (hasAt l h)).length → go j = true) (fun i => (orderOf l).length - i) (0) (by repeat (first | exact TmW.nil | refine TmW.upd ?_ (by simp (maxDischargeDepth := 120)))) (by repeat (first | exact BxW.nil | refine BxW.upd ?_ (by simp (maxDischargeDepth := 120)))) (by first | exact InjW.id | exact InjW.nil | exact InjW.one | exact InjW.two (by simp) | exact InjW.three (by simp) (by simp) (by simp)) (⟨by omega, by simp⟩) (fun i hi IH => ?_)
  repeat (first | refine WK.seq ?_ | refine WK.block ?_ | refine WK.inBlock ?_ | refine WK.skip ?_ | refine WK.label ?_ | refine WK.scope ?_ | refine WK.inScope ?_ | refine WK.exit rfl ?_)
  first | refine WK.reg 200 Try.ntmps84 (by kernel_rfl) ?_ | refine WK.regD 200 clsOf (by kernel_rfl) Try.ntmps84 (by kernel_rfl) (by kernel_rfl) ?_
  intro A hA Q hQ
  simp
  refine hQ _ _ ?_
  clear hQ hA
  repeat (first | refine WK.seq ?_ | refine WK.block ?_ | refine WK.inBlock ?_ | refine WK.skip ?_ | refine WK.label ?_ | refine WK.scope ?_ | refine WK.inScope ?_ | refine WK.exit rfl ?_)
  refine WK.cond2 rfl (fun h1 => ?_) (fun h1 => ?_)
  · simp at h1
    have h2 : i < (orderOf l).length := by omega
    obtain ⟨q, hq, hql⟩ := orderOf_mem (nth_mem h2)
    have h3 : 7 ≤ l.length * 7 - q * 7 := by omega
    have h4 := flow_sub l q hql
    have h5 := int_sub (orderOf l) i h2
    have h6 : IntKind.i64.wrap ((i : Int) + 1) = i + 1 := wrap_i64 (by omega) (by omega)
    have hp : hasAt l h (nth (orderOf l) i) = cubeHas (Flow.cube (nth l q)) h := by unfold hasAt; rw [hq]; rfl
    have hs := filt_succ (p := hasAt l h) h2
    repeat (first | refine WK.seq ?_ | refine WK.block ?_ | refine WK.inBlock ?_ | refine WK.skip ?_ | refine WK.label ?_ | refine WK.scope ?_ | refine WK.inScope ?_ | refine WK.exit rfl ?_)
    first | refine WK.reg 300 Try.ntmps84 (by kernel_rfl) ?_ | refine WK.regD 300 clsOf (by kernel_rfl) Try.ntmps84 (by kernel_rfl) (by kernel_rfl) ?_
    intro A hA Q hQ
    simp [h2, h5, hq]
    refine hQ _ _ ?_
    clear hQ hA
    repeat (first | refine WK.seq ?_ | refine WK.block ?_ | refine WK.inBlock ?_ | refine WK.skip ?_ | refine WK.label ?_ | refine WK.scope ?_ | refine WK.inScope ?_ | refine WK.exit rfl ?_)
    first | refine WK.reg 400 Try.ntmps84 (by kernel_rfl) ?_ | refine WK.regD 400 clsOf (by kernel_rfl) Try.ntmps84 (by kernel_rfl) (by kernel_rfl) ?_
    intro A hA Q hQ
    simp [h3, h4, hql, hq]
    refine RunQ.call rfl rfl rfl rfl (by rfl) (by simp (maxDischargeDepth := 120)) (fcube_c (nth l q) (hf _ (nth_mem hql)).ok.mat) (by simp) ?_
    refine RunQ.eval ?_
    simp
    refine RunQ.call rfl rfl rfl rfl (by rfl) (by simp (maxDischargeDepth := 120)) (chas_c (Flow.cube (nth l q)) h) (by simp) ?_
    refine RunQ.eval ?_
    simp
    refine hQ _ _ ?_
    clear hQ hA
    repeat (first | refine WK.seq ?_ | refine WK.block ?_ | refine WK.inBlock ?_ | refine WK.skip ?_ | refine WK.label ?_ | refine WK.scope ?_ | refine WK.inScope ?_ | refine WK.exit rfl ?_)
    refine WK.cond2 rfl (fun h8 => ?_) (fun h8 => ?_)
    · have h8' : hasAt l h (nth (orderOf l) i) = false := by rw [hp]; simpa using h8
      rw [h8'] at hs
      repeat (first | refine WK.seq ?_ | refine WK.block ?_ | refine WK.inBlock ?_ | refine WK.skip ?_ | refine WK.label ?_ | refine WK.scope ?_ | refine WK.inScope ?_ | refine WK.exit rfl ?_)
      first | refine WK.reg 500 Try.ntmps84 (by kernel_rfl) ?_ | refine WK.regD 500 clsOf (by kernel_rfl) Try.ntmps84 (by kernel_rfl) (by kernel_rfl) ?_
      intro A hA Q hQ
      simp [h6]
      refine hQ _ _ ?_
      clear hQ hA
      repeat (first | refine WK.seq ?_ | refine WK.block ?_ | refine WK.inBlock ?_ | refine WK.skip ?_ | refine WK.label ?_ | refine WK.scope ?_ | refine WK.inScope ?_ | refine WK.exit rfl ?_)
      refine WK.next (fun n => n) (IH (i + 1) (⟨by omega, by rw [hs]; exact hi.2⟩) (by omega)) (by repeat (first | exact TmW.nil | refine TmW.upd ?_ (by simp (maxDischargeDepth := 120) [hs, h6]))) (by repeat (first | exact BxW.nil | refine BxW.upd ?_ (by simp (maxDischargeDepth := 120) [hs, h6]))) (by first | exact InjW.id | exact InjW.nil | exact InjW.one | exact InjW.two (by simp) | exact InjW.three (by simp) (by simp) (by simp))
    · have h8' : hasAt l h (nth (orderOf l) i) = true := by rw [hp]; simpa using h8
      rw [h8'] at hs
      obtain ⟨hx, hk⟩ := filt_get h2 h8'
      have hx' := yInt_some hx
      rw [hq] at hx'
      repeat (first | refine WK.seq ?_ | refine WK.block ?_ | refine WK.inBlock ?_ | refine WK.skip ?_ | refine WK.label ?_ | refine WK.scope ?_ | refine WK.inScope ?_ | refine WK.exit rfl ?_)
      first | refine WK.reg 600 Try.ntmps84 (by kernel_rfl) ?_ | refine WK.regD 600 clsOf (by kernel_rfl) Try.ntmps84 (by kernel_rfl) (by kernel_rfl) ?_
      intro A hA Q hQ
      simp [hq]
      refine RunQ.yield 0 hW rfl rfl rfl (by simp) rfl rfl (hx') (hi.2) (by simp) (by simp) ?_
      refine RunQ.eval ?_
      simp
      refine hQ _ _ ?_
      clear hQ hA
      repeat (first | refine WK.seq ?_ | refine WK.block ?_ | refine WK.inBlock ?_ | refine WK.skip ?_ | refine WK.label ?_ | refine WK.scope ?_ | refine WK.inScope ?_ | refine WK.exit rfl ?_)
      refine WK.cond2 rfl (fun h7 => ?_) (fun h7 => ?_)
      · have h7' : go (((orderOf l).take i).filter (hasAt l h)).length = false := by simpa using h7
        have h9 := taken_stop (n := (yInt (firsts l h)).length) hi.2 h7' (by rw [yInt_len]; exact hk)
        repeat (first | refine WK.seq ?_ | refine WK.block ?_ | refine WK.inBlock ?_ | refine WK.skip ?_ | refine WK.label ?_ | refine WK.scope ?_ | refine WK.inScope ?_ | refine WK.exit rfl ?_)
        refine WK.retY Try.func84 (by simp (maxDischargeDepth := 120) [Try.results84, h9]) (by simp [h9]) rfl (.inl rfl)
      · have h7' : go (((orderOf l).take i).filter (hasAt l h)).length = true := by simpa using h7
        repeat (first | refine WK.seq ?_ | refine WK.block ?_ | refine WK.inBlock ?_ | refine WK.skip ?_ | refine WK.label ?_ | refine WK.scope ?_ | refine WK.inScope ?_ | refine WK.exit rfl ?_)
        first | refine WK.reg 700 Try.ntmps84 (by kernel_rfl) ?_ | refine WK.regD 700 clsOf (by kernel_rfl) Try.ntmps84 (by kernel_rfl) (by kernel_rfl) ?_
        intro A hA Q hQ
        simp [h6]
        refine hQ _ _ ?_
        clear hQ hA
        repeat (first | refine WK.seq ?_ | refine WK.block ?_ | refine WK.inBlock ?_ | refine WK.skip ?_ | refine WK.label ?_ | refine WK.scope ?_ | refine WK.inScope ?_ | refine WK.exit rfl ?_)
        refine WK.next (fun n => n) (IH (i + 1) (⟨by omega, by rw [hs]; intro j hj; simp at hj; by_cases h9 : j = (((orderOf l).take i).filter (hasAt l h)).length; (subst h9; exact h7'); exact hi.2 j (by omega)⟩) (by omega)) (by repeat (first | exact TmW.nil | refine TmW.upd ?_ (by simp (maxDischargeDepth := 120) [hs, h6]))) (by repeat (first | exact BxW.nil | refine BxW.upd ?_ (by simp (maxDischargeDepth := 120) [hs, h6]))) (by first | exact InjW.id | exact InjW.nil | exact InjW.one | exact InjW.two (by simp) | exact InjW.three (by simp) (by simp) (by simp))
  · simp at h1
    have e : (orderOf l).take i = orderOf l := List.take_of_length_le (by omega)
    have h9 := taken_all (go := go) (n := (yInt (firsts l h)).length) (by rw [yInt_len]; have := hi.2; rw [e] at this; exact this)
    have h10 : taken go (yInt (firsts l h)).length = (((orderOf l).take i).filter (hasAt l h)).length := by rw [h9, yInt_len, e]; rfl
    repeat (first | refine WK.seq ?_ | refine WK.block ?_ | refine WK.inBlock ?_ | refine WK.skip ?_ | refine WK.label ?_ | refine WK.scope ?_ | refine WK.inScope ?_ | refine WK.exit rfl ?_)
    refine WK.retY Try.func84 (by simp (maxDischargeDepth := 120) [Try.results84, h10]) (by simp [h10]) rfl (.inl rfl)
theorem firstAll_c (l : List Flow) (h : Header) : FnP Try.prog 44 [flowS l, .agg (encH h)] (.fn 84 [.iptr [.sl false l.length (flowL l)], .iptr (encH h)]) := by
  unfold flowS
  refine FnP.intro Try.func44 rfl rfl fun G w => ?_
  repeat (first | refine WK.seq ?_ | refine WK.block ?_ | refine WK.inBlock ?_ | refine WK.skip ?_ | refine WK.label ?_ | refine WK.scope ?_ | refine WK.inScope ?_ | refine WK.exit rfl ?_)
  first | refine WK.reg 100 Try.ntmps44 (by kernel_rfl) ?_ | refine WK.regD 100 clsOf (by kernel_rfl) Try.ntmps44 (by kernel_rfl) (by kernel_rfl) ?_
  intro A hA Q hQ
  simp
  refine hQ _ _ ?_
  clear hQ hA
  repeat (first | refine WK.seq ?_ | refine WK.block ?_ | refine WK.inBlock ?_ | refine WK.skip ?_ | refine WK.label ?_ | refine WK.scope ?_ | refine WK.inScope ?_ | refine WK.exit rfl ?_)
  refine WK.ghost (Ghost.frzVar 2 rfl rfl) ?_
  refine WK.ghost (Ghost.frzVar 3 rfl rfl) ?_
  repeat (first | refine WK.seq ?_ | refine WK.block ?_ | refine WK.inBlock ?_ | refine WK.skip ?_ | refine WK.label ?_ | refine WK.scope ?_ | refine WK.inScope ?_ | refine WK.exit rfl ?_)
  first | refine WK.reg 200 Try.ntmps44 (by kernel_rfl) ?_ | refine WK.regD 200 clsOf (by kernel_rfl) Try.ntmps44 (by kernel_rfl) (by kernel_rfl) ?_
  intro A hA Q hQ
  simp
  refine hQ _ _ ?_
  clear hQ hA
  repeat (first | refine WK.seq ?_ | refine WK.block ?_ | refine WK.inBlock ?_ | refine WK.skip ?_ | refine WK.label ?_ | refine WK.scope ?_ | refine WK.inScope ?_ | refine WK.exit rfl ?_)
  refine WK.ret Try.func44 (by simp (maxDischargeDepth := 120) [Try.results44]) (by simp)
theorem taken_false (n : Nat) : taken (fun _ => false) n = if n = 0 then 0 else 1 := by cases n <;> rfl
def headI (L : List Int) : Int := L.headD 0
def someI (L : List Int) : Bool := !L.isEmpty
theorem find_c (l : List Flow) (h : Header) (hl : l.length ≤ 20) (hf : ∀ f, f ∈ l → FPl f) :
    FnP Try.prog 45 [flowS l, .agg (encH h)] (.tup [.int .i64 (headI (firsts l h)), .bool (someI (firsts l h))]) := by
  have hy := yInt_all (firsts l h)
  have hcl : Cl (AV.fn 84 [.iptr [.sl false l.length (flowL l)], .iptr (encH h)]) = true := by simp
  refine FnP.intro Try.func45 rfl rfl fun G w => ?_
  repeat (first | refine WK.seq ?_ | refine WK.block ?_ | refine WK.inBlock ?_ | refine WK.skip ?_ | refine WK.label ?_ | refine WK.scope ?_ | refine WK.inScope ?_ | refine WK.exit rfl ?_)
  first | refine WK.reg 100 Try.ntmps45 (by kernel_rfl) ?_ | refine WK.regD 100 clsOf (by kernel_rfl) Try.ntmps45 (by kernel_rfl) (by kernel_rfl) ?_
  intro A hA Q hQ
  simp
  refine hQ _ _ ?_
  clear hQ hA
  repeat (first | refine WK.seq ?_ | refine WK.block ?_ | refine WK.inBlock ?_ | refine WK.skip ?_ | refine WK.label ?_ | refine WK.scope ?_ | refine WK.inScope ?_ | refine WK.exit rfl ?_)
  first | refine WK.reg 200 Try.ntmps45 (by kernel_rfl) ?_ | refine WK.regD 200 clsOf (by kernel_rfl) Try.ntmps45 (by kernel_rfl) (by kernel_rfl) ?_
  intro A hA Q hQ
  simp [flowS]
  refine RunQ.call rfl rfl rfl rfl (by rfl) (by simp (maxDischargeDepth := 120) [flowS]) (firstAll_c l h) (by simp [flowS]) ?_
  refine RunQ.eval ?_
  simp [flowS]
  refine hQ _ _ ?_
  clear hQ hA
  repeat (first | refine WK.seq ?_ | refine WK.block ?_ | refine WK.inBlock ?_ | refine WK.skip ?_ | refine WK.label ?_ | refine WK.scope ?_ | refine WK.inScope ?_ | refine WK.exit rfl ?_)
  refine WK.next (st' := ⟨(upd (upd (upd J 4 (.ptr 1 0)) 5 (.ptr 2 0)) 9 (.fn 84 [.iptr [.sl false l.length (flowL l)], .iptr (encH h)])), (fun i : Nat => (upd (upd B0 1 (.var [.int .i64 (if i = 0 then 0 else headI (firsts l h))])) 2 (.var [.bool (if i = 0 then false else true)]))) 0, 0⟩) (fun n => n) ?_ (by repeat (first | exact TmW.nil | refine TmW.upd ?_ (by simp (maxDischargeDepth := 120)))) (by repeat (first | exact BxW.nil | refine BxW.upd ?_ (by simp (maxDischargeDepth := 120)))) (by first | exact InjW.id | exact InjW.nil | exact InjW.one | exact InjW.two (by simp) | exact InjW.three (by simp) (by simp) (by simp))
  refine WK.rangeM (yInt (firsts l h)) (fun _ => false) (fun _ => some .ret) (fun i : Nat => (upd (upd B0 1 (.var [.int .i64 (if i = 0 then 0 else headI (firsts l h))])) 2 (.var [.bool (if i = 0 then false else true)]))) [1, 2] rfl (seqAll_c l h hl hf) (by simp) (by kernel_rfl) (hy) (fun i => by simp) (by simp) (by repeat (first | exact TmN.nil | refine TmN.upd ?_ (by simp))) (fun i x hx hgo lp rc kp E own G w hR => ?_) (fun r => ?_)
  · have hi0 : i = 0 := by
      by_cases h0 : i = 0
      · exact h0
      · have := hgo 0 (by omega); cases this
    subst hi0
    obtain ⟨h2, rfl⟩ := yInt_get hx
    have e : headI (firsts l h) = nth (firsts l h) 0 := by
      cases hL : firsts l h with
      | nil => rw [hL] at h2; simp at h2
      | cons x xs => rfl
    repeat (first | refine WK.seq ?_ | refine WK.block ?_ | refine WK.inBlock ?_ | refine WK.skip ?_ | refine WK.label ?_ | refine WK.scope ?_ | refine WK.inScope ?_ | refine WK.exit rfl ?_)
    first | refine WK.reg 300 Try.ntmps45 (by kernel_rfl) ?_ | refine WK.regD 300 clsOf (by kernel_rfl) Try.ntmps45 (by kernel_rfl) (by kernel_rfl) ?_
    intro A hA Q hQ
    simp
    refine hQ _ _ ?_
    clear hQ hA
    repeat (first | refine WK.seq ?_ | refine WK.block ?_ | refine WK.inBlock ?_ | refine WK.skip ?_ | refine WK.label ?_ | refine WK.scope ?_ | refine WK.inScope ?_ | refine WK.exit rfl ?_)
    refine WK.beginL hR ?_
    repeat (first | refine WK.seq ?_ | refine WK.block ?_ | refine WK.inBlock ?_ | refine WK.skip ?_ | refine WK.label ?_ | refine WK.scope ?_ | refine WK.inScope ?_ | refine WK.exit rfl ?_)
    first | refine WK.reg 400 Try.ntmps45 (by kernel_rfl) ?_ | refine WK.regD 400 clsOf (by kernel_rfl) Try.ntmps45 (by kernel_rfl) (by kernel_rfl) ?_
    intro A hA Q hQ
    simp
    refine hQ _ _ ?_
    clear hQ hA
    repeat (first | refine WK.seq ?_ | refine WK.block ?_ | refine WK.inBlock ?_ | refine WK.skip ?_ | refine WK.label ?_ | refine WK.scope ?_ | refine WK.inScope ?_ | refine WK.exit rfl ?_)
    refine WK.roundRet (fun n => n) hR rfl rfl (by repeat (first | exact BxW.nil | refine BxW.upd ?_ (by simp [e]))) InjW.id (by simp)
  · rw [yInt_len, taken_false]
    cases hL : firsts l h with
    | nil =>
      simp only [List.length_nil, if_true, jumpAt]
      repeat (first | refine WK.seq ?_ | refine WK.block ?_ | refine WK.inBlock ?_ | refine WK.skip ?_ | refine WK.label ?_ | refine WK.scope ?_ | refine WK.inScope ?_ | refine WK.exit rfl ?_)
      first | refine WK.reg 500 Try.ntmps45 (by kernel_rfl) ?_ | refine WK.regD 500 clsOf (by kernel_rfl) Try.ntmps45 (by kernel_rfl) (by kernel_rfl) ?_
      intro A hA Q hQ
      simp
      refine hQ _ _ ?_
      clear hQ hA
      repeat (first | refine WK.seq ?_ | refine WK.block ?_ | refine WK.inBlock ?_ | refine WK.skip ?_ | refine WK.label ?_ | refine WK.scope ?_ | refine WK.inScope ?_ | refine WK.exit rfl ?_)
      refine WK.ret Try.func45 (by simp (maxDischargeDepth := 120) [Try.results45, headI, someI]) (by simp [headI, someI])
    | cons x xs =>
      simp only [List.length_cons, Nat.succ_ne_zero, if_false, jumpAt, Nat.add_one_ne_zero]
      repeat (first | refine WK.seq ?_ | refine WK.block ?_ | refine WK.inBlock ?_ | refine WK.skip ?_ | refine WK.label ?_ | refine WK.scope ?_ | refine WK.inScope ?_ | refine WK.exit rfl ?_)
      refine WK.ret Try.func45 (by simp (maxDischargeDepth := 120) [Try.results45, headI, someI]) (by simp [headI, someI])
theorem lall_c (l : List Flow) (h : Header) (hl : l.length ≤ 20) (hf : ∀ f, f ∈ l → FPl f) : FnP Try.prog 48 [flowS l, .agg (encH h)] (intS (firsts l h)) := by
  have hy := yInt_all (firsts l h)
  have hlen := firsts_len l h
  refine FnP.intro Try.func48 rfl rfl fun G w => ?_
  repeat (first | refine WK.seq ?_ | refine WK.block ?_ | refine WK.inBlock ?_ | refine WK.skip ?_ | refine WK.label ?_ | refine WK.scope ?_ | refine WK.inScope ?_ | refine WK.exit rfl ?_)
  first | refine WK.reg 100 Try.ntmps48 (by kernel_rfl) ?_ | refine WK.regD 100 clsOf (by kernel_rfl) Try.ntmps48 (by kernel_rfl) (by kernel_rfl) ?_
  intro A hA Q hQ
  simp
  refine hQ _ _ ?_
  clear hQ hA
  repeat (first | refine WK.seq ?_ | refine WK.block ?_ | refine WK.inBlock ?_ | refine WK.skip ?_ | refine WK.label ?_ | refine WK.scope ?_ | refine WK.inScope ?_ | refine WK.exit rfl ?_)
  first | refine WK.reg 200 Try.ntmps48 (by kernel_rfl) ?_ | refine WK.regD 200 clsOf (by kernel_rfl) Try.ntmps48 (by kernel_rfl) (by kernel_rfl) ?_
  intro A hA Q hQ
  simp
  refine hQ _ _ ?_
  clear hQ hA
  repeat (first | refine WK.seq ?_ | refine WK.block ?_ | refine WK.inBlock ?_ | refine WK.skip ?_ | refine WK.label ?_ | refine WK.scope ?_ | refine WK.inScope ?_ | refine WK.exit rfl ?_)
  refine WK.ghost (Ghost.ownVar 100 0 900 1 rfl rfl rfl) ?_
  repeat (first | refine WK.seq ?_ | refine WK.block ?_ | refine WK.inBlock ?_ | refine WK.skip ?_ | refine WK.label ?_ | refine WK.scope ?_ | refine WK.inScope ?_ | refine WK.exit rfl ?_)
  first | refine WK.reg 300 Try.ntmps48 (by kernel_rfl) ?_ | refine WK.regD 300 clsOf (by kernel_rfl) Try.ntmps48 (by kernel_rfl) (by kernel_rfl) ?_
  intro A hA Q hQ
  simp [flowS]
  refine RunQ.call rfl rfl rfl rfl (by rfl) (by simp (maxDischargeDepth := 120) [flowS]) (firstAll_c l h) (by simp [flowS]) ?_
  refine RunQ.eval ?_
  simp [flowS]
  refine hQ _ _ ?_
  clear hQ hA
  repeat (first | refine WK.seq ?_ | refine WK.block ?_ | refine WK.inBlock ?_ | refine WK.skip ?_ | refine WK.label ?_ | refine WK.scope ?_ | refine WK.inScope ?_ | refine WK.exit rfl ?_)
  refine WK.next (st' := ⟨(upd (upd J 5 (.ptr 0 0)) 9 (.fn 84 [.iptr [.sl false l.length (flowL l)], .iptr (encH h)])), (fun i : Nat => (upd (upd B0 0 (.var [.msl 1 0 i])) 1 (.buf 1 (intL ((firsts l h).take i))))) 0, 0⟩) (fun n => if n = 1 then 900 else 100) ?_ (by repeat (first | exact TmW.nil | refine TmW.upd ?_ (by simp (maxDischargeDepth := 120) [intL]))) (by repeat (first | exact BxW.nil | refine BxW.upd ?_ (by simp (maxDischargeDepth := 120) [intL]))) (by first | exact InjW.id | exact InjW.nil | exact InjW.one | exact InjW.two (by simp) | exact InjW.three (by simp) (by simp) (by simp))
  refine WK.rangeM (yInt (firsts l h)) (fun _ => true) (fun _ => none) (fun i : Nat => (upd (upd B0 0 (.var [.msl 1 0 i])) 1 (.buf 1 (intL ((firsts l h).take i))))) [0] rfl (seqAll_c l h hl hf) (by simp [intL]) (by kernel_rfl) (hy) (fun i => by simp) (by simp) (by repeat (first | exact TmN.nil | refine TmN.upd ?_ (by simp [intL]))) (fun i x hx hgo lp rc kp E own G w hR => ?_) (fun r => ?_)
  · obtain ⟨h2, rfl⟩ := yInt_get hx
    have h3 : ((firsts l h).take i).length = i := by rw [List.length_take]; omega
    have hb : (i + 1) * 8 ≤ 140737488355328 := by omega
    have h4 := intL_take h2
    repeat (first | refine WK.seq ?_ | refine WK.block ?_ | refine WK.inBlock ?_ | refine WK.skip ?_ | refine WK.label ?_ | refine WK.scope ?_ | refine WK.inScope ?_ | refine WK.exit rfl ?_)
    first | refine WK.reg 400 Try.ntmps48 (by kernel_rfl) ?_ | refine WK.regD 400 clsOf (by kernel_rfl) Try.ntmps48 (by kernel_rfl) (by kernel_rfl) ?_
    intro A hA Q hQ
    simp
    refine hQ _ _ ?_
    clear hQ hA
    repeat (first | refine WK.seq ?_ | refine WK.block ?_ | refine WK.inBlock ?_ | refine WK.skip ?_ | refine WK.label ?_ | refine WK.scope ?_ | refine WK.inScope ?_ | refine WK.exit rfl ?_)
    refine WK.beginL hR ?_
    repeat (first | refine WK.seq ?_ | refine WK.block ?_ | refine WK.inBlock ?_ | refine WK.skip ?_ | refine WK.label ?_ | refine WK.scope ?_ | refine WK.inScope ?_ | refine WK.exit rfl ?_)
    first | refine WK.reg 500 Try.ntmps48 (by kernel_rfl) ?_ | refine WK.regD 500 clsOf (by kernel_rfl) Try.ntmps48 (by kernel_rfl) (by kernel_rfl) ?_
    intro A hA Q hQ
    simp
    refine RunQ.append 901 appInt rfl rfl rfl rfl rfl rfl rfl (by simp [hb, h3]) rfl (by simp [hb, h3]) (by simp [hb, h3]) (by simp [hb, h3]) (by simp [hb, h3]) ?_
    refine RunQ.eval ?_
    simp [hb, h3]
    refine hQ _ _ ?_
    clear hQ hA
    repeat (first | refine WK.seq ?_ | refine WK.block ?_ | refine WK.inBlock ?_ | refine WK.skip ?_ | refine WK.label ?_ | refine WK.scope ?_ | refine WK.inScope ?_ | refine WK.exit rfl ?_)
    refine WK.roundGo (fun n => if n = 1 then 901 else n) hR (rfl) (by repeat (first | exact BxW.nil | refine BxW.upd ?_ (by simp (maxDischargeDepth := 120) [h4]))) (by first | exact InjW.id | exact InjW.nil | exact InjW.one | exact InjW.two (by simp) | exact InjW.three (by simp) (by simp) (by simp)) (by simp)
  · rw [yInt_len, taken_true, jump_true]
    repeat (first | refine WK.seq ?_ | refine WK.block ?_ | refine WK.inBlock ?_ | refine WK.skip ?_ | refine WK.label ?_ | refine WK.scope ?_ | refine WK.inScope ?_ | refine WK.exit rfl ?_)
    first | refine WK.reg 600 Try.ntmps48 (by kernel_rfl) ?_ | refine WK.regD 600 clsOf (by kernel_rfl) Try.ntmps48 (by kernel_rfl) (by kernel_rfl) ?_
    intro A hA Q hQ
    simp
    refine hQ _ _ ?_
    clear hQ hA
    repeat (first | refine WK.seq ?_ | refine WK.block ?_ | refine WK.inBlock ?_ | refine WK.skip ?_ | refine WK.label ?_ | refine WK.scope ?_ | refine WK.inScope ?_ | refine WK.exit rfl ?_)
    refine WK.ghost (Ghost.frzSl 4 1 rfl rfl) ?_
    repeat (first | refine WK.seq ?_ | refine WK.block ?_ | refine WK.inBlock ?_ | refine WK.skip ?_ | refine WK.label ?_ | refine WK.scope ?_ | refine WK.inScope ?_ | refine WK.exit rfl ?_)
    refine WK.ret Try.func48 (by simp (maxDischargeDepth := 120) [Try.results48, intS]) (by simp [intS])
end Go.Proofs.Ytfgmjnmkcobhkaa
