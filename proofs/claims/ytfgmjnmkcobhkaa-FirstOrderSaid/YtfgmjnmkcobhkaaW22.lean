/- The laws of what comes first: what they answer. -/
import Derived.Test.YtfgmjnmkcobhkaaW21
set_option linter.all false
set_option linter.unnecessarySimpa false
set_option linter.unusedVariables false
set_option linter.unusedSimpArgs false
namespace Go.Proofs.Ytfgmjnmkcobhkaa
open Go Go.AI Go.Proofs

theorem intL_nil : intL [] = [] := rfl
theorem rlist27_c (l : List Flow) (h : Header) (hl : l.length ≤ 1000000) (hf : ∀ f, f ∈ l → FPl f) : FnP Try.prog 49 [flowS l, .agg (encH h)] (intS (firsts l h)) := by
  have ho := orderOf_len l
  have hc : FnP Try.prog 47 [flowS l] (.sl false (orderOf l).length (intL (orderOf l))) := rorder_c l hl
  refine FnP.intro Try.func49 rfl rfl fun G w => ?_
  repeat (first | refine WK.seq ?_ | refine WK.block ?_ | refine WK.inBlock ?_ | refine WK.skip ?_ | refine WK.label ?_ | refine WK.scope ?_ | refine WK.inScope ?_ | refine WK.exit rfl ?_)
  first | refine WK.reg 100 Try.ntmps49 (by kernel_rfl) ?_ | refine WK.regD 100 clsOf (by kernel_rfl) Try.ntmps49 (by kernel_rfl) (by kernel_rfl) ?_
  intro A hA Q hQ
  simp
  refine hQ _ _ ?_
  clear hQ hA
  repeat (first | refine WK.seq ?_ | refine WK.block ?_ | refine WK.inBlock ?_ | refine WK.skip ?_ | refine WK.label ?_ | refine WK.scope ?_ | refine WK.inScope ?_ | refine WK.exit rfl ?_)
  first | refine WK.reg 200 Try.ntmps49 (by kernel_rfl) ?_ | refine WK.regD 200 clsOf (by kernel_rfl) Try.ntmps49 (by kernel_rfl) (by kernel_rfl) ?_
  intro A hA Q hQ
  simp
  refine hQ _ _ ?_
  clear hQ hA
  repeat (first | refine WK.seq ?_ | refine WK.block ?_ | refine WK.inBlock ?_ | refine WK.skip ?_ | refine WK.label ?_ | refine WK.scope ?_ | refine WK.inScope ?_ | refine WK.exit rfl ?_)
  refine WK.ghost (Ghost.own 5 900 1 rfl rfl) ?_
  repeat (first | refine WK.seq ?_ | refine WK.block ?_ | refine WK.inBlock ?_ | refine WK.skip ?_ | refine WK.label ?_ | refine WK.scope ?_ | refine WK.inScope ?_ | refine WK.exit rfl ?_)
  first | refine WK.reg 300 Try.ntmps49 (by kernel_rfl) ?_ | refine WK.regD 300 clsOf (by kernel_rfl) Try.ntmps49 (by kernel_rfl) (by kernel_rfl) ?_
  intro A hA Q hQ
  simp [flowS]
  refine RunQ.call rfl rfl rfl rfl (by rfl) (by simp (maxDischargeDepth := 120) [flowS]) (hc) (by simp [flowS]) ?_
  refine RunQ.eval ?_
  simp [flowS]
  refine hQ _ _ ?_
  clear hQ hA
  repeat (first | refine WK.seq ?_ | refine WK.block ?_ | refine WK.inBlock ?_ | refine WK.skip ?_ | refine WK.label ?_ | refine WK.scope ?_ | refine WK.inScope ?_ | refine WK.exit rfl ?_)
  first | refine WK.reg 400 Try.ntmps49 (by kernel_rfl) ?_ | refine WK.regD 400 clsOf (by kernel_rfl) Try.ntmps49 (by kernel_rfl) (by kernel_rfl) ?_
  intro A hA Q hQ
  simp
  refine hQ _ _ ?_
  clear hQ hA
  repeat (first | refine WK.seq ?_ | refine WK.block ?_ | refine WK.inBlock ?_ | refine WK.skip ?_ | refine WK.label ?_ | refine WK.scope ?_ | refine WK.inScope ?_ | refine WK.exit rfl ?_)
  refine WK.loopI (fun n => if n = 1 then 900 else n) (fun i : Nat => (⟨(upd (upd (upd (upd (upd J 0 (.sl false l.length (flowL l))) 3 (.ptr 0 0)) 5 (.msl 1 0 (((orderOf l).take i).filter (hasAt l h)).length)) 6 (.sl false (orderOf l).length (intL (orderOf l)))) 7 (.int .i64 i)), (upd (upd B0 0 (.var (encH h))) 1 (.buf 1 (intL (((orderOf l).take i).filter (hasAt l h))))), 0⟩ : St)) (fun i => i ≤ (orderOf l).length) (fun i => (orderOf l).length - i) (0) (by repeat (first | exact TmW.nil | refine TmW.upd ?_ (by simp (maxDischargeDepth := 120) [intL_nil]))) (by repeat (first | exact BxW.nil | refine BxW.upd ?_ (by simp (maxDischargeDepth := 120) [intL_nil]))) (by first | exact InjW.id | exact InjW.nil | exact InjW.one | exact InjW.two (by simp) | exact InjW.three (by simp) (by simp) (by simp)) (by omega) (fun i hi IH => ?_)
  repeat (first | refine WK.seq ?_ | refine WK.block ?_ | refine WK.inBlock ?_ | refine WK.skip ?_ | refine WK.label ?_ | refine WK.scope ?_ | refine WK.inScope ?_ | refine WK.exit rfl ?_)
  first | refine WK.reg 500 Try.ntmps49 (by kernel_rfl) ?_ | refine WK.regD 500 clsOf (by kernel_rfl) Try.ntmps49 (by kernel_rfl) (by kernel_rfl) ?_
  intro A hA Q hQ
  simp
  refine hQ _ _ ?_
  clear hQ hA
  repeat (first | refine WK.seq ?_ | refine WK.block ?_ | refine WK.inBlock ?_ | refine WK.skip ?_ | refine WK.label ?_ | refine WK.scope ?_ | refine WK.inScope ?_ | refine WK.exit rfl ?_)
  refine WK.cond2 rfl (fun h1 => ?_) (fun h1 => ?_)
  · simp at h1
    have h2 : i < (orderOf l).length := by omega
    obtain ⟨q, hq, hql⟩ := orderOf_mem (nth_mem h2)
    have h3 : 7 ≤ l.length * 7 - q * 7 := by omega
    have h4 := flow_sub l q hql
    have h5 := int_sub (orderOf l) i h2
    have h6 : IntKind.i64.wrap ((i : Int) + 1) = i + 1 := wrap_i64 (by omega) (by omega)
    have hp : hasAt l h (nth (orderOf l) i) = cubeHas (Flow.cube (nth l q)) h := by unfold hasAt; rw [hq]; rfl
    have hs := filt_succ (p := hasAt l h) h2
    have hlen := filt_len (hasAt l h) (orderOf l) i
    have hb : ((((orderOf l).take i).filter (hasAt l h)).length + 1) * 8 ≤ 140737488355328 := by omega
    repeat (first | refine WK.seq ?_ | refine WK.block ?_ | refine WK.inBlock ?_ | refine WK.skip ?_ | refine WK.label ?_ | refine WK.scope ?_ | refine WK.inScope ?_ | refine WK.exit rfl ?_)
    first | refine WK.reg 600 Try.ntmps49 (by kernel_rfl) ?_ | refine WK.regD 600 clsOf (by kernel_rfl) Try.ntmps49 (by kernel_rfl) (by kernel_rfl) ?_
    intro A hA Q hQ
    simp [h2, h5, hq, h3, h4, hql]
    refine RunQ.call rfl rfl rfl rfl (by rfl) (by simp (maxDischargeDepth := 120)) (rfcube_c (nth l q) (hf _ (nth_mem hql)).ok.mat) (by simp) ?_
    refine RunQ.eval ?_
    simp
    refine RunQ.call rfl rfl rfl rfl (by rfl) (by simp (maxDischargeDepth := 120)) (rchas_c (Flow.cube (nth l q)) h) (by simp) ?_
    refine RunQ.eval ?_
    simp
    refine hQ _ _ ?_
    clear hQ hA
    repeat (first | refine WK.seq ?_ | refine WK.block ?_ | refine WK.inBlock ?_ | refine WK.skip ?_ | refine WK.label ?_ | refine WK.scope ?_ | refine WK.inScope ?_ | refine WK.exit rfl ?_)
    refine WK.cond2 rfl (fun h8 => ?_) (fun h8 => ?_)
    · have h8' : hasAt l h (nth (orderOf l) i) = true := by rw [hp]; exact h8
      rw [h8', hq] at hs
      simp only [if_true] at hs
      repeat (first | refine WK.seq ?_ | refine WK.block ?_ | refine WK.inBlock ?_ | refine WK.skip ?_ | refine WK.label ?_ | refine WK.scope ?_ | refine WK.inScope ?_ | refine WK.exit rfl ?_)
      first | refine WK.reg 700 Try.ntmps49 (by kernel_rfl) ?_ | refine WK.regD 700 clsOf (by kernel_rfl) Try.ntmps49 (by kernel_rfl) (by kernel_rfl) ?_
      intro A hA Q hQ
      simp [h2, h5, hq]
      refine RunQ.append 901 appInt rfl rfl rfl rfl rfl rfl rfl (by simp [hb]) rfl (by simp [hb]) (by simp [hb]) (by simp [hb]) (by simp [hb]) ?_
      refine RunQ.eval ?_
      simp [hb]
      refine hQ _ _ ?_
      clear hQ hA
      repeat (first | refine WK.seq ?_ | refine WK.block ?_ | refine WK.inBlock ?_ | refine WK.skip ?_ | refine WK.label ?_ | refine WK.scope ?_ | refine WK.inScope ?_ | refine WK.exit rfl ?_)
      first | refine WK.reg 800 Try.ntmps49 (by kernel_rfl) ?_ | refine WK.regD 800 clsOf (by kernel_rfl) Try.ntmps49 (by kernel_rfl) (by kernel_rfl) ?_
      intro A hA Q hQ
      simp [h6]
      refine hQ _ _ ?_
      clear hQ hA
      repeat (first | refine WK.seq ?_ | refine WK.block ?_ | refine WK.inBlock ?_ | refine WK.skip ?_ | refine WK.label ?_ | refine WK.scope ?_ | refine WK.inScope ?_ | refine WK.exit rfl ?_)
      refine WK.next (fun n => if n = 1 then 901 else n) (IH (i + 1) (by omega) (by omega)) (by repeat (first | exact TmW.nil | refine TmW.upd ?_ (by simp (maxDischargeDepth := 120) [hs, intL_app, intL_one, h6]))) (by repeat (first | exact BxW.nil | refine BxW.upd ?_ (by simp (maxDischargeDepth := 120) [hs, intL_app, intL_one, h6]))) (by first | exact InjW.id | exact InjW.nil | exact InjW.one | exact InjW.two (by simp) | exact InjW.three (by simp) (by simp) (by simp))
    · have h8' : hasAt l h (nth (orderOf l) i) = false := by rw [hp]; exact h8
      rw [h8'] at hs
      repeat (first | refine WK.seq ?_ | refine WK.block ?_ | refine WK.inBlock ?_ | refine WK.skip ?_ | refine WK.label ?_ | refine WK.scope ?_ | refine WK.inScope ?_ | refine WK.exit rfl ?_)
      first | refine WK.reg 900 Try.ntmps49 (by kernel_rfl) ?_ | refine WK.regD 900 clsOf (by kernel_rfl) Try.ntmps49 (by kernel_rfl) (by kernel_rfl) ?_
      intro A hA Q hQ
      simp [h6]
      refine hQ _ _ ?_
      clear hQ hA
      repeat (first | refine WK.seq ?_ | refine WK.block ?_ | refine WK.inBlock ?_ | refine WK.skip ?_ | refine WK.label ?_ | refine WK.scope ?_ | refine WK.inScope ?_ | refine WK.exit rfl ?_)
      refine WK.next (fun n => n) (IH (i + 1) (by omega) (by omega)) (by repeat (first | exact TmW.nil | refine TmW.upd ?_ (by simp (maxDischargeDepth := 120) [hs, h6]))) (by repeat (first | exact BxW.nil | refine BxW.upd ?_ (by simp (maxDischargeDepth := 120) [hs, h6]))) (by first | exact InjW.id | exact InjW.nil | exact InjW.one | exact InjW.two (by simp) | exact InjW.three (by simp) (by simp) (by simp))
  · simp at h1
    have e : (orderOf l).take i = orderOf l := List.take_of_length_le (by omega)
    rw [e]
    repeat (first | refine WK.seq ?_ | refine WK.block ?_ | refine WK.inBlock ?_ | refine WK.skip ?_ | refine WK.label ?_ | refine WK.scope ?_ | refine WK.inScope ?_ | refine WK.exit rfl ?_)
    first | refine WK.reg 1000 Try.ntmps49 (by kernel_rfl) ?_ | refine WK.regD 1000 clsOf (by kernel_rfl) Try.ntmps49 (by kernel_rfl) (by kernel_rfl) ?_
    intro A hA Q hQ
    simp
    refine hQ _ _ ?_
    clear hQ hA
    repeat (first | refine WK.seq ?_ | refine WK.block ?_ | refine WK.inBlock ?_ | refine WK.skip ?_ | refine WK.label ?_ | refine WK.scope ?_ | refine WK.inScope ?_ | refine WK.exit rfl ?_)
    refine WK.ghost (Ghost.frzSl 4 1 rfl rfl) ?_
    repeat (first | refine WK.seq ?_ | refine WK.block ?_ | refine WK.inBlock ?_ | refine WK.skip ?_ | refine WK.label ?_ | refine WK.scope ?_ | refine WK.inScope ?_ | refine WK.exit rfl ?_)
    refine WK.ret Try.func49 (by simp (maxDischargeDepth := 120) [Try.results49, intS, firsts]) (by simp [intS, firsts])
theorem rfind27_c (l : List Flow) (h : Header) (hl : l.length ≤ 1000000) (hf : ∀ f, f ∈ l → FPl f) :
    FnP Try.prog 46 [flowS l, .agg (encH h)] (.tup [.int .i64 (headI (firsts l h)), .bool (someI (firsts l h))]) := by
  have hc := rlist27_c l h hl hf
  cases hL : firsts l h with
  | nil =>
    rw [hL] at hc
    refine FnP.intro Try.func46 rfl rfl fun G w => ?_
    repeat (first | refine WK.seq ?_ | refine WK.block ?_ | refine WK.inBlock ?_ | refine WK.skip ?_ | refine WK.label ?_ | refine WK.scope ?_ | refine WK.inScope ?_ | refine WK.exit rfl ?_)
    first | refine WK.reg 100 Try.ntmps46 (by kernel_rfl) ?_ | refine WK.regD 100 clsOf (by kernel_rfl) Try.ntmps46 (by kernel_rfl) (by kernel_rfl) ?_
    intro A hA Q hQ
    simp
    refine hQ _ _ ?_
    clear hQ hA
    repeat (first | refine WK.seq ?_ | refine WK.block ?_ | refine WK.inBlock ?_ | refine WK.skip ?_ | refine WK.label ?_ | refine WK.scope ?_ | refine WK.inScope ?_ | refine WK.exit rfl ?_)
    first | refine WK.reg 200 Try.ntmps46 (by kernel_rfl) ?_ | refine WK.regD 200 clsOf (by kernel_rfl) Try.ntmps46 (by kernel_rfl) (by kernel_rfl) ?_
    intro A hA Q hQ
    simp [flowS]
    refine RunQ.call rfl rfl rfl rfl (by rfl) (by simp (maxDischargeDepth := 120) [flowS, intS]) (hc) (by simp [flowS, intS]) ?_
    refine RunQ.eval ?_
    simp [flowS, intS]
    refine hQ _ _ ?_
    clear hQ hA
    repeat (first | refine WK.seq ?_ | refine WK.block ?_ | refine WK.inBlock ?_ | refine WK.skip ?_ | refine WK.label ?_ | refine WK.scope ?_ | refine WK.inScope ?_ | refine WK.exit rfl ?_)
    first | refine WK.reg 300 Try.ntmps46 (by kernel_rfl) ?_ | refine WK.regD 300 clsOf (by kernel_rfl) Try.ntmps46 (by kernel_rfl) (by kernel_rfl) ?_
    intro A hA Q hQ
    simp
    refine hQ _ _ ?_
    clear hQ hA
    repeat (first | refine WK.seq ?_ | refine WK.block ?_ | refine WK.inBlock ?_ | refine WK.skip ?_ | refine WK.label ?_ | refine WK.scope ?_ | refine WK.inScope ?_ | refine WK.exit rfl ?_)
    refine WK.cond2 rfl (fun h1 => ?_) (fun h1 => ?_)
    · repeat (first | refine WK.seq ?_ | refine WK.block ?_ | refine WK.inBlock ?_ | refine WK.skip ?_ | refine WK.label ?_ | refine WK.scope ?_ | refine WK.inScope ?_ | refine WK.exit rfl ?_)
      first | refine WK.reg 400 Try.ntmps46 (by kernel_rfl) ?_ | refine WK.regD 400 clsOf (by kernel_rfl) Try.ntmps46 (by kernel_rfl) (by kernel_rfl) ?_
      intro A hA Q hQ
      simp
      refine hQ _ _ ?_
      clear hQ hA
      repeat (first | refine WK.seq ?_ | refine WK.block ?_ | refine WK.inBlock ?_ | refine WK.skip ?_ | refine WK.label ?_ | refine WK.scope ?_ | refine WK.inScope ?_ | refine WK.exit rfl ?_)
      refine WK.ret Try.func46 (by simp (maxDischargeDepth := 120) [Try.results46, headI, someI]) (by simp [headI, someI])
    · cases h1
  | cons x xs =>
    rw [hL] at hc
    have hd : decide ((xs.length : Int) + 1 = 0) = false := decide_eq_false (by omega)
    have e : ((xs.length : Int) + 1 == 0) = false := by simp; omega
    refine FnP.intro Try.func46 rfl rfl fun G w => ?_
    repeat (first | refine WK.seq ?_ | refine WK.block ?_ | refine WK.inBlock ?_ | refine WK.skip ?_ | refine WK.label ?_ | refine WK.scope ?_ | refine WK.inScope ?_ | refine WK.exit rfl ?_)
    first | refine WK.reg 100 Try.ntmps46 (by kernel_rfl) ?_ | refine WK.regD 100 clsOf (by kernel_rfl) Try.ntmps46 (by kernel_rfl) (by kernel_rfl) ?_
    intro A hA Q hQ
    simp
    refine hQ _ _ ?_
    clear hQ hA
    repeat (first | refine WK.seq ?_ | refine WK.block ?_ | refine WK.inBlock ?_ | refine WK.skip ?_ | refine WK.label ?_ | refine WK.scope ?_ | refine WK.inScope ?_ | refine WK.exit rfl ?_)
    first | refine WK.reg 200 Try.ntmps46 (by kernel_rfl) ?_ | refine WK.regD 200 clsOf (by kernel_rfl) Try.ntmps46 (by kernel_rfl) (by kernel_rfl) ?_
    intro A hA Q hQ
    simp [flowS]
    refine RunQ.call rfl rfl rfl rfl (by rfl) (by simp (maxDischargeDepth := 120) [flowS, intS]) (hc) (by simp [flowS, intS]) ?_
    refine RunQ.eval ?_
    simp [flowS, intS]
    refine hQ _ _ ?_
    clear hQ hA
    repeat (first | refine WK.seq ?_ | refine WK.block ?_ | refine WK.inBlock ?_ | refine WK.skip ?_ | refine WK.label ?_ | refine WK.scope ?_ | refine WK.inScope ?_ | refine WK.exit rfl ?_)
    first | refine WK.reg 300 Try.ntmps46 (by kernel_rfl) ?_ | refine WK.regD 300 clsOf (by kernel_rfl) Try.ntmps46 (by kernel_rfl) (by kernel_rfl) ?_
    intro A hA Q hQ
    simp [e]
    refine hQ _ _ ?_
    clear hQ hA
    repeat (first | refine WK.seq ?_ | refine WK.block ?_ | refine WK.inBlock ?_ | refine WK.skip ?_ | refine WK.label ?_ | refine WK.scope ?_ | refine WK.inScope ?_ | refine WK.exit rfl ?_)
    refine WK.cond2 rfl (fun h1 => ?_) (fun h1 => ?_)
    · cases h1
    · repeat (first | refine WK.seq ?_ | refine WK.block ?_ | refine WK.inBlock ?_ | refine WK.skip ?_ | refine WK.label ?_ | refine WK.scope ?_ | refine WK.inScope ?_ | refine WK.exit rfl ?_)
      first | refine WK.reg 400 Try.ntmps46 (by kernel_rfl) ?_ | refine WK.regD 400 clsOf (by kernel_rfl) Try.ntmps46 (by kernel_rfl) (by kernel_rfl) ?_
      intro A hA Q hQ
      simp [intL]
      refine hQ _ _ ?_
      clear hQ hA
      repeat (first | refine WK.seq ?_ | refine WK.block ?_ | refine WK.inBlock ?_ | refine WK.skip ?_ | refine WK.label ?_ | refine WK.scope ?_ | refine WK.inScope ?_ | refine WK.exit rfl ?_)
      refine WK.ret Try.func46 (by simp (maxDischargeDepth := 120) [Try.results46, headI, someI]) (by simp [headI, someI])
def fF0 : Flow := ⟨0#64, 1, 0, 0, 0, [], []⟩
def fF1 : Flow := ⟨0#64, 5, 0, 0, 0, [⟨0, false, ⟨0#64, 1#64⟩, wideZ⟩], []⟩
def fF2 : Flow := ⟨0#64, 5, 0, 0, 0, [], []⟩
def tF : List Flow := [fF0, fF1, fF2]
def hF : Header := fun i => if i = 0 then ⟨0#64, 1#64⟩ else wideZ
theorem tF_len : tF.length = 3 := rfl
theorem plF : ∀ f, f ∈ tF → FPl f := by
  intro f hf
  simp only [tF, List.mem_cons, List.not_mem_nil, or_false] at hf
  rcases hf with rfl | rfl | rfl <;> exact plain_ok (by kernel_rfl)
theorem kF1 : headI (firsts tF hF) = 1 := by kernel_rfl
theorem kF2 : someI (firsts tF hF) = true := by kernel_rfl
theorem kF3 : headI (firsts tF headZ) = 2 := by kernel_rfl
theorem kF4 : someI (firsts tF headZ) = true := by kernel_rfl
theorem kF5 : eqBy (fun x y => x == y) (orderOf tF) [1, 2, 0] = true := by kernel_rfl
theorem kF6 : (orderOf tF).length ≤ 1000000 := of_decide_eq_true (by kernel_rfl)
theorem intS_three (x y z : Int) : intS [x, y, z] = .sl false 3 [.int .i64 x, .int .i64 y, .int .i64 z] := rfl
theorem hF_enc : AV.int .u64 0 :: AV.int .u64 1 :: (encH headZ).drop 2 = encH hF := by kernel_rfl
set_option maxHeartbeats 2000000 in
theorem awake27_c : FnP Try.prog 42 [] (.bool true) := by
  have ho : FnP Try.prog 43 [flowS tF] (intS (orderOf tF)) := order_c tF (by rw [tF_len]; omega)
  refine FnP.intro Try.func42 rfl rfl fun G w => ?_
  repeat (first | refine WK.seq ?_ | refine WK.block ?_ | refine WK.inBlock ?_ | refine WK.skip ?_ | refine WK.label ?_ | refine WK.scope ?_ | refine WK.inScope ?_ | refine WK.exit rfl ?_)
  first | refine WK.reg 100 Try.ntmps42 (by kernel_rfl) ?_ | refine WK.regD 100 clsOf (by kernel_rfl) Try.ntmps42 (by kernel_rfl) (by kernel_rfl) ?_
  intro A hA Q hQ
  simp
  refine hQ _ _ ?_
  clear hQ hA
  repeat (first | refine WK.seq ?_ | refine WK.block ?_ | refine WK.inBlock ?_ | refine WK.skip ?_ | refine WK.label ?_ | refine WK.scope ?_ | refine WK.inScope ?_ | refine WK.exit rfl ?_)
  first | refine WK.reg 200 Try.ntmps42 (by kernel_rfl) ?_ | refine WK.regD 200 clsOf (by kernel_rfl) Try.ntmps42 (by kernel_rfl) (by kernel_rfl) ?_
  intro A hA Q hQ
  simp
  refine hQ _ _ ?_
  clear hQ hA
  repeat (first | refine WK.seq ?_ | refine WK.block ?_ | refine WK.inBlock ?_ | refine WK.skip ?_ | refine WK.label ?_ | refine WK.scope ?_ | refine WK.inScope ?_ | refine WK.exit rfl ?_)
  refine WK.next (st' := (⟨(upd J 1 (.sl false 3 (flowL tF))), B0, 0⟩ : St)) (fun n => n) ?_ (by repeat (first | exact TmW.nil | refine TmW.upd ?_ (by simp (maxDischargeDepth := 120) [flowL, tF, fF0, fF1, fF2, Flow.enc, oxmL, Oxm.enc, instL, wideZ, uI_zero, uI_one]))) (by repeat (first | exact BxW.nil | refine BxW.upd ?_ (by simp (maxDischargeDepth := 120) [flowL, tF, fF0, fF1, fF2, Flow.enc, oxmL, Oxm.enc, instL, wideZ, uI_zero, uI_one]))) (by first | exact InjW.id | exact InjW.nil | exact InjW.one | exact InjW.two (by simp) | exact InjW.three (by simp) (by simp) (by simp))
  repeat (first | refine WK.seq ?_ | refine WK.block ?_ | refine WK.inBlock ?_ | refine WK.skip ?_ | refine WK.label ?_ | refine WK.scope ?_ | refine WK.inScope ?_ | refine WK.exit rfl ?_)
  first | refine WK.reg 300 Try.ntmps42 (by kernel_rfl) ?_ | refine WK.regD 300 clsOf (by kernel_rfl) Try.ntmps42 (by kernel_rfl) (by kernel_rfl) ?_
  intro A hA Q hQ
  simp [hF_enc]
  refine RunQ.call rfl rfl rfl rfl (by rfl) (by simp (maxDischargeDepth := 120) [kF1, kF2, flowS, tF_len, hF_enc]) (find_c tF hF (by rw [tF_len]; omega) plF) (by simp [kF1, kF2, flowS, tF_len, hF_enc]) ?_
  refine RunQ.eval ?_
  simp [kF1, kF2, flowS, tF_len, hF_enc]
  refine hQ _ _ ?_
  clear hQ hA
  repeat (first | refine WK.seq ?_ | refine WK.block ?_ | refine WK.inBlock ?_ | refine WK.skip ?_ | refine WK.label ?_ | refine WK.scope ?_ | refine WK.inScope ?_ | refine WK.exit rfl ?_)
  first | refine WK.reg 400 Try.ntmps42 (by kernel_rfl) ?_ | refine WK.regD 400 clsOf (by kernel_rfl) Try.ntmps42 (by kernel_rfl) (by kernel_rfl) ?_
  intro A hA Q hQ
  simp
  refine RunQ.call rfl rfl rfl rfl (by rfl) (by simp (maxDischargeDepth := 120) [kF3, kF4, flowS, tF_len]) (find_c tF headZ (by rw [tF_len]; omega) plF) (by simp [kF3, kF4, flowS, tF_len]) ?_
  refine RunQ.eval ?_
  simp [kF3, kF4, flowS, tF_len]
  refine hQ _ _ ?_
  clear hQ hA
  repeat (first | refine WK.seq ?_ | refine WK.block ?_ | refine WK.inBlock ?_ | refine WK.skip ?_ | refine WK.label ?_ | refine WK.scope ?_ | refine WK.inScope ?_ | refine WK.exit rfl ?_)
  first | refine WK.reg 500 Try.ntmps42 (by kernel_rfl) ?_ | refine WK.regD 500 clsOf (by kernel_rfl) Try.ntmps42 (by kernel_rfl) (by kernel_rfl) ?_
  intro A hA Q hQ
  have hg4 : (A[4]?).bind (·.dst) = some 30 := by rw [hA]; rfl
  have hg7 : (A[7]?).bind (·.dst) = some 33 := by rw [hA]; rfl
  have hg11 : (A[11]?).bind (·.dst) = some 37 := by rw [hA]; rfl
  have hg14 : (A[14]?).bind (·.dst) = some 40 := by rw [hA]; rfl
  have hg18 : (A[18]?).bind (·.dst) = some 44 := by rw [hA]; rfl
  simp [hg4, hg7, hg11, hg14, hg18]
  refine RunQ.call rfl rfl rfl rfl (by rfl) (by simp (maxDischargeDepth := 120) [flowS, tF_len, hg4]) (ho) (by simp [flowS, tF_len, hg4]) ?_
  refine RunQ.eval ?_
  simp [flowS, tF_len, hg4]
  refine RunQ.call rfl rfl rfl rfl (by rfl) (by simp (maxDischargeDepth := 120) [kF5, intS_three, tF_len, hg4, hg7, hg11, hg14, hg18]) (iequal_c (orderOf tF) [1, 2, 0] kF6) (by simp [kF5, intS_three, tF_len, hg4, hg7, hg11, hg14, hg18]) ?_
  refine RunQ.eval ?_
  simp [kF5, intS_three, tF_len, hg4, hg7, hg11, hg14, hg18]
  refine RunQ.callG rfl rfl (by simp [hg18, flowS, tF_len]) rfl (by rfl) (by simp (maxDischargeDepth := 120) [hg18, flowS, tF_len]) (firstAll_c tF headZ) (by simp [hg18, flowS, tF_len]) ?_
  refine RunQ.eval ?_
  simp [hg18, flowS, tF_len]
  refine hQ _ _ ?_
  clear hQ hA
  repeat (first | refine WK.seq ?_ | refine WK.block ?_ | refine WK.inBlock ?_ | refine WK.skip ?_ | refine WK.label ?_ | refine WK.scope ?_ | refine WK.inScope ?_ | refine WK.exit rfl ?_)
  refine WK.ret Try.func42 (by simp (maxDischargeDepth := 120) [Try.results42]) (by simp)
set_option maxHeartbeats 4000000 in
theorem firstTells_c (l : List Flow) (h : Header) : FnP Try.prog 11 [flowS l, .agg (encH h)] (.bool true) := by
  cases pl : flowsPlain l 20
  · refine FnP.intro Try.func11 rfl rfl fun G w => ?_
    repeat (first | refine WK.seq ?_ | refine WK.block ?_ | refine WK.inBlock ?_ | refine WK.skip ?_ | refine WK.label ?_ | refine WK.scope ?_ | refine WK.inScope ?_ | refine WK.exit rfl ?_)
    first | refine WK.reg 100 Try.ntmps11 (by kernel_rfl) ?_ | refine WK.regD 100 clsOf (by kernel_rfl) Try.ntmps11 (by kernel_rfl) (by kernel_rfl) ?_
    intro A hA Q hQ
    simp
    refine hQ _ _ ?_
    clear hQ hA
    repeat (first | refine WK.seq ?_ | refine WK.block ?_ | refine WK.inBlock ?_ | refine WK.skip ?_ | refine WK.label ?_ | refine WK.scope ?_ | refine WK.inScope ?_ | refine WK.exit rfl ?_)
    first | refine WK.reg 200 Try.ntmps11 (by kernel_rfl) ?_ | refine WK.regD 200 clsOf (by kernel_rfl) Try.ntmps11 (by kernel_rfl) (by kernel_rfl) ?_
    intro A hA Q hQ
    have hg2 : (A[2]?).bind (·.dst) = some 11 := by rw [hA]; rfl
    have hg7 : (A[7]?).bind (·.dst) = some 16 := by rw [hA]; rfl
    simp [flowS, hg2, hg7]
    refine RunQ.call rfl rfl rfl rfl (by rfl) (by simp (maxDischargeDepth := 120) [hg2]) (awake27_c) (by simp [hg2]) ?_
    refine RunQ.eval ?_
    simp [hg2]
    refine RunQ.callG rfl rfl (by simp [pl, hg2, hg7, flowS]) rfl (by rfl) (by simp (maxDischargeDepth := 120) [pl, hg2, hg7, flowS]) (pFlows_c l 20 (by omega)) (by simp [pl, hg2, hg7, flowS]) ?_
    refine RunQ.eval ?_
    simp [pl, hg2, hg7, flowS]
    refine hQ _ _ ?_
    clear hQ hA
    repeat (first | refine WK.seq ?_ | refine WK.block ?_ | refine WK.inBlock ?_ | refine WK.skip ?_ | refine WK.label ?_ | refine WK.scope ?_ | refine WK.inScope ?_ | refine WK.exit rfl ?_)
    refine WK.cond2 rfl (fun hh => ?_) (fun hh => ?_)
    · repeat (first | refine WK.seq ?_ | refine WK.block ?_ | refine WK.inBlock ?_ | refine WK.skip ?_ | refine WK.label ?_ | refine WK.scope ?_ | refine WK.inScope ?_ | refine WK.exit rfl ?_)
      first | refine WK.reg 300 Try.ntmps11 (by kernel_rfl) ?_ | refine WK.regD 300 clsOf (by kernel_rfl) Try.ntmps11 (by kernel_rfl) (by kernel_rfl) ?_
      intro A hA Q hQ
      have hg1 : (A[1]?).bind (·.dst) = some 23 := by rw [hA]; rfl
      simp [hg1]
      refine RunQ.call rfl rfl rfl rfl (by rfl) (by simp (maxDischargeDepth := 120) [hg1]) (awake27_c) (by simp [hg1]) ?_
      refine RunQ.eval ?_
      simp [hg1]
      refine RunQ.callG rfl rfl (by simp [hg1, flowS]) rfl (by rfl) (by simp (maxDischargeDepth := 120) [hg1, flowS]) (firstAll_c l h) (by simp [hg1, flowS]) ?_
      refine RunQ.eval ?_
      simp [hg1, flowS]
      refine hQ _ _ ?_
      clear hQ hA
      repeat (first | refine WK.seq ?_ | refine WK.block ?_ | refine WK.inBlock ?_ | refine WK.skip ?_ | refine WK.label ?_ | refine WK.scope ?_ | refine WK.inScope ?_ | refine WK.exit rfl ?_)
      refine WK.ret Try.func11 (by simp (maxDischargeDepth := 120) [Try.results11]) (by simp)
    · cases hh
  obtain ⟨hl, hf⟩ := flowsPlain_ok pl
  have hl2 : l.length ≤ 20 := by omega
  have hl3 : l.length ≤ 1000000 := by omega
  have hlo : (orderOf l).length ≤ 1000000 := by rw [orderOf_len]; omega
  have hlf : (firsts l h).length ≤ 1000000 := by have := firsts_len l h; omega
  have ho : FnP Try.prog 43 [flowS l] (intS (orderOf l)) := order_c l hl2
  have e1 := eqBy_self (orderOf l)
  have e2 := eqBy_self (firsts l h)
  refine FnP.intro Try.func11 rfl rfl fun G w => ?_
  repeat (first | refine WK.seq ?_ | refine WK.block ?_ | refine WK.inBlock ?_ | refine WK.skip ?_ | refine WK.label ?_ | refine WK.scope ?_ | refine WK.inScope ?_ | refine WK.exit rfl ?_)
  first | refine WK.reg 100 Try.ntmps11 (by kernel_rfl) ?_ | refine WK.regD 100 clsOf (by kernel_rfl) Try.ntmps11 (by kernel_rfl) (by kernel_rfl) ?_
  intro A hA Q hQ
  simp
  refine hQ _ _ ?_
  clear hQ hA
  repeat (first | refine WK.seq ?_ | refine WK.block ?_ | refine WK.inBlock ?_ | refine WK.skip ?_ | refine WK.label ?_ | refine WK.scope ?_ | refine WK.inScope ?_ | refine WK.exit rfl ?_)
  first | refine WK.reg 200 Try.ntmps11 (by kernel_rfl) ?_ | refine WK.regD 200 clsOf (by kernel_rfl) Try.ntmps11 (by kernel_rfl) (by kernel_rfl) ?_
  intro A hA Q hQ
  have hg2 : (A[2]?).bind (·.dst) = some 11 := by rw [hA]; rfl
  have hg7 : (A[7]?).bind (·.dst) = some 16 := by rw [hA]; rfl
  simp [flowS, hg2, hg7]
  refine RunQ.call rfl rfl rfl rfl (by rfl) (by simp (maxDischargeDepth := 120) [hg2]) (awake27_c) (by simp [hg2]) ?_
  refine RunQ.eval ?_
  simp [hg2]
  refine RunQ.callG rfl rfl (by simp [pl, hg2, hg7, flowS]) rfl (by rfl) (by simp (maxDischargeDepth := 120) [pl, hg2, hg7, flowS]) (pFlows_c l 20 (by omega)) (by simp [pl, hg2, hg7, flowS]) ?_
  refine RunQ.eval ?_
  simp [pl, hg2, hg7, flowS]
  refine RunQ.callG rfl rfl (by simp [hg7, flowS]) rfl (by rfl) (by simp (maxDischargeDepth := 120) [hg7, flowS]) (firstAll_c l h) (by simp [hg7, flowS]) ?_
  refine RunQ.eval ?_
  simp [hg7, flowS]
  refine hQ _ _ ?_
  clear hQ hA
  repeat (first | refine WK.seq ?_ | refine WK.block ?_ | refine WK.inBlock ?_ | refine WK.skip ?_ | refine WK.label ?_ | refine WK.scope ?_ | refine WK.inScope ?_ | refine WK.exit rfl ?_)
  refine WK.cond2 rfl (fun hh => ?_) (fun hh => ?_)
  · cases hh
  repeat (first | refine WK.seq ?_ | refine WK.block ?_ | refine WK.inBlock ?_ | refine WK.skip ?_ | refine WK.label ?_ | refine WK.scope ?_ | refine WK.inScope ?_ | refine WK.exit rfl ?_)
  first | refine WK.reg 300 Try.ntmps11 (by kernel_rfl) ?_ | refine WK.regD 300 clsOf (by kernel_rfl) Try.ntmps11 (by kernel_rfl) (by kernel_rfl) ?_
  intro A hA Q hQ
  simp
  refine RunQ.call rfl rfl rfl rfl (by rfl) (by simp (maxDischargeDepth := 120) [flowS]) (find_c l h hl2 hf) (by simp [flowS]) ?_
  refine RunQ.eval ?_
  simp [flowS]
  refine hQ _ _ ?_
  clear hQ hA
  repeat (first | refine WK.seq ?_ | refine WK.block ?_ | refine WK.inBlock ?_ | refine WK.skip ?_ | refine WK.label ?_ | refine WK.scope ?_ | refine WK.inScope ?_ | refine WK.exit rfl ?_)
  first | refine WK.reg 400 Try.ntmps11 (by kernel_rfl) ?_ | refine WK.regD 400 clsOf (by kernel_rfl) Try.ntmps11 (by kernel_rfl) (by kernel_rfl) ?_
  intro A hA Q hQ
  simp
  refine RunQ.call rfl rfl rfl rfl (by rfl) (by simp (maxDischargeDepth := 120) [flowS]) (rfind27_c l h hl3 hf) (by simp [flowS]) ?_
  refine RunQ.eval ?_
  simp [flowS]
  refine hQ _ _ ?_
  clear hQ hA
  repeat (first | refine WK.seq ?_ | refine WK.block ?_ | refine WK.inBlock ?_ | refine WK.skip ?_ | refine WK.label ?_ | refine WK.scope ?_ | refine WK.inScope ?_ | refine WK.exit rfl ?_)
  first | refine WK.reg 500 Try.ntmps11 (by kernel_rfl) ?_ | refine WK.regD 500 clsOf (by kernel_rfl) Try.ntmps11 (by kernel_rfl) (by kernel_rfl) ?_
  intro A hA Q hQ
  have hg3 : (A[3]?).bind (·.dst) = some 44 := by rw [hA]; rfl
  have hg8 : (A[8]?).bind (·.dst) = some 49 := by rw [hA]; rfl
  have hg15 : (A[15]?).bind (·.dst) = some 56 := by rw [hA]; rfl
  simp [hg3, hg8, hg15]
  refine RunQ.callG rfl rfl (by simp [flowS, hg8]) rfl (by rfl) (by simp (maxDischargeDepth := 120) [flowS, hg8]) (ho) (by simp [flowS, hg8]) ?_
  refine RunQ.eval ?_
  simp [flowS, hg8]
  refine RunQ.callG rfl rfl (by simp [flowS, hg8]) rfl (by rfl) (by simp (maxDischargeDepth := 120) [flowS, hg8]) (rorder_c l hl3) (by simp [flowS, hg8]) ?_
  refine RunQ.eval ?_
  simp [flowS, hg8]
  refine RunQ.callG rfl rfl (by simp [e1, hg8, hg15]) rfl (by rfl) (by simp (maxDischargeDepth := 120) [e1, hg8, hg15]) (iequal_c (orderOf l) (orderOf l) hlo) (by simp [e1, hg8, hg15]) ?_
  refine RunQ.eval ?_
  simp [e1, hg8, hg15]
  refine RunQ.callG rfl rfl (by simp [flowS, hg15]) rfl (by rfl) (by simp (maxDischargeDepth := 120) [flowS, hg15]) (lall_c l h hl2 hf) (by simp [flowS, hg15]) ?_
  refine RunQ.eval ?_
  simp [flowS, hg15]
  refine RunQ.callG rfl rfl (by simp [flowS, hg15]) rfl (by rfl) (by simp (maxDischargeDepth := 120) [flowS, hg15]) (rlist27_c l h hl3 hf) (by simp [flowS, hg15]) ?_
  refine RunQ.eval ?_
  simp [flowS, hg15]
  refine RunQ.callG rfl rfl (by simp [e2, hg15]) rfl (by rfl) (by simp (maxDischargeDepth := 120) [e2, hg15]) (iequal_c (firsts l h) (firsts l h) hlf) (by simp [e2, hg15]) ?_
  refine RunQ.eval ?_
  simp [e2, hg15]
  refine hQ _ _ ?_
  clear hQ hA
  repeat (first | refine WK.seq ?_ | refine WK.block ?_ | refine WK.inBlock ?_ | refine WK.skip ?_ | refine WK.label ?_ | refine WK.scope ?_ | refine WK.inScope ?_ | refine WK.exit rfl ?_)
  refine WK.ret Try.func11 (by simp (maxDischargeDepth := 120) [Try.results11]) (by simp)
/-- which place comes ahead of which -/
def ahead (k : Int → Int) (x y : Int) : Prop := k y < k x ∨ k x = k y ∧ x < y
theorem posR_spec (k : Int → Int) (x : Int) (p : List Int) : ∀ m, m ≤ p.length → (∀ j, posR k x p m ≤ j → j < m → k (nth p j) < k x) ∧ (posR k x p m = 0 ∨ ¬ k (nth p (posR k x p m - 1)) < k x)
  | 0, _ => ⟨fun j _ h => by omega, .inl rfl⟩
  | m + 1, hm => by
    obtain ⟨h1, h2⟩ := posR_spec k x p m (by omega)
    simp only [posR]
    by_cases hc : k (nth p m) < k x
    · rw [if_pos hc]
      refine ⟨fun j g1 g2 => ?_, h2⟩
      by_cases hj : j = m
      · subst hj; exact hc
      · exact h1 j g1 (by omega)
    · rw [if_neg hc]
      exact ⟨fun j g1 g2 => by omega, .inr (by simpa using hc)⟩
theorem pw_nth {R : Int → Int → Prop} {p : List Int} (h : p.Pairwise R) {i j : Nat} (hij : i < j) (hj : j < p.length) : R (nth p i) (nth p j) := by
  rw [nth_eq hj, nth_eq (Nat.lt_trans hij hj)]
  exact List.pairwise_iff_getElem.1 h i j _ _ hij
theorem ordN_sorted (k : Int → Int) : ∀ n, (ordN k n).Pairwise (ahead k)
  | 0 => List.Pairwise.nil
  | n + 1 => by
    have ih := ordN_sorted k n
    obtain ⟨h1, h2⟩ := posR_spec k n (ordN k n) _ (Nat.le_refl _)
    have hle := posR_le k n (ordN k n) (ordN k n).length
    simp only [ordN, insR]
    have before : ∀ y, y ∈ (ordN k n).take (posR k n (ordN k n) (ordN k n).length) → ahead k y n := by
      intro y hy
      have hm := ordN_mem k n y (List.mem_of_mem_take hy)
      rcases h2 with h2 | h2
      · rw [h2] at hy; simp at hy
      · obtain ⟨i, hi, rfl⟩ := mem_nth hy
        rw [List.length_take] at hi
        have ei : nth ((ordN k n).take (posR k n (ordN k n) (ordN k n).length)) i = nth (ordN k n) i := by
          rw [nth_eq (by rw [List.length_take]; exact hi), nth_eq (by omega), List.getElem_take]
        rw [ei] at hm ⊢
        have hge : ¬ k (nth (ordN k n) i) < k n := by
          by_cases e : i = posR k n (ordN k n) (ordN k n).length - 1
          · rw [e]; exact h2
          · have := pw_nth ih (show i < posR k n (ordN k n) (ordN k n).length - 1 by omega) (by omega)
            unfold ahead at this
            omega
        unfold ahead
        omega
    have behind : ∀ y, y ∈ (ordN k n).drop (posR k n (ordN k n) (ordN k n).length) → ahead k n y := by
      intro y hy
      obtain ⟨i, hi, rfl⟩ := mem_nth hy
      rw [List.length_drop] at hi
      have ei : nth ((ordN k n).drop (posR k n (ordN k n) (ordN k n).length)) i = nth (ordN k n) (posR k n (ordN k n) (ordN k n).length + i) := by
        rw [nth_eq (by rw [List.length_drop]; exact hi), nth_eq (by omega), List.getElem_drop]
      rw [ei]
      exact .inl (h1 _ (by omega) (by omega))
    rw [List.pairwise_append]
    refine ⟨ih.sublist (List.take_sublist _ _), List.pairwise_cons.2 ⟨behind, ih.sublist (List.drop_sublist _ _)⟩, fun a ha b hb => ?_⟩
    rcases List.mem_cons.1 hb with rfl | hb
    · exact before a ha
    · have h3 := before a ha
      have h4 := behind b hb
      unfold ahead at *
      omega
theorem ordN_has (k : Int → Int) : ∀ n (i : Nat), i < n → (i : Int) ∈ ordN k n
  | 0, i, h => by omega
  | n + 1, i, h => by
    simp only [ordN, insR, List.mem_append, List.mem_cons]
    by_cases hi : i = n
    · subst hi; exact .inr (.inl rfl)
    · have := ordN_has k n i (by omega)
      rw [← List.take_append_drop (posR k n (ordN k n) (ordN k n).length) (ordN k n), List.mem_append] at this
      rcases this with h | h
      · exact .inl h
      · exact .inr (.inr h)
theorem firsts_nil {l : List Flow} {h : Header} (hL : firsts l h = []) (i : Nat) (hi : i < l.length) : cubeHas (Flow.cube (nth l i)) h = false := by
  have h1 := ordN_has (prioAt l) l.length i hi
  cases hc : cubeHas (Flow.cube (nth l i)) h with
  | false => rfl
  | true =>
    have : (i : Int) ∈ firsts l h := List.mem_filter.2 ⟨h1, by unfold hasAt; exact hc⟩
    rw [hL] at this; cases this
theorem firsts_cons {l : List Flow} {h : Header} {x : Int} {xs : List Int} (hL : firsts l h = x :: xs) : ∃ q : Nat, x = q ∧ q < l.length ∧ cubeHas (Flow.cube (nth l q)) h = true ∧
    ∀ i, i < l.length → cubeHas (Flow.cube (nth l i)) h = true → i = q ∨ ahead (prioAt l) q i := by
  have hx : x ∈ firsts l h := by rw [hL]; simp
  obtain ⟨hx1, hx2⟩ := List.mem_filter.1 hx
  obtain ⟨q, rfl, hq⟩ := orderOf_mem hx1
  refine ⟨q, rfl, hq, hx2, fun i hi hc => ?_⟩
  have h1 : (i : Int) ∈ firsts l h := List.mem_filter.2 ⟨ordN_has (prioAt l) l.length i hi, hc⟩
  have hp : (firsts l h).Pairwise (ahead (prioAt l)) := (ordN_sorted (prioAt l) l.length).sublist List.filter_sublist
  rw [hL] at h1 hp
  rcases List.mem_cons.1 h1 with h1 | h1
  · exact .inl (by omega)
  · exact .inr ((List.pairwise_cons.1 hp).1 _ h1)
set_option maxHeartbeats 4000000 in
theorem firstHighest_c (l : List Flow) (h : Header) : FnP Try.prog 12 [flowS l, .agg (encH h)] (.bool true) := by
  cases pl : flowsPlain l 20
  · refine FnP.intro Try.func12 rfl rfl fun G w => ?_
    repeat (first | refine WK.seq ?_ | refine WK.block ?_ | refine WK.inBlock ?_ | refine WK.skip ?_ | refine WK.label ?_ | refine WK.scope ?_ | refine WK.inScope ?_ | refine WK.exit rfl ?_)
    first | refine WK.reg 100 Try.ntmps12 (by kernel_rfl) ?_ | refine WK.regD 100 clsOf (by kernel_rfl) Try.ntmps12 (by kernel_rfl) (by kernel_rfl) ?_
    intro A hA Q hQ
    simp
    refine hQ _ _ ?_
    clear hQ hA
    repeat (first | refine WK.seq ?_ | refine WK.block ?_ | refine WK.inBlock ?_ | refine WK.skip ?_ | refine WK.label ?_ | refine WK.scope ?_ | refine WK.inScope ?_ | refine WK.exit rfl ?_)
    first | refine WK.reg 200 Try.ntmps12 (by kernel_rfl) ?_ | refine WK.regD 200 clsOf (by kernel_rfl) Try.ntmps12 (by kernel_rfl) (by kernel_rfl) ?_
    intro A hA Q hQ
    simp [flowS]
    refine RunQ.call rfl rfl rfl rfl (by rfl) (by simp (maxDischargeDepth := 120) [pl, flowS]) (pFlows_c l 20 (by omega)) (by simp [pl, flowS]) ?_
    refine RunQ.eval ?_
    simp [pl, flowS]
    refine hQ _ _ ?_
    clear hQ hA
    repeat (first | refine WK.seq ?_ | refine WK.block ?_ | refine WK.inBlock ?_ | refine WK.skip ?_ | refine WK.label ?_ | refine WK.scope ?_ | refine WK.inScope ?_ | refine WK.exit rfl ?_)
    refine WK.cond2 rfl (fun hh => ?_) (fun hh => ?_)
    · repeat (first | refine WK.seq ?_ | refine WK.block ?_ | refine WK.inBlock ?_ | refine WK.skip ?_ | refine WK.label ?_ | refine WK.scope ?_ | refine WK.inScope ?_ | refine WK.exit rfl ?_)
      first | refine WK.reg 300 Try.ntmps12 (by kernel_rfl) ?_ | refine WK.regD 300 clsOf (by kernel_rfl) Try.ntmps12 (by kernel_rfl) (by kernel_rfl) ?_
      intro A hA Q hQ
      simp
      refine RunQ.call rfl rfl rfl rfl (by rfl) (by simp (maxDischargeDepth := 120)) (awake27_c) (by simp) ?_
      refine RunQ.eval ?_
      simp
      refine hQ _ _ ?_
      clear hQ hA
      repeat (first | refine WK.seq ?_ | refine WK.block ?_ | refine WK.inBlock ?_ | refine WK.skip ?_ | refine WK.label ?_ | refine WK.scope ?_ | refine WK.inScope ?_ | refine WK.exit rfl ?_)
      refine WK.ret Try.func12 (by simp (maxDischargeDepth := 120) [Try.results12]) (by simp)
    · cases hh
  obtain ⟨hl, hf⟩ := flowsPlain_ok pl
  have hl2 : l.length ≤ 20 := by omega
  cases hL : firsts l h with
  | nil =>
    have e1 : headI (firsts l h) = 0 := by rw [hL]; rfl
    have e2 : someI (firsts l h) = false := by rw [hL]; rfl
    refine FnP.intro Try.func12 rfl rfl fun G w => ?_
    repeat (first | refine WK.seq ?_ | refine WK.block ?_ | refine WK.inBlock ?_ | refine WK.skip ?_ | refine WK.label ?_ | refine WK.scope ?_ | refine WK.inScope ?_ | refine WK.exit rfl ?_)
    first | refine WK.reg 100 Try.ntmps12 (by kernel_rfl) ?_ | refine WK.regD 100 clsOf (by kernel_rfl) Try.ntmps12 (by kernel_rfl) (by kernel_rfl) ?_
    intro A hA Q hQ
    simp
    refine hQ _ _ ?_
    clear hQ hA
    repeat (first | refine WK.seq ?_ | refine WK.block ?_ | refine WK.inBlock ?_ | refine WK.skip ?_ | refine WK.label ?_ | refine WK.scope ?_ | refine WK.inScope ?_ | refine WK.exit rfl ?_)
    first | refine WK.reg 200 Try.ntmps12 (by kernel_rfl) ?_ | refine WK.regD 200 clsOf (by kernel_rfl) Try.ntmps12 (by kernel_rfl) (by kernel_rfl) ?_
    intro A hA Q hQ
    simp [flowS]
    refine RunQ.call rfl rfl rfl rfl (by rfl) (by simp (maxDischargeDepth := 120) [pl, flowS]) (pFlows_c l 20 (by omega)) (by simp [pl, flowS]) ?_
    refine RunQ.eval ?_
    simp [pl, flowS]
    refine hQ _ _ ?_
    clear hQ hA
    repeat (first | refine WK.seq ?_ | refine WK.block ?_ | refine WK.inBlock ?_ | refine WK.skip ?_ | refine WK.label ?_ | refine WK.scope ?_ | refine WK.inScope ?_ | refine WK.exit rfl ?_)
    refine WK.cond2 rfl (fun hh => ?_) (fun hh => ?_)
    · cases hh
    repeat (first | refine WK.seq ?_ | refine WK.block ?_ | refine WK.inBlock ?_ | refine WK.skip ?_ | refine WK.label ?_ | refine WK.scope ?_ | refine WK.inScope ?_ | refine WK.exit rfl ?_)
    first | refine WK.reg 300 Try.ntmps12 (by kernel_rfl) ?_ | refine WK.regD 300 clsOf (by kernel_rfl) Try.ntmps12 (by kernel_rfl) (by kernel_rfl) ?_
    intro A hA Q hQ
    simp
    refine RunQ.call rfl rfl rfl rfl (by rfl) (by simp (maxDischargeDepth := 120) [flowS, e1, e2]) (find_c l h hl2 hf) (by simp [flowS, e1, e2]) ?_
    refine RunQ.eval ?_
    simp [flowS, e1, e2]
    refine hQ _ _ ?_
    clear hQ hA
    repeat (first | refine WK.seq ?_ | refine WK.block ?_ | refine WK.inBlock ?_ | refine WK.skip ?_ | refine WK.label ?_ | refine WK.scope ?_ | refine WK.inScope ?_ | refine WK.exit rfl ?_)
    first | refine WK.reg 400 Try.ntmps12 (by kernel_rfl) ?_ | refine WK.regD 400 clsOf (by kernel_rfl) Try.ntmps12 (by kernel_rfl) (by kernel_rfl) ?_
    intro A hA Q hQ
    have hg1 : (A[1]?).bind (·.dst) = some 20 := by rw [hA]; rfl
    have hg4 : (A[4]?).bind (·.dst) = some 23 := by rw [hA]; rfl
    have hg10 : (A[10]?).bind (·.dst) = some 29 := by rw [hA]; rfl
    simp [hg1, hg4, hg10]
    refine hQ _ _ ?_
    clear hQ hA
    repeat (first | refine WK.seq ?_ | refine WK.block ?_ | refine WK.inBlock ?_ | refine WK.skip ?_ | refine WK.label ?_ | refine WK.scope ?_ | refine WK.inScope ?_ | refine WK.exit rfl ?_)
    refine WK.cond2 rfl (fun hh => ?_) (fun hh => ?_)
    · cases hh
    repeat (first | refine WK.seq ?_ | refine WK.block ?_ | refine WK.inBlock ?_ | refine WK.skip ?_ | refine WK.label ?_ | refine WK.scope ?_ | refine WK.inScope ?_ | refine WK.exit rfl ?_)
    first | refine WK.reg 500 Try.ntmps12 (by kernel_rfl) ?_ | refine WK.regD 500 clsOf (by kernel_rfl) Try.ntmps12 (by kernel_rfl) (by kernel_rfl) ?_
    intro A hA Q hQ
    simp [flowS]
    refine hQ _ _ ?_
    clear hQ hA
    repeat (first | refine WK.seq ?_ | refine WK.block ?_ | refine WK.inBlock ?_ | refine WK.skip ?_ | refine WK.label ?_ | refine WK.scope ?_ | refine WK.inScope ?_ | refine WK.exit rfl ?_)
    refine WK.loopI (fun n => n) (fun i : Nat => (⟨(upd (upd (upd (upd (upd (upd (upd J 0 (.sl false l.length (flowL l))) 3 (.ptr 0 0)) 5 (.int .i64 0)) 6 (.bool false)) 40 (.sl false l.length (flowL l))) 41 (.int .i64 l.length)) 42 (.int .i64 i)), (upd B0 0 (.var (encH h))), 0⟩ : St)) (fun i => i ≤ l.length) (fun i => l.length - i) (0) (by repeat (first | exact TmW.nil | refine TmW.upd ?_ (by simp (maxDischargeDepth := 120)))) (by repeat (first | exact BxW.nil | refine BxW.upd ?_ (by simp (maxDischargeDepth := 120)))) (by first | exact InjW.id | exact InjW.nil | exact InjW.one | exact InjW.two (by simp) | exact InjW.three (by simp) (by simp) (by simp)) (by omega) (fun i hi IH => ?_)
    repeat (first | refine WK.seq ?_ | refine WK.block ?_ | refine WK.inBlock ?_ | refine WK.skip ?_ | refine WK.label ?_ | refine WK.scope ?_ | refine WK.inScope ?_ | refine WK.exit rfl ?_)
    first | refine WK.reg 600 Try.ntmps12 (by kernel_rfl) ?_ | refine WK.regD 600 clsOf (by kernel_rfl) Try.ntmps12 (by kernel_rfl) (by kernel_rfl) ?_
    intro A hA Q hQ
    simp
    refine hQ _ _ ?_
    clear hQ hA
    repeat (first | refine WK.seq ?_ | refine WK.block ?_ | refine WK.inBlock ?_ | refine WK.skip ?_ | refine WK.label ?_ | refine WK.scope ?_ | refine WK.inScope ?_ | refine WK.exit rfl ?_)
    refine WK.cond2 rfl (fun h1 => ?_) (fun h1 => ?_)
    · simp at h1
      have h2 : i < l.length := by omega
      have h3 : 7 ≤ l.length * 7 - i * 7 := by omega
      have h4 := flow_sub l i h2
      have h6 : IntKind.i64.wrap ((i : Int) + 1) = i + 1 := wrap_i64 (by omega) (by omega)
      have h7 := firsts_nil hL i h2
      repeat (first | refine WK.seq ?_ | refine WK.block ?_ | refine WK.inBlock ?_ | refine WK.skip ?_ | refine WK.label ?_ | refine WK.scope ?_ | refine WK.inScope ?_ | refine WK.exit rfl ?_)
      first | refine WK.reg 700 Try.ntmps12 (by kernel_rfl) ?_ | refine WK.regD 700 clsOf (by kernel_rfl) Try.ntmps12 (by kernel_rfl) (by kernel_rfl) ?_
      intro A hA Q hQ
      simp [h2, h3, h4]
      refine hQ _ _ ?_
      clear hQ hA
      repeat (first | refine WK.seq ?_ | refine WK.block ?_ | refine WK.inBlock ?_ | refine WK.skip ?_ | refine WK.label ?_ | refine WK.scope ?_ | refine WK.inScope ?_ | refine WK.exit rfl ?_)
      first | refine WK.reg 800 Try.ntmps12 (by kernel_rfl) ?_ | refine WK.regD 800 clsOf (by kernel_rfl) Try.ntmps12 (by kernel_rfl) (by kernel_rfl) ?_
      intro A hA Q hQ
      have hg4 : (A[4]?).bind (·.dst) = some 51 := by rw [hA]; rfl
      have hg7 : (A[7]?).bind (·.dst) = some 54 := by rw [hA]; rfl
      have hg17 : (A[17]?).bind (·.dst) = some 64 := by rw [hA]; rfl
      have hg26 : (A[26]?).bind (·.dst) = some 73 := by rw [hA]; rfl
      simp [hg4, hg7, hg17, hg26]
      refine RunQ.call rfl rfl rfl rfl (by rfl) (by simp (maxDischargeDepth := 120)) (fcube_c (nth l i) (hf _ (nth_mem h2)).ok.mat) (by simp) ?_
      refine RunQ.eval ?_
      simp
      refine RunQ.call rfl rfl rfl rfl (by rfl) (by simp (maxDischargeDepth := 120) [h7, hg4, hg7, hg17, hg26]) (chas_c (Flow.cube (nth l i)) h) (by simp [h7, hg4, hg7, hg17, hg26]) ?_
      refine RunQ.eval ?_
      simp [h7, hg4, hg7, hg17, hg26]
      refine hQ _ _ ?_
      clear hQ hA
      repeat (first | refine WK.seq ?_ | refine WK.block ?_ | refine WK.inBlock ?_ | refine WK.skip ?_ | refine WK.label ?_ | refine WK.scope ?_ | refine WK.inScope ?_ | refine WK.exit rfl ?_)
      refine WK.cond2 rfl (fun hh => ?_) (fun hh => ?_)
      · cases hh
      repeat (first | refine WK.seq ?_ | refine WK.block ?_ | refine WK.inBlock ?_ | refine WK.skip ?_ | refine WK.label ?_ | refine WK.scope ?_ | refine WK.inScope ?_ | refine WK.exit rfl ?_)
      first | refine WK.reg 900 Try.ntmps12 (by kernel_rfl) ?_ | refine WK.regD 900 clsOf (by kernel_rfl) Try.ntmps12 (by kernel_rfl) (by kernel_rfl) ?_
      intro A hA Q hQ
      simp [h6]
      refine hQ _ _ ?_
      clear hQ hA
      repeat (first | refine WK.seq ?_ | refine WK.block ?_ | refine WK.inBlock ?_ | refine WK.skip ?_ | refine WK.label ?_ | refine WK.scope ?_ | refine WK.inScope ?_ | refine WK.exit rfl ?_)
      refine WK.next (fun n => n) (IH (i + 1) (by omega) (by omega)) (by repeat (first | exact TmW.nil | refine TmW.upd ?_ (by simp (maxDischargeDepth := 120) [h6]))) (by repeat (first | exact BxW.nil | refine BxW.upd ?_ (by simp (maxDischargeDepth := 120) [h6]))) (by first | exact InjW.id | exact InjW.nil | exact InjW.one | exact InjW.two (by simp) | exact InjW.three (by simp) (by simp) (by simp))
    · repeat (first | refine WK.seq ?_ | refine WK.block ?_ | refine WK.inBlock ?_ | refine WK.skip ?_ | refine WK.label ?_ | refine WK.scope ?_ | refine WK.inScope ?_ | refine WK.exit rfl ?_)
      first | refine WK.reg 1000 Try.ntmps12 (by kernel_rfl) ?_ | refine WK.regD 1000 clsOf (by kernel_rfl) Try.ntmps12 (by kernel_rfl) (by kernel_rfl) ?_
      intro A hA Q hQ
      simp
      refine RunQ.call rfl rfl rfl rfl (by rfl) (by simp (maxDischargeDepth := 120)) (awake27_c) (by simp) ?_
      refine RunQ.eval ?_
      simp
      refine hQ _ _ ?_
      clear hQ hA
      repeat (first | refine WK.seq ?_ | refine WK.block ?_ | refine WK.inBlock ?_ | refine WK.skip ?_ | refine WK.label ?_ | refine WK.scope ?_ | refine WK.inScope ?_ | refine WK.exit rfl ?_)
      refine WK.ret Try.func12 (by simp (maxDischargeDepth := 120) [Try.results12]) (by simp)
  | cons x xs =>
    obtain ⟨q, rfl, hq, hqh, hall⟩ := firsts_cons hL
    have e1 : headI (firsts l h) = q := by rw [hL]; rfl
    have e2 : someI (firsts l h) = true := by rw [hL]; rfl
    have q3 : 7 ≤ l.length * 7 - q * 7 := by omega
    have q4 := flow_sub l q hq
    have q5 := flow_get1 l q hq
    have q6 : q * 7 + 1 < l.length * 7 := by omega
    have b1 : ¬ l.length ≤ q := by omega
    refine FnP.intro Try.func12 rfl rfl fun G w => ?_
    repeat (first | refine WK.seq ?_ | refine WK.block ?_ | refine WK.inBlock ?_ | refine WK.skip ?_ | refine WK.label ?_ | refine WK.scope ?_ | refine WK.inScope ?_ | refine WK.exit rfl ?_)
    first | refine WK.reg 100 Try.ntmps12 (by kernel_rfl) ?_ | refine WK.regD 100 clsOf (by kernel_rfl) Try.ntmps12 (by kernel_rfl) (by kernel_rfl) ?_
    intro A hA Q hQ
    simp
    refine hQ _ _ ?_
    clear hQ hA
    repeat (first | refine WK.seq ?_ | refine WK.block ?_ | refine WK.inBlock ?_ | refine WK.skip ?_ | refine WK.label ?_ | refine WK.scope ?_ | refine WK.inScope ?_ | refine WK.exit rfl ?_)
    first | refine WK.reg 200 Try.ntmps12 (by kernel_rfl) ?_ | refine WK.regD 200 clsOf (by kernel_rfl) Try.ntmps12 (by kernel_rfl) (by kernel_rfl) ?_
    intro A hA Q hQ
    simp [flowS]
    refine RunQ.call rfl rfl rfl rfl (by rfl) (by simp (maxDischargeDepth := 120) [pl, flowS]) (pFlows_c l 20 (by omega)) (by simp [pl, flowS]) ?_
    refine RunQ.eval ?_
    simp [pl, flowS]
    refine hQ _ _ ?_
    clear hQ hA
    repeat (first | refine WK.seq ?_ | refine WK.block ?_ | refine WK.inBlock ?_ | refine WK.skip ?_ | refine WK.label ?_ | refine WK.scope ?_ | refine WK.inScope ?_ | refine WK.exit rfl ?_)
    refine WK.cond2 rfl (fun hh => ?_) (fun hh => ?_)
    · cases hh
    repeat (first | refine WK.seq ?_ | refine WK.block ?_ | refine WK.inBlock ?_ | refine WK.skip ?_ | refine WK.label ?_ | refine WK.scope ?_ | refine WK.inScope ?_ | refine WK.exit rfl ?_)
    first | refine WK.reg 300 Try.ntmps12 (by kernel_rfl) ?_ | refine WK.regD 300 clsOf (by kernel_rfl) Try.ntmps12 (by kernel_rfl) (by kernel_rfl) ?_
    intro A hA Q hQ
    simp
    refine RunQ.call rfl rfl rfl rfl (by rfl) (by simp (maxDischargeDepth := 120) [flowS, e1, e2]) (find_c l h hl2 hf) (by simp [flowS, e1, e2]) ?_
    refine RunQ.eval ?_
    simp [flowS, e1, e2]
    refine hQ _ _ ?_
    clear hQ hA
    have b2 : ¬ (q : Int) < 0 := by omega
    repeat (first | refine WK.seq ?_ | refine WK.block ?_ | refine WK.inBlock ?_ | refine WK.skip ?_ | refine WK.label ?_ | refine WK.scope ?_ | refine WK.inScope ?_ | refine WK.exit rfl ?_)
    first | refine WK.reg 400 Try.ntmps12 (by kernel_rfl) ?_ | refine WK.regD 400 clsOf (by kernel_rfl) Try.ntmps12 (by kernel_rfl) (by kernel_rfl) ?_
    intro A hA Q hQ
    have hg1 : (A[1]?).bind (·.dst) = some 20 := by rw [hA]; rfl
    have hg4 : (A[4]?).bind (·.dst) = some 23 := by rw [hA]; rfl
    have hg10 : (A[10]?).bind (·.dst) = some 29 := by rw [hA]; rfl
    simp [flowS, q3, q4, hq, b1, b2, hg1, hg4, hg10]
    refine RunQ.callG rfl rfl (by simp [hg10]) rfl (by rfl) (by simp (maxDischargeDepth := 120) [hg10]) (fcube_c (nth l q) (hf _ (nth_mem hq)).ok.mat) (by simp [hg10]) ?_
    refine RunQ.eval ?_
    simp [hg10]
    refine RunQ.callG rfl rfl (by simp [hqh, hg10, hg1]) rfl (by rfl) (by simp (maxDischargeDepth := 120) [hqh, hg10, hg1]) (chas_c (Flow.cube (nth l q)) h) (by simp [hqh, hg10, hg1]) ?_
    refine RunQ.eval ?_
    simp [hqh, hg10, hg1]
    refine hQ _ _ ?_
    clear hQ hA
    repeat (first | refine WK.seq ?_ | refine WK.block ?_ | refine WK.inBlock ?_ | refine WK.skip ?_ | refine WK.label ?_ | refine WK.scope ?_ | refine WK.inScope ?_ | refine WK.exit rfl ?_)
    refine WK.cond2 rfl (fun hh => ?_) (fun hh => ?_)
    · cases hh
    repeat (first | refine WK.seq ?_ | refine WK.block ?_ | refine WK.inBlock ?_ | refine WK.skip ?_ | refine WK.label ?_ | refine WK.scope ?_ | refine WK.inScope ?_ | refine WK.exit rfl ?_)
    first | refine WK.reg 500 Try.ntmps12 (by kernel_rfl) ?_ | refine WK.regD 500 clsOf (by kernel_rfl) Try.ntmps12 (by kernel_rfl) (by kernel_rfl) ?_
    intro A hA Q hQ
    simp [flowS]
    refine hQ _ _ ?_
    clear hQ hA
    repeat (first | refine WK.seq ?_ | refine WK.block ?_ | refine WK.inBlock ?_ | refine WK.skip ?_ | refine WK.label ?_ | refine WK.scope ?_ | refine WK.inScope ?_ | refine WK.exit rfl ?_)
    refine WK.loopI (fun n => n) (fun i : Nat => (⟨(upd (upd (upd (upd (upd (upd (upd J 0 (.sl false l.length (flowL l))) 3 (.ptr 0 0)) 5 (.int .i64 q)) 6 (.bool true)) 40 (.sl false l.length (flowL l))) 41 (.int .i64 l.length)) 42 (.int .i64 i)), (upd B0 0 (.var (encH h))), 0⟩ : St)) (fun i => i ≤ l.length) (fun i => l.length - i) (0) (by repeat (first | exact TmW.nil | refine TmW.upd ?_ (by simp (maxDischargeDepth := 120)))) (by repeat (first | exact BxW.nil | refine BxW.upd ?_ (by simp (maxDischargeDepth := 120)))) (by first | exact InjW.id | exact InjW.nil | exact InjW.one | exact InjW.two (by simp) | exact InjW.three (by simp) (by simp) (by simp)) (by omega) (fun i hi IH => ?_)
    repeat (first | refine WK.seq ?_ | refine WK.block ?_ | refine WK.inBlock ?_ | refine WK.skip ?_ | refine WK.label ?_ | refine WK.scope ?_ | refine WK.inScope ?_ | refine WK.exit rfl ?_)
    first | refine WK.reg 600 Try.ntmps12 (by kernel_rfl) ?_ | refine WK.regD 600 clsOf (by kernel_rfl) Try.ntmps12 (by kernel_rfl) (by kernel_rfl) ?_
    intro A hA Q hQ
    simp
    refine hQ _ _ ?_
    clear hQ hA
    repeat (first | refine WK.seq ?_ | refine WK.block ?_ | refine WK.inBlock ?_ | refine WK.skip ?_ | refine WK.label ?_ | refine WK.scope ?_ | refine WK.inScope ?_ | refine WK.exit rfl ?_)
    refine WK.cond2 rfl (fun h1 => ?_) (fun h1 => ?_)
    · simp at h1
      have h2 : i < l.length := by omega
      have h3 : 7 ≤ l.length * 7 - i * 7 := by omega
      have h4 := flow_sub l i h2
      have h6 : IntKind.i64.wrap ((i : Int) + 1) = i + 1 := wrap_i64 (by omega) (by omega)
      repeat (first | refine WK.seq ?_ | refine WK.block ?_ | refine WK.inBlock ?_ | refine WK.skip ?_ | refine WK.label ?_ | refine WK.scope ?_ | refine WK.inScope ?_ | refine WK.exit rfl ?_)
      first | refine WK.reg 700 Try.ntmps12 (by kernel_rfl) ?_ | refine WK.regD 700 clsOf (by kernel_rfl) Try.ntmps12 (by kernel_rfl) (by kernel_rfl) ?_
      intro A hA Q hQ
      simp [h2, h3, h4]
      refine hQ _ _ ?_
      clear hQ hA
      cases h7 : cubeHas (Flow.cube (nth l i)) h
      · repeat (first | refine WK.seq ?_ | refine WK.block ?_ | refine WK.inBlock ?_ | refine WK.skip ?_ | refine WK.label ?_ | refine WK.scope ?_ | refine WK.inScope ?_ | refine WK.exit rfl ?_)
        first | refine WK.reg 800 Try.ntmps12 (by kernel_rfl) ?_ | refine WK.regD 800 clsOf (by kernel_rfl) Try.ntmps12 (by kernel_rfl) (by kernel_rfl) ?_
        intro A hA Q hQ
        have hg4 : (A[4]?).bind (·.dst) = some 51 := by rw [hA]; rfl
        have hg7 : (A[7]?).bind (·.dst) = some 54 := by rw [hA]; rfl
        have hg17 : (A[17]?).bind (·.dst) = some 64 := by rw [hA]; rfl
        have hg26 : (A[26]?).bind (·.dst) = some 73 := by rw [hA]; rfl
        simp [hg4, hg7, hg17, hg26]
        refine RunQ.call rfl rfl rfl rfl (by rfl) (by simp (maxDischargeDepth := 120)) (fcube_c (nth l i) (hf _ (nth_mem h2)).ok.mat) (by simp) ?_
        refine RunQ.eval ?_
        simp
        refine RunQ.call rfl rfl rfl rfl (by rfl) (by simp (maxDischargeDepth := 120) [h7, hg4, hg7, hg17, hg26]) (chas_c (Flow.cube (nth l i)) h) (by simp [h7, hg4, hg7, hg17, hg26]) ?_
        refine RunQ.eval ?_
        simp [h7, hg4, hg7, hg17, hg26]
        refine hQ _ _ ?_
        clear hQ hA
        repeat (first | refine WK.seq ?_ | refine WK.block ?_ | refine WK.inBlock ?_ | refine WK.skip ?_ | refine WK.label ?_ | refine WK.scope ?_ | refine WK.inScope ?_ | refine WK.exit rfl ?_)
        refine WK.cond2 rfl (fun hh => ?_) (fun hh => ?_)
        · cases hh
        repeat (first | refine WK.seq ?_ | refine WK.block ?_ | refine WK.inBlock ?_ | refine WK.skip ?_ | refine WK.label ?_ | refine WK.scope ?_ | refine WK.inScope ?_ | refine WK.exit rfl ?_)
        first | refine WK.reg 900 Try.ntmps12 (by kernel_rfl) ?_ | refine WK.regD 900 clsOf (by kernel_rfl) Try.ntmps12 (by kernel_rfl) (by kernel_rfl) ?_
        intro A hA Q hQ
        simp [h6]
        refine hQ _ _ ?_
        clear hQ hA
        repeat (first | refine WK.seq ?_ | refine WK.block ?_ | refine WK.inBlock ?_ | refine WK.skip ?_ | refine WK.label ?_ | refine WK.scope ?_ | refine WK.inScope ?_ | refine WK.exit rfl ?_)
        refine WK.next (fun n => n) (IH (i + 1) (by omega) (by omega)) (by repeat (first | exact TmW.nil | refine TmW.upd ?_ (by simp (maxDischargeDepth := 120) [h6]))) (by repeat (first | exact BxW.nil | refine BxW.upd ?_ (by simp (maxDischargeDepth := 120) [h6]))) (by first | exact InjW.id | exact InjW.nil | exact InjW.one | exact InjW.two (by simp) | exact InjW.three (by simp) (by simp) (by simp))
      · have ei : prioAt l i = (nth l i).prio := by simp [prioAt]
        have eq : prioAt l q = (nth l q).prio := by simp [prioAt]
        have hcase := hall i h2 h7
        unfold ahead at hcase
        rw [ei, eq] at hcase
        have d1 : ¬ (nth l q).prio < (nth l i).prio := by
          rcases hcase with rfl | h | h <;> omega
        cases k : (nth l i).prio == (nth l q).prio
        · repeat (first | refine WK.seq ?_ | refine WK.block ?_ | refine WK.inBlock ?_ | refine WK.skip ?_ | refine WK.label ?_ | refine WK.scope ?_ | refine WK.inScope ?_ | refine WK.exit rfl ?_)
          first | refine WK.reg 1000 Try.ntmps12 (by kernel_rfl) ?_ | refine WK.regD 1000 clsOf (by kernel_rfl) Try.ntmps12 (by kernel_rfl) (by kernel_rfl) ?_
          intro A hA Q hQ
          have hg4 : (A[4]?).bind (·.dst) = some 51 := by rw [hA]; rfl
          have hg7 : (A[7]?).bind (·.dst) = some 54 := by rw [hA]; rfl
          have hg17 : (A[17]?).bind (·.dst) = some 64 := by rw [hA]; rfl
          have hg26 : (A[26]?).bind (·.dst) = some 73 := by rw [hA]; rfl
          simp [hg4, hg7, hg17, hg26]
          refine RunQ.call rfl rfl rfl rfl (by rfl) (by simp (maxDischargeDepth := 120)) (fcube_c (nth l i) (hf _ (nth_mem h2)).ok.mat) (by simp) ?_
          refine RunQ.eval ?_
          simp
          refine RunQ.call rfl rfl rfl rfl (by rfl) (by simp (maxDischargeDepth := 120) [h7, hg4, hg7, hg17, hg26, Flow.enc, q5, q6, hq, d1, k]) (chas_c (Flow.cube (nth l i)) h) (by simp [h7, hg4, hg7, hg17, hg26, Flow.enc, q5, q6, hq, d1, k]) ?_
          refine RunQ.eval ?_
          simp [h7, hg4, hg7, hg17, hg26, Flow.enc, q5, q6, hq, d1, k]
          refine hQ _ _ ?_
          clear hQ hA
          repeat (first | refine WK.seq ?_ | refine WK.block ?_ | refine WK.inBlock ?_ | refine WK.skip ?_ | refine WK.label ?_ | refine WK.scope ?_ | refine WK.inScope ?_ | refine WK.exit rfl ?_)
          refine WK.cond2 rfl (fun hh => ?_) (fun hh => ?_)
          · cases hh
          repeat (first | refine WK.seq ?_ | refine WK.block ?_ | refine WK.inBlock ?_ | refine WK.skip ?_ | refine WK.label ?_ | refine WK.scope ?_ | refine WK.inScope ?_ | refine WK.exit rfl ?_)
          first | refine WK.reg 1100 Try.ntmps12 (by kernel_rfl) ?_ | refine WK.regD 1100 clsOf (by kernel_rfl) Try.ntmps12 (by kernel_rfl) (by kernel_rfl) ?_
          intro A hA Q hQ
          simp [h6]
          refine hQ _ _ ?_
          clear hQ hA
          repeat (first | refine WK.seq ?_ | refine WK.block ?_ | refine WK.inBlock ?_ | refine WK.skip ?_ | refine WK.label ?_ | refine WK.scope ?_ | refine WK.inScope ?_ | refine WK.exit rfl ?_)
          refine WK.next (fun n => n) (IH (i + 1) (by omega) (by omega)) (by repeat (first | exact TmW.nil | refine TmW.upd ?_ (by simp (maxDischargeDepth := 120) [h6]))) (by repeat (first | exact BxW.nil | refine BxW.upd ?_ (by simp (maxDischargeDepth := 120) [h6]))) (by first | exact InjW.id | exact InjW.nil | exact InjW.one | exact InjW.two (by simp) | exact InjW.three (by simp) (by simp) (by simp))
        · have d2 : ¬ i < q := by
            have := beq_iff_eq.1 k
            rcases hcase with rfl | h | h <;> omega
          repeat (first | refine WK.seq ?_ | refine WK.block ?_ | refine WK.inBlock ?_ | refine WK.skip ?_ | refine WK.label ?_ | refine WK.scope ?_ | refine WK.inScope ?_ | refine WK.exit rfl ?_)
          first | refine WK.reg 1200 Try.ntmps12 (by kernel_rfl) ?_ | refine WK.regD 1200 clsOf (by kernel_rfl) Try.ntmps12 (by kernel_rfl) (by kernel_rfl) ?_
          intro A hA Q hQ
          have hg4 : (A[4]?).bind (·.dst) = some 51 := by rw [hA]; rfl
          have hg7 : (A[7]?).bind (·.dst) = some 54 := by rw [hA]; rfl
          have hg17 : (A[17]?).bind (·.dst) = some 64 := by rw [hA]; rfl
          have hg26 : (A[26]?).bind (·.dst) = some 73 := by rw [hA]; rfl
          simp [hg4, hg7, hg17, hg26]
          refine RunQ.call rfl rfl rfl rfl (by rfl) (by simp (maxDischargeDepth := 120)) (fcube_c (nth l i) (hf _ (nth_mem h2)).ok.mat) (by simp) ?_
          refine RunQ.eval ?_
          simp
          refine RunQ.call rfl rfl rfl rfl (by rfl) (by simp (maxDischargeDepth := 120) [h7, hg4, hg7, hg17, hg26, Flow.enc, q5, q6, hq, d1, k, d2]) (chas_c (Flow.cube (nth l i)) h) (by simp [h7, hg4, hg7, hg17, hg26, Flow.enc, q5, q6, hq, d1, k, d2]) ?_
          refine RunQ.eval ?_
          simp [h7, hg4, hg7, hg17, hg26, Flow.enc, q5, q6, hq, d1, k, d2]
          refine hQ _ _ ?_
          clear hQ hA
          repeat (first | refine WK.seq ?_ | refine WK.block ?_ | refine WK.inBlock ?_ | refine WK.skip ?_ | refine WK.label ?_ | refine WK.scope ?_ | refine WK.inScope ?_ | refine WK.exit rfl ?_)
          refine WK.cond2 rfl (fun hh => ?_) (fun hh => ?_)
          · cases hh
          repeat (first | refine WK.seq ?_ | refine WK.block ?_ | refine WK.inBlock ?_ | refine WK.skip ?_ | refine WK.label ?_ | refine WK.scope ?_ | refine WK.inScope ?_ | refine WK.exit rfl ?_)
          first | refine WK.reg 1300 Try.ntmps12 (by kernel_rfl) ?_ | refine WK.regD 1300 clsOf (by kernel_rfl) Try.ntmps12 (by kernel_rfl) (by kernel_rfl) ?_
          intro A hA Q hQ
          simp [h6]
          refine hQ _ _ ?_
          clear hQ hA
          repeat (first | refine WK.seq ?_ | refine WK.block ?_ | refine WK.inBlock ?_ | refine WK.skip ?_ | refine WK.label ?_ | refine WK.scope ?_ | refine WK.inScope ?_ | refine WK.exit rfl ?_)
          refine WK.next (fun n => n) (IH (i + 1) (by omega) (by omega)) (by repeat (first | exact TmW.nil | refine TmW.upd ?_ (by simp (maxDischargeDepth := 120) [h6]))) (by repeat (first | exact BxW.nil | refine BxW.upd ?_ (by simp (maxDischargeDepth := 120) [h6]))) (by first | exact InjW.id | exact InjW.nil | exact InjW.one | exact InjW.two (by simp) | exact InjW.three (by simp) (by simp) (by simp))
    · repeat (first | refine WK.seq ?_ | refine WK.block ?_ | refine WK.inBlock ?_ | refine WK.skip ?_ | refine WK.label ?_ | refine WK.scope ?_ | refine WK.inScope ?_ | refine WK.exit rfl ?_)
      first | refine WK.reg 1400 Try.ntmps12 (by kernel_rfl) ?_ | refine WK.regD 1400 clsOf (by kernel_rfl) Try.ntmps12 (by kernel_rfl) (by kernel_rfl) ?_
      intro A hA Q hQ
      simp
      refine RunQ.call rfl rfl rfl rfl (by rfl) (by simp (maxDischargeDepth := 120)) (awake27_c) (by simp) ?_
      refine RunQ.eval ?_
      simp
      refine hQ _ _ ?_
      clear hQ hA
      repeat (first | refine WK.seq ?_ | refine WK.block ?_ | refine WK.inBlock ?_ | refine WK.skip ?_ | refine WK.label ?_ | refine WK.scope ?_ | refine WK.inScope ?_ | refine WK.exit rfl ?_)
      refine WK.ret Try.func12 (by simp (maxDischargeDepth := 120) [Try.results12]) (by simp)
end Go.Proofs.Ytfgmjnmkcobhkaa
