/- The laws of flows: what they answer. -/
import Derived.Test.YtfgmjnmkcobhkaaW11
set_option linter.all false
set_option linter.unnecessarySimpa false
set_option linter.unusedVariables false
set_option linter.unusedSimpArgs false
namespace Go.Proofs.Ytfgmjnmkcobhkaa
open Go Go.AI Go.Proofs

def oxmZ : Oxm := ⟨0, false, wideZ, wideZ⟩
def aA : Flow := ⟨0#64, 3, 0, 0, 0, [⟨0, false, ⟨0#64, 1#64⟩, wideZ⟩], [⟨4, 0, wideZ, wideZ, [⟨0, 2, 0, 0, 0, oxmZ⟩, ⟨22, 0, 0, 4, 0, oxmZ⟩]⟩]⟩
def bA : Flow := ⟨0#64, 3, 0, 0, 0, [], []⟩
def mA : FlowMod := ⟨0#64, 0#64, 0, 0, 0, 0, 3, 0, 0, 0, 0, [], []⟩
theorem uI_one : uI 1#64 = 1 := rfl
theorem fA1 : Flow.same aA aA = true := by kernel_rfl
theorem fA2 : Flow.alike aA bA = false := by kernel_rfl
theorem fA3 : Flow.overlap aA bA = true := by kernel_rfl
theorem fA4 : cubeWithin (Flow.cube aA) cubeZ = true := by kernel_rfl
theorem fA5 : cubeWithin (Flow.cube bA) (Flow.cube aA) = false := by kernel_rfl
theorem fA6 : eqBy (fun x y => x == y) (Flow.goPorts aA) [2] = true := by kernel_rfl
theorem fA7 : eqBy (fun x y => x == y) (Flow.goGroups aA) [4] = true := by kernel_rfl
theorem fA8 : (Flow.goPorts aA).length ≤ 1000000 := of_decide_eq_true (by kernel_rfl)
theorem fA9 : (Flow.goGroups aA).length ≤ 1000000 := of_decide_eq_true (by kernel_rfl)
theorem okA : FOk aA := ⟨of_decide_eq_true (by kernel_rfl), ⟨of_decide_eq_true (by kernel_rfl), fun x hx => by simp [aA] at hx; subst hx; simp⟩⟩
theorem okB : FOk bA := ⟨of_decide_eq_true (by kernel_rfl), ⟨of_decide_eq_true (by kernel_rfl), fun x hx => by simp [bA] at hx⟩⟩
theorem okM : FOk (FlowMod.flow mA) := ⟨of_decide_eq_true (by kernel_rfl), ⟨of_decide_eq_true (by kernel_rfl), fun x hx => by simp [FlowMod.flow, mA] at hx⟩⟩
theorem intS_one (x : Int) : intS [x] = .sl false 1 [.int .i64 x] := rfl
theorem awake21_c : FnP Try.prog 14 [] (.bool true) := by
  refine FnP.intro Try.func14 rfl rfl fun G w => ?_
  repeat (first | refine WK.seq ?_ | refine WK.block ?_ | refine WK.inBlock ?_ | refine WK.skip ?_ | refine WK.label ?_ | refine WK.scope ?_ | refine WK.inScope ?_ | refine WK.exit rfl ?_)
  first | refine WK.reg 100 Try.ntmps14 (by kernel_rfl) ?_ | refine WK.regD 100 clsOf (by kernel_rfl) Try.ntmps14 (by kernel_rfl) (by kernel_rfl) ?_
  intro A hA Q hQ
  simp
  refine hQ _ _ ?_
  clear hQ hA
  repeat (first | refine WK.seq ?_ | refine WK.block ?_ | refine WK.inBlock ?_ | refine WK.skip ?_ | refine WK.label ?_ | refine WK.scope ?_ | refine WK.inScope ?_ | refine WK.exit rfl ?_)
  first | refine WK.reg 200 Try.ntmps14 (by kernel_rfl) ?_ | refine WK.regD 200 clsOf (by kernel_rfl) Try.ntmps14 (by kernel_rfl) (by kernel_rfl) ?_
  intro A hA Q hQ
  simp
  refine hQ _ _ ?_
  clear hQ hA
  repeat (first | refine WK.seq ?_ | refine WK.block ?_ | refine WK.inBlock ?_ | refine WK.skip ?_ | refine WK.label ?_ | refine WK.scope ?_ | refine WK.inScope ?_ | refine WK.exit rfl ?_)
  first | refine WK.reg 300 Try.ntmps14 (by kernel_rfl) ?_ | refine WK.regD 300 clsOf (by kernel_rfl) Try.ntmps14 (by kernel_rfl) (by kernel_rfl) ?_
  intro A hA Q hQ
  simp
  refine hQ _ _ ?_
  clear hQ hA
  repeat (first | refine WK.seq ?_ | refine WK.block ?_ | refine WK.inBlock ?_ | refine WK.skip ?_ | refine WK.label ?_ | refine WK.scope ?_ | refine WK.inScope ?_ | refine WK.exit rfl ?_)
  refine WK.next (st' := (⟨(upd (upd J 1 (.ptr 109 0)) 2 (.ptr 201 0)), (upd (upd B0 109 (.var aA.enc)) 201 (.var bA.enc)), 0⟩ : St)) (fun n => n) ?_ (by repeat (first | exact TmW.nil | refine TmW.upd ?_ (by simp (maxDischargeDepth := 120) [aA, bA, Flow.enc, oxmL, Oxm.enc, instL, Inst.enc, actL, Action.enc, oxmZ, wideZ, uI_zero, uI_one]))) (by repeat (first | exact BxW.nil | refine BxW.upd ?_ (by simp (maxDischargeDepth := 120) [aA, bA, Flow.enc, oxmL, Oxm.enc, instL, Inst.enc, actL, Action.enc, oxmZ, wideZ, uI_zero, uI_one]))) (by first | exact InjW.id | exact InjW.nil | exact InjW.one | exact InjW.two (by simp) | exact InjW.three (by simp) (by simp) (by simp))
  repeat (first | refine WK.seq ?_ | refine WK.block ?_ | refine WK.inBlock ?_ | refine WK.skip ?_ | refine WK.label ?_ | refine WK.scope ?_ | refine WK.inScope ?_ | refine WK.exit rfl ?_)
  first | refine WK.reg 400 Try.ntmps14 (by kernel_rfl) ?_ | refine WK.regD 400 clsOf (by kernel_rfl) Try.ntmps14 (by kernel_rfl) (by kernel_rfl) ?_
  intro A hA Q hQ
  have hg3 : (A[3]?).bind (·.dst) = some 16 := by rw [hA]; rfl
  have hg9 : (A[9]?).bind (·.dst) = some 22 := by rw [hA]; rfl
  have hg14 : (A[14]?).bind (·.dst) = some 27 := by rw [hA]; rfl
  have hg19 : (A[19]?).bind (·.dst) = some 32 := by rw [hA]; rfl
  have hg26 : (A[26]?).bind (·.dst) = some 39 := by rw [hA]; rfl
  have hg32 : (A[32]?).bind (·.dst) = some 45 := by rw [hA]; rfl
  have hg38 : (A[38]?).bind (·.dst) = some 51 := by rw [hA]; rfl
  simp [hg3, hg9, hg14, hg19, hg26, hg32, hg38]
  refine RunQ.call rfl rfl rfl rfl (by rfl) (by simp (maxDischargeDepth := 120) [fA1, hg3]) (fsame_c aA aA okA okA) (by simp [fA1, hg3]) ?_
  refine RunQ.eval ?_
  simp [fA1, hg3]
  refine RunQ.callG rfl rfl (by simp [fA2, hg3, hg9]) rfl (by rfl) (by simp (maxDischargeDepth := 120) [fA2, hg3, hg9]) (alike_c aA bA okA okB) (by simp [fA2, hg3, hg9]) ?_
  refine RunQ.eval ?_
  simp [fA2, hg3, hg9]
  refine RunQ.callG rfl rfl (by simp [fA3, hg9, hg14]) rfl (by rfl) (by simp (maxDischargeDepth := 120) [fA3, hg9, hg14]) (overlap_c aA bA okA okB) (by simp [fA3, hg9, hg14]) ?_
  refine RunQ.eval ?_
  simp [fA3, hg9, hg14]
  refine RunQ.callG rfl rfl (by simp [hg14]) rfl (by rfl) (by simp (maxDischargeDepth := 120) [hg14]) (cubeAll_c) (by simp [hg14]) ?_
  refine RunQ.eval ?_
  simp [hg14]
  refine RunQ.callG rfl rfl (by simp [hg14, hg19, fA4]) rfl (by rfl) (by simp (maxDischargeDepth := 120) [hg14, hg19, fA4]) (covers_c cubeZ aA okA) (by simp [hg14, hg19, fA4]) ?_
  refine RunQ.eval ?_
  simp [hg14, hg19, fA4]
  refine RunQ.callG rfl rfl (by simp [hg19]) rfl (by rfl) (by simp (maxDischargeDepth := 120) [hg19]) (fcube_c aA okA.mat) (by simp [hg19]) ?_
  refine RunQ.eval ?_
  simp [hg19]
  refine RunQ.callG rfl rfl (by simp [hg19, hg26, fA5]) rfl (by rfl) (by simp (maxDischargeDepth := 120) [hg19, hg26, fA5]) (covers_c (Flow.cube aA) bA okB) (by simp [hg19, hg26, fA5]) ?_
  refine RunQ.eval ?_
  simp [hg19, hg26, fA5]
  refine RunQ.callG rfl rfl (by simp [hg26]) rfl (by rfl) (by simp (maxDischargeDepth := 120) [hg26]) (fPorts_c aA okA) (by simp [hg26]) ?_
  refine RunQ.eval ?_
  simp [hg26]
  refine RunQ.callG rfl rfl (by simp [hg26, hg32, fA6, intS_one]) rfl (by rfl) (by simp (maxDischargeDepth := 120) [hg26, hg32, fA6, intS_one]) (iequal_c (Flow.goPorts aA) [2] fA8) (by simp [hg26, hg32, fA6, intS_one]) ?_
  refine RunQ.eval ?_
  simp [hg26, hg32, fA6, intS_one]
  refine RunQ.callG rfl rfl (by simp [hg32]) rfl (by rfl) (by simp (maxDischargeDepth := 120) [hg32]) (fGroups_c aA okA) (by simp [hg32]) ?_
  refine RunQ.eval ?_
  simp [hg32]
  refine RunQ.callG rfl rfl (by simp [hg32, hg38, fA7, intS_one]) rfl (by rfl) (by simp (maxDischargeDepth := 120) [hg32, hg38, fA7, intS_one]) (iequal_c (Flow.goGroups aA) [4] fA9) (by simp [hg32, hg38, fA7, intS_one]) ?_
  refine RunQ.eval ?_
  simp [hg32, hg38, fA7, intS_one]
  refine RunQ.callG rfl rfl (by simp [hg38, FlowMod.enc, mA, uI_zero, FlowMod.flow, Flow.enc]) rfl (by rfl) (by simp (maxDischargeDepth := 120) [hg38, FlowMod.enc, mA, uI_zero, FlowMod.flow, Flow.enc]) (of2_c mA okM) (by simp [hg38, FlowMod.enc, mA, uI_zero, FlowMod.flow, Flow.enc]) ?_
  refine RunQ.eval ?_
  simp [hg38, FlowMod.enc, mA, uI_zero, FlowMod.flow, Flow.enc]
  refine hQ _ _ ?_
  clear hQ hA
  repeat (first | refine WK.seq ?_ | refine WK.block ?_ | refine WK.inBlock ?_ | refine WK.skip ?_ | refine WK.label ?_ | refine WK.scope ?_ | refine WK.inScope ?_ | refine WK.exit rfl ?_)
  refine WK.ret Try.func14 (by simp (maxDischargeDepth := 120) [Try.results14]) (by simp)
theorem cubeEq_self (c : Cube) : cubeEq c c = true := by unfold cubeEq; rw [List.all_eq_true]; simp
theorem eqBy_self (l : List Int) : eqBy (fun x y => x == y) l l = true := by unfold eqBy; simp
structure FPl (f : Flow) : Prop where
  ok : FOk f
  acts : (allI id f.insts).length ≤ 1000000
theorem plain_ok {f : Flow} (h : Flow.plain f = true) : FPl f := by
  unfold Flow.plain instsPlain at h
  simp only [Bool.and_eq_true, decide_eq_true_eq, List.all_eq_true, actsPlain] at h
  obtain ⟨h1, h2, h3⟩ := h
  refine ⟨⟨by omega, ⟨by omega, fun x hx => by have := h3 x hx; omega⟩⟩, ?_⟩
  have := allI_len (g := id) (fun l => Nat.le_refl _) 12 f.insts h3
  have h4 : f.insts.length * 12 ≤ 8 * 12 := Nat.mul_le_mul_right _ h2
  omega
theorem goPorts_le {f : Flow} (h : FPl f) : (Flow.goPorts f).length ≤ 1000000 := by
  unfold Flow.goPorts; rw [allI_ofA]; exact Nat.le_trans (ofA_le _ _ _) h.acts
theorem goGroups_le {f : Flow} (h : FPl f) : (Flow.goGroups f).length ≤ 1000000 := by
  unfold Flow.goGroups; rw [allI_ofA]; exact Nat.le_trans (ofA_le _ _ _) h.acts
theorem flowTells_c (a b : Flow) (c : Cube) : FnP Try.prog 3 [.agg a.enc, .agg b.enc, .agg (encC c)] (.bool true) := by
  cases pa : Flow.plain a
  · refine FnP.intro Try.func3 rfl rfl fun G w => ?_
    repeat (first | refine WK.seq ?_ | refine WK.block ?_ | refine WK.inBlock ?_ | refine WK.skip ?_ | refine WK.label ?_ | refine WK.scope ?_ | refine WK.inScope ?_ | refine WK.exit rfl ?_)
    first | refine WK.reg 100 Try.ntmps3 (by kernel_rfl) ?_ | refine WK.regD 100 clsOf (by kernel_rfl) Try.ntmps3 (by kernel_rfl) (by kernel_rfl) ?_
    intro A hA Q hQ
    simp
    refine hQ _ _ ?_
    clear hQ hA
    repeat (first | refine WK.seq ?_ | refine WK.block ?_ | refine WK.inBlock ?_ | refine WK.skip ?_ | refine WK.label ?_ | refine WK.scope ?_ | refine WK.inScope ?_ | refine WK.exit rfl ?_)
    first | refine WK.reg 200 Try.ntmps3 (by kernel_rfl) ?_ | refine WK.regD 200 clsOf (by kernel_rfl) Try.ntmps3 (by kernel_rfl) (by kernel_rfl) ?_
    intro A hA Q hQ
    have hg3 : (A[3]?).bind (·.dst) = some 11 := by rw [hA]; rfl
    simp [hg3]
    refine RunQ.call rfl rfl rfl rfl (by rfl) (by simp (maxDischargeDepth := 120) [pa, hg3]) (pFlow_c a) (by simp [pa, hg3]) ?_
    refine RunQ.eval ?_
    simp [pa, hg3]
    refine hQ _ _ ?_
    clear hQ hA
    repeat (first | refine WK.seq ?_ | refine WK.block ?_ | refine WK.inBlock ?_ | refine WK.skip ?_ | refine WK.label ?_ | refine WK.scope ?_ | refine WK.inScope ?_ | refine WK.exit rfl ?_)
    refine WK.cond2 rfl (fun h => ?_) (fun h => ?_)
    · repeat (first | refine WK.seq ?_ | refine WK.block ?_ | refine WK.inBlock ?_ | refine WK.skip ?_ | refine WK.label ?_ | refine WK.scope ?_ | refine WK.inScope ?_ | refine WK.exit rfl ?_)
      first | refine WK.reg 300 Try.ntmps3 (by kernel_rfl) ?_ | refine WK.regD 300 clsOf (by kernel_rfl) Try.ntmps3 (by kernel_rfl) (by kernel_rfl) ?_
      intro A hA Q hQ
      simp
      refine RunQ.call rfl rfl rfl rfl (by rfl) (by simp (maxDischargeDepth := 120)) (awake21_c) (by simp) ?_
      refine RunQ.eval ?_
      simp
      refine hQ _ _ ?_
      clear hQ hA
      repeat (first | refine WK.seq ?_ | refine WK.block ?_ | refine WK.inBlock ?_ | refine WK.skip ?_ | refine WK.label ?_ | refine WK.scope ?_ | refine WK.inScope ?_ | refine WK.exit rfl ?_)
      refine WK.ret Try.func3 (by simp (maxDischargeDepth := 120) [Try.results3]) (by simp)
    · cases h
  cases pb : Flow.plain b
  · refine FnP.intro Try.func3 rfl rfl fun G w => ?_
    repeat (first | refine WK.seq ?_ | refine WK.block ?_ | refine WK.inBlock ?_ | refine WK.skip ?_ | refine WK.label ?_ | refine WK.scope ?_ | refine WK.inScope ?_ | refine WK.exit rfl ?_)
    first | refine WK.reg 100 Try.ntmps3 (by kernel_rfl) ?_ | refine WK.regD 100 clsOf (by kernel_rfl) Try.ntmps3 (by kernel_rfl) (by kernel_rfl) ?_
    intro A hA Q hQ
    simp
    refine hQ _ _ ?_
    clear hQ hA
    repeat (first | refine WK.seq ?_ | refine WK.block ?_ | refine WK.inBlock ?_ | refine WK.skip ?_ | refine WK.label ?_ | refine WK.scope ?_ | refine WK.inScope ?_ | refine WK.exit rfl ?_)
    first | refine WK.reg 200 Try.ntmps3 (by kernel_rfl) ?_ | refine WK.regD 200 clsOf (by kernel_rfl) Try.ntmps3 (by kernel_rfl) (by kernel_rfl) ?_
    intro A hA Q hQ
    have hg3 : (A[3]?).bind (·.dst) = some 11 := by rw [hA]; rfl
    simp [hg3]
    refine RunQ.call rfl rfl rfl rfl (by rfl) (by simp (maxDischargeDepth := 120) [pa, hg3]) (pFlow_c a) (by simp [pa, hg3]) ?_
    refine RunQ.eval ?_
    simp [pa, hg3]
    refine RunQ.callG rfl rfl (by simp [pb, hg3]) rfl (by rfl) (by simp (maxDischargeDepth := 120) [pb, hg3]) (pFlow_c b) (by simp [pb, hg3]) ?_
    refine RunQ.eval ?_
    simp [pb, hg3]
    refine hQ _ _ ?_
    clear hQ hA
    repeat (first | refine WK.seq ?_ | refine WK.block ?_ | refine WK.inBlock ?_ | refine WK.skip ?_ | refine WK.label ?_ | refine WK.scope ?_ | refine WK.inScope ?_ | refine WK.exit rfl ?_)
    refine WK.cond2 rfl (fun h => ?_) (fun h => ?_)
    · repeat (first | refine WK.seq ?_ | refine WK.block ?_ | refine WK.inBlock ?_ | refine WK.skip ?_ | refine WK.label ?_ | refine WK.scope ?_ | refine WK.inScope ?_ | refine WK.exit rfl ?_)
      first | refine WK.reg 300 Try.ntmps3 (by kernel_rfl) ?_ | refine WK.regD 300 clsOf (by kernel_rfl) Try.ntmps3 (by kernel_rfl) (by kernel_rfl) ?_
      intro A hA Q hQ
      simp
      refine RunQ.call rfl rfl rfl rfl (by rfl) (by simp (maxDischargeDepth := 120)) (awake21_c) (by simp) ?_
      refine RunQ.eval ?_
      simp
      refine hQ _ _ ?_
      clear hQ hA
      repeat (first | refine WK.seq ?_ | refine WK.block ?_ | refine WK.inBlock ?_ | refine WK.skip ?_ | refine WK.label ?_ | refine WK.scope ?_ | refine WK.inScope ?_ | refine WK.exit rfl ?_)
      refine WK.ret Try.func3 (by simp (maxDischargeDepth := 120) [Try.results3]) (by simp)
    · cases h
  have ha := plain_ok pa
  have hb := plain_ok pb
  have c1 := cubeEq_self (Flow.cube a)
  have e1 := eqBy_self (Flow.goPorts a)
  have e2 := eqBy_self (Flow.goGroups a)
  refine FnP.intro Try.func3 rfl rfl fun G w => ?_
  repeat (first | refine WK.seq ?_ | refine WK.block ?_ | refine WK.inBlock ?_ | refine WK.skip ?_ | refine WK.label ?_ | refine WK.scope ?_ | refine WK.inScope ?_ | refine WK.exit rfl ?_)
  first | refine WK.reg 100 Try.ntmps3 (by kernel_rfl) ?_ | refine WK.regD 100 clsOf (by kernel_rfl) Try.ntmps3 (by kernel_rfl) (by kernel_rfl) ?_
  intro A hA Q hQ
  simp
  refine hQ _ _ ?_
  clear hQ hA
  repeat (first | refine WK.seq ?_ | refine WK.block ?_ | refine WK.inBlock ?_ | refine WK.skip ?_ | refine WK.label ?_ | refine WK.scope ?_ | refine WK.inScope ?_ | refine WK.exit rfl ?_)
  first | refine WK.reg 200 Try.ntmps3 (by kernel_rfl) ?_ | refine WK.regD 200 clsOf (by kernel_rfl) Try.ntmps3 (by kernel_rfl) (by kernel_rfl) ?_
  intro A hA Q hQ
  have hg3 : (A[3]?).bind (·.dst) = some 11 := by rw [hA]; rfl
  simp [hg3]
  refine RunQ.call rfl rfl rfl rfl (by rfl) (by simp (maxDischargeDepth := 120) [pa, hg3]) (pFlow_c a) (by simp [pa, hg3]) ?_
  refine RunQ.eval ?_
  simp [pa, hg3]
  refine RunQ.callG rfl rfl (by simp [pb, hg3]) rfl (by rfl) (by simp (maxDischargeDepth := 120) [pb, hg3]) (pFlow_c b) (by simp [pb, hg3]) ?_
  refine RunQ.eval ?_
  simp [pb, hg3]
  refine hQ _ _ ?_
  clear hQ hA
  repeat (first | refine WK.seq ?_ | refine WK.block ?_ | refine WK.inBlock ?_ | refine WK.skip ?_ | refine WK.label ?_ | refine WK.scope ?_ | refine WK.inScope ?_ | refine WK.exit rfl ?_)
  refine WK.cond2 rfl (fun h => ?_) (fun h => ?_)
  · cases h
  repeat (first | refine WK.seq ?_ | refine WK.block ?_ | refine WK.inBlock ?_ | refine WK.skip ?_ | refine WK.label ?_ | refine WK.scope ?_ | refine WK.inScope ?_ | refine WK.exit rfl ?_)
  first | refine WK.reg 300 Try.ntmps3 (by kernel_rfl) ?_ | refine WK.regD 300 clsOf (by kernel_rfl) Try.ntmps3 (by kernel_rfl) (by kernel_rfl) ?_
  intro A hA Q hQ
  have hg5 : (A[5]?).bind (·.dst) = some 22 := by rw [hA]; rfl
  have hg14 : (A[14]?).bind (·.dst) = some 31 := by rw [hA]; rfl
  simp [hg5, hg14]
  refine RunQ.call rfl rfl rfl rfl (by rfl) (by simp (maxDischargeDepth := 120)) (fcube_c a ha.ok.mat) (by simp) ?_
  refine RunQ.eval ?_
  simp
  refine RunQ.call rfl rfl rfl rfl (by rfl) (by simp (maxDischargeDepth := 120) [c1, hg5]) (rfcube_c a ha.ok.mat) (by simp [c1, hg5]) ?_
  refine RunQ.eval ?_
  simp [c1, hg5]
  refine RunQ.callG rfl rfl (by simp [hg5]) rfl (by rfl) (by simp (maxDischargeDepth := 120) [hg5]) (fsame_c a b ha.ok hb.ok) (by simp [hg5]) ?_
  refine RunQ.eval ?_
  simp [hg5]
  refine RunQ.callG rfl rfl (by simp [hg5, hg14]) rfl (by rfl) (by simp (maxDischargeDepth := 120) [hg5, hg14]) (rfsame_c a b ha.ok hb.ok) (by simp [hg5, hg14]) ?_
  refine RunQ.eval ?_
  simp [hg5, hg14]
  refine RunQ.callG rfl rfl (by simp [hg14]) rfl (by rfl) (by simp (maxDischargeDepth := 120) [hg14]) (alike_c a b ha.ok hb.ok) (by simp [hg14]) ?_
  refine RunQ.eval ?_
  simp [hg14]
  refine RunQ.callG rfl rfl (by simp [hg14]) rfl (by rfl) (by simp (maxDischargeDepth := 120) [hg14]) (ralike_c a b ha.ok hb.ok) (by simp [hg14]) ?_
  refine RunQ.eval ?_
  simp [hg14]
  refine hQ _ _ ?_
  clear hQ hA
  repeat (first | refine WK.seq ?_ | refine WK.block ?_ | refine WK.inBlock ?_ | refine WK.skip ?_ | refine WK.label ?_ | refine WK.scope ?_ | refine WK.inScope ?_ | refine WK.exit rfl ?_)
  first | refine WK.reg 400 Try.ntmps3 (by kernel_rfl) ?_ | refine WK.regD 400 clsOf (by kernel_rfl) Try.ntmps3 (by kernel_rfl) (by kernel_rfl) ?_
  intro A hA Q hQ
  have hg1 : (A[1]?).bind (·.dst) = some 41 := by rw [hA]; rfl
  have hg10 : (A[10]?).bind (·.dst) = some 50 := by rw [hA]; rfl
  simp [hg1, hg10]
  refine RunQ.callG rfl rfl (by simp [hg1]) rfl (by rfl) (by simp (maxDischargeDepth := 120) [hg1]) (overlap_c a b ha.ok hb.ok) (by simp [hg1]) ?_
  refine RunQ.eval ?_
  simp [hg1]
  refine RunQ.callG rfl rfl (by simp [hg1, hg10]) rfl (by rfl) (by simp (maxDischargeDepth := 120) [hg1, hg10]) (roverlap_c a b ha.ok hb.ok) (by simp [hg1, hg10]) ?_
  refine RunQ.eval ?_
  simp [hg1, hg10]
  refine RunQ.callG rfl rfl (by simp [hg10]) rfl (by rfl) (by simp (maxDischargeDepth := 120) [hg10]) (covers_c c a ha.ok) (by simp [hg10]) ?_
  refine RunQ.eval ?_
  simp [hg10]
  refine RunQ.callG rfl rfl (by simp [hg10]) rfl (by rfl) (by simp (maxDischargeDepth := 120) [hg10]) (rcovers_c c a ha.ok) (by simp [hg10]) ?_
  refine RunQ.eval ?_
  simp [hg10]
  refine hQ _ _ ?_
  clear hQ hA
  repeat (first | refine WK.seq ?_ | refine WK.block ?_ | refine WK.inBlock ?_ | refine WK.skip ?_ | refine WK.label ?_ | refine WK.scope ?_ | refine WK.inScope ?_ | refine WK.exit rfl ?_)
  first | refine WK.reg 500 Try.ntmps3 (by kernel_rfl) ?_ | refine WK.regD 500 clsOf (by kernel_rfl) Try.ntmps3 (by kernel_rfl) (by kernel_rfl) ?_
  intro A hA Q hQ
  have hg1 : (A[1]?).bind (·.dst) = some 60 := by rw [hA]; rfl
  have hg8 : (A[8]?).bind (·.dst) = some 67 := by rw [hA]; rfl
  have hg15 : (A[15]?).bind (·.dst) = some 74 := by rw [hA]; rfl
  simp [hg1, hg8, hg15]
  refine RunQ.callG rfl rfl (by simp [hg1]) rfl (by rfl) (by simp (maxDischargeDepth := 120) [hg1]) (fPorts_c a ha.ok) (by simp [hg1]) ?_
  refine RunQ.eval ?_
  simp [hg1]
  refine RunQ.callG rfl rfl (by simp [hg1]) rfl (by rfl) (by simp (maxDischargeDepth := 120) [hg1]) (rfPorts_c a ha.ok ha.acts) (by simp [hg1]) ?_
  refine RunQ.eval ?_
  simp [hg1]
  refine RunQ.callG rfl rfl (by simp [hg1, hg8, e1]) rfl (by rfl) (by simp (maxDischargeDepth := 120) [hg1, hg8, e1]) (iequal_c (Flow.goPorts a) (Flow.goPorts a) (goPorts_le ha)) (by simp [hg1, hg8, e1]) ?_
  refine RunQ.eval ?_
  simp [hg1, hg8, e1]
  refine RunQ.callG rfl rfl (by simp [hg8]) rfl (by rfl) (by simp (maxDischargeDepth := 120) [hg8]) (fGroups_c a ha.ok) (by simp [hg8]) ?_
  refine RunQ.eval ?_
  simp [hg8]
  refine RunQ.callG rfl rfl (by simp [hg8]) rfl (by rfl) (by simp (maxDischargeDepth := 120) [hg8]) (rfGroups_c a ha.ok ha.acts) (by simp [hg8]) ?_
  refine RunQ.eval ?_
  simp [hg8]
  refine RunQ.callG rfl rfl (by simp [hg8, hg15, e2]) rfl (by rfl) (by simp (maxDischargeDepth := 120) [hg8, hg15, e2]) (iequal_c (Flow.goGroups a) (Flow.goGroups a) (goGroups_le ha)) (by simp [hg8, hg15, e2]) ?_
  refine RunQ.eval ?_
  simp [hg8, hg15, e2]
  refine RunQ.callG rfl rfl (by simp [hg15]) rfl (by rfl) (by simp (maxDischargeDepth := 120) [hg15]) (awake21_c) (by simp [hg15]) ?_
  refine RunQ.eval ?_
  simp [hg15]
  refine hQ _ _ ?_
  clear hQ hA
  repeat (first | refine WK.seq ?_ | refine WK.block ?_ | refine WK.inBlock ?_ | refine WK.skip ?_ | refine WK.label ?_ | refine WK.scope ?_ | refine WK.inScope ?_ | refine WK.exit rfl ?_)
  refine WK.ret Try.func3 (by simp (maxDischargeDepth := 120) [Try.results3]) (by simp)
end Go.Proofs.Ytfgmjnmkcobhkaa
