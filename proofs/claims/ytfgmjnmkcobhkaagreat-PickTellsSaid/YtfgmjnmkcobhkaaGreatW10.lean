/- Flows: whether they are the same, alike, overlap or are covered; where they go to; and what is made of a change. -/
import Derived.Test.YtfgmjnmkcobhkaaGreatW9
set_option linter.all false
set_option linter.unnecessarySimpa false
set_option linter.unusedVariables false
set_option linter.unusedSimpArgs false
namespace Go.Proofs.YtfgmjnmkcobhkaaGreat
open Go Go.AI Go.Proofs

structure IOk (l : List Inst) : Prop where
  len : l.length ≤ 1000
  acts : ∀ x, x ∈ l → x.acts.length ≤ 1000000
structure FOk (f : Flow) : Prop where
  mat : f.mat.length ≤ 1000000
  insts : IOk f.insts
def numsOf (f : Flow) : List AV := [.int .i64 f.prio, .int .i64 f.idle, .int .i64 f.hard, .int .i64 f.flags]
def Flow.same (a b : Flow) : Bool := a.cookie == b.cookie && ((a.prio == b.prio && (a.idle == b.idle && (a.hard == b.hard && a.flags == b.flags))) && (eqBy (fun x y => x == y) a.mat b.mat && eqBy Inst.same a.insts b.insts))
theorem uIne {x y : BitVec 64} (h : (x == y) = false) : (uI x == uI y) = false := by rw [uI_eq]; exact h
@[simp] theorem eqK_place (p q : Int) (c d : Cube) : eqK (repl 97 false) (.int .i64 p :: encC c) (.int .i64 q :: encC d) = some (p == q && cubeEq c d) := by
  rw [show repl 97 false = false :: repl 96 false from rfl]
  simp only [eqK, eqK_cube, if_true]
def placeOf (f : Flow) : List AV := .int .i64 f.prio :: encC (Flow.cube f)
@[simp] theorem placeOf_cl (f : Flow) : ClL (placeOf f) = true := by simp [placeOf]
theorem drop97 (x : AV) (c : Cube) : List.drop 97 (x :: encC c) = [] := by rw [show (97 : Nat) = 96 + 1 from rfl, List.drop_succ_cons]; simp
theorem take97 (x : AV) (c : Cube) : List.take 97 (x :: encC c) = x :: encC c := by rw [show (97 : Nat) = 96 + 1 from rfl, List.take_succ_cons]; simp
theorem place_c (f : Flow) (h : FOk f) : FnP Tryz.prog 63 [.agg f.enc] (.agg (placeOf f)) := by
  refine FnP.intro Tryz.func63 rfl rfl fun G w => ?_
  repeat (first | refine WK.seq ?_ | refine WK.block ?_ | refine WK.inBlock ?_ | refine WK.skip ?_ | refine WK.label ?_ | refine WK.scope ?_ | refine WK.inScope ?_ | refine WK.exit rfl ?_)
  first | refine WK.reg 100 Tryz.ntmps63 (by kernel_rfl) ?_ | refine WK.regD 100 clsOf (by kernel_rfl) Tryz.ntmps63 (by kernel_rfl) (by kernel_rfl) ?_
  intro A hA Q hQ
  simp
  refine hQ _ _ ?_
  clear hQ hA
  repeat (first | refine WK.seq ?_ | refine WK.block ?_ | refine WK.inBlock ?_ | refine WK.skip ?_ | refine WK.label ?_ | refine WK.scope ?_ | refine WK.inScope ?_ | refine WK.exit rfl ?_)
  first | refine WK.reg 200 Tryz.ntmps63 (by kernel_rfl) ?_ | refine WK.regD 200 clsOf (by kernel_rfl) Tryz.ntmps63 (by kernel_rfl) (by kernel_rfl) ?_
  intro A hA Q hQ
  simp [Flow.enc]
  refine RunQ.call rfl rfl rfl rfl (by rfl) (by simp (maxDischargeDepth := 120) [Flow.enc, drop97, take97]) (fcube_c f h.mat) (by simp [Flow.enc, drop97, take97]) ?_
  refine RunQ.eval ?_
  simp [Flow.enc, drop97, take97]
  refine hQ _ _ ?_
  clear hQ hA
  repeat (first | refine WK.seq ?_ | refine WK.block ?_ | refine WK.inBlock ?_ | refine WK.skip ?_ | refine WK.label ?_ | refine WK.scope ?_ | refine WK.inScope ?_ | refine WK.exit rfl ?_)
  refine WK.ret Tryz.func63 (by simp (maxDischargeDepth := 120) [Tryz.results63, placeOf, drop97, take97]) (by simp [placeOf, drop97, take97])
def Flow.alike (a b : Flow) : Bool := a.prio == b.prio && cubeEq (Flow.cube a) (Flow.cube b)
theorem alike_c (a b : Flow) (ha : FOk a) (hb : FOk b) : FnP Tryz.prog 40 [.agg a.enc, .agg b.enc] (.bool (Flow.alike a b)) := by
  refine FnP.intro Tryz.func40 rfl rfl fun G w => ?_
  repeat (first | refine WK.seq ?_ | refine WK.block ?_ | refine WK.inBlock ?_ | refine WK.skip ?_ | refine WK.label ?_ | refine WK.scope ?_ | refine WK.inScope ?_ | refine WK.exit rfl ?_)
  first | refine WK.reg 100 Tryz.ntmps40 (by kernel_rfl) ?_ | refine WK.regD 100 clsOf (by kernel_rfl) Tryz.ntmps40 (by kernel_rfl) (by kernel_rfl) ?_
  intro A hA Q hQ
  simp
  refine hQ _ _ ?_
  clear hQ hA
  repeat (first | refine WK.seq ?_ | refine WK.block ?_ | refine WK.inBlock ?_ | refine WK.skip ?_ | refine WK.label ?_ | refine WK.scope ?_ | refine WK.inScope ?_ | refine WK.exit rfl ?_)
  first | refine WK.reg 200 Tryz.ntmps40 (by kernel_rfl) ?_ | refine WK.regD 200 clsOf (by kernel_rfl) Tryz.ntmps40 (by kernel_rfl) (by kernel_rfl) ?_
  intro A hA Q hQ
  simp
  refine RunQ.call rfl rfl rfl rfl (by rfl) (by simp (maxDischargeDepth := 120)) (place_c a ha) (by simp) ?_
  refine RunQ.eval ?_
  simp
  refine RunQ.call rfl rfl rfl rfl (by rfl) (by simp (maxDischargeDepth := 120) [placeOf]) (place_c b hb) (by simp [placeOf]) ?_
  refine RunQ.eval ?_
  simp [placeOf]
  refine hQ _ _ ?_
  clear hQ hA
  repeat (first | refine WK.seq ?_ | refine WK.block ?_ | refine WK.inBlock ?_ | refine WK.skip ?_ | refine WK.label ?_ | refine WK.scope ?_ | refine WK.inScope ?_ | refine WK.exit rfl ?_)
  refine WK.ret Tryz.func40 (by simp (maxDischargeDepth := 120) [Tryz.results40, Flow.alike]) (by simp [Flow.alike])
theorem ralike_c (a b : Flow) (ha : FOk a) (hb : FOk b) : FnP Tryz.prog 27 [.agg a.enc, .agg b.enc] (.bool (Flow.alike a b)) := by
  cases k1 : a.prio == b.prio
  · refine FnP.intro Tryz.func27 rfl rfl fun G w => ?_
    repeat (first | refine WK.seq ?_ | refine WK.block ?_ | refine WK.inBlock ?_ | refine WK.skip ?_ | refine WK.label ?_ | refine WK.scope ?_ | refine WK.inScope ?_ | refine WK.exit rfl ?_)
    first | refine WK.reg 100 Tryz.ntmps27 (by kernel_rfl) ?_ | refine WK.regD 100 clsOf (by kernel_rfl) Tryz.ntmps27 (by kernel_rfl) (by kernel_rfl) ?_
    intro A hA Q hQ
    simp
    refine hQ _ _ ?_
    clear hQ hA
    repeat (first | refine WK.seq ?_ | refine WK.block ?_ | refine WK.inBlock ?_ | refine WK.skip ?_ | refine WK.label ?_ | refine WK.scope ?_ | refine WK.inScope ?_ | refine WK.exit rfl ?_)
    first | refine WK.reg 200 Tryz.ntmps27 (by kernel_rfl) ?_ | refine WK.regD 200 clsOf (by kernel_rfl) Tryz.ntmps27 (by kernel_rfl) (by kernel_rfl) ?_
    intro A hA Q hQ
    have hg5 : (A[5]?).bind (·.dst) = some 10 := by rw [hA]; rfl
    simp [Flow.enc, k1, hg5]
    refine hQ _ _ ?_
    clear hQ hA
    repeat (first | refine WK.seq ?_ | refine WK.block ?_ | refine WK.inBlock ?_ | refine WK.skip ?_ | refine WK.label ?_ | refine WK.scope ?_ | refine WK.inScope ?_ | refine WK.exit rfl ?_)
    refine WK.ret Tryz.func27 (by simp (maxDischargeDepth := 120) [Tryz.results27, Flow.alike, k1]) (by simp [Flow.alike, k1])
  · refine FnP.intro Tryz.func27 rfl rfl fun G w => ?_
    repeat (first | refine WK.seq ?_ | refine WK.block ?_ | refine WK.inBlock ?_ | refine WK.skip ?_ | refine WK.label ?_ | refine WK.scope ?_ | refine WK.inScope ?_ | refine WK.exit rfl ?_)
    first | refine WK.reg 100 Tryz.ntmps27 (by kernel_rfl) ?_ | refine WK.regD 100 clsOf (by kernel_rfl) Tryz.ntmps27 (by kernel_rfl) (by kernel_rfl) ?_
    intro A hA Q hQ
    simp
    refine hQ _ _ ?_
    clear hQ hA
    repeat (first | refine WK.seq ?_ | refine WK.block ?_ | refine WK.inBlock ?_ | refine WK.skip ?_ | refine WK.label ?_ | refine WK.scope ?_ | refine WK.inScope ?_ | refine WK.exit rfl ?_)
    first | refine WK.reg 200 Tryz.ntmps27 (by kernel_rfl) ?_ | refine WK.regD 200 clsOf (by kernel_rfl) Tryz.ntmps27 (by kernel_rfl) (by kernel_rfl) ?_
    intro A hA Q hQ
    have hg5 : (A[5]?).bind (·.dst) = some 10 := by rw [hA]; rfl
    simp [Flow.enc, k1, hg5]
    refine RunQ.callG rfl rfl (by simp [hg5, Flow.enc]) rfl (by rfl) (by simp (maxDischargeDepth := 120) [hg5, Flow.enc]) (rfcube_c a ha.mat) (by simp [hg5, Flow.enc]) ?_
    refine RunQ.eval ?_
    simp [hg5, Flow.enc]
    refine RunQ.callG rfl rfl (by simp [hg5, Flow.enc]) rfl (by rfl) (by simp (maxDischargeDepth := 120) [hg5, Flow.enc]) (rfcube_c b hb.mat) (by simp [hg5, Flow.enc]) ?_
    refine RunQ.eval ?_
    simp [hg5, Flow.enc]
    refine hQ _ _ ?_
    clear hQ hA
    repeat (first | refine WK.seq ?_ | refine WK.block ?_ | refine WK.inBlock ?_ | refine WK.skip ?_ | refine WK.label ?_ | refine WK.scope ?_ | refine WK.inScope ?_ | refine WK.exit rfl ?_)
    refine WK.ret Tryz.func27 (by simp (maxDischargeDepth := 120) [Tryz.results27, Flow.alike, k1]) (by simp [Flow.alike, k1])
def Flow.overlap (a b : Flow) : Bool := a.prio == b.prio && cubeMeetOk (Flow.cube a) (Flow.cube b)
theorem covers_c (c : Cube) (f : Flow) (h : FOk f) : FnP Tryz.prog 42 [.agg (encC c), .agg f.enc] (.bool (cubeWithin (Flow.cube f) c)) := by
  refine FnP.intro Tryz.func42 rfl rfl fun G w => ?_
  repeat (first | refine WK.seq ?_ | refine WK.block ?_ | refine WK.inBlock ?_ | refine WK.skip ?_ | refine WK.label ?_ | refine WK.scope ?_ | refine WK.inScope ?_ | refine WK.exit rfl ?_)
  first | refine WK.reg 100 Tryz.ntmps42 (by kernel_rfl) ?_ | refine WK.regD 100 clsOf (by kernel_rfl) Tryz.ntmps42 (by kernel_rfl) (by kernel_rfl) ?_
  intro A hA Q hQ
  simp
  refine hQ _ _ ?_
  clear hQ hA
  repeat (first | refine WK.seq ?_ | refine WK.block ?_ | refine WK.inBlock ?_ | refine WK.skip ?_ | refine WK.label ?_ | refine WK.scope ?_ | refine WK.inScope ?_ | refine WK.exit rfl ?_)
  first | refine WK.reg 200 Tryz.ntmps42 (by kernel_rfl) ?_ | refine WK.regD 200 clsOf (by kernel_rfl) Tryz.ntmps42 (by kernel_rfl) (by kernel_rfl) ?_
  intro A hA Q hQ
  simp
  refine RunQ.call rfl rfl rfl rfl (by rfl) (by simp (maxDischargeDepth := 120)) (fcube_c f h.mat) (by simp) ?_
  refine RunQ.eval ?_
  simp
  refine RunQ.call rfl rfl rfl rfl (by rfl) (by simp (maxDischargeDepth := 120)) (cwithin_c (Flow.cube f) c) (by simp) ?_
  refine RunQ.eval ?_
  simp
  refine hQ _ _ ?_
  clear hQ hA
  repeat (first | refine WK.seq ?_ | refine WK.block ?_ | refine WK.inBlock ?_ | refine WK.skip ?_ | refine WK.label ?_ | refine WK.scope ?_ | refine WK.inScope ?_ | refine WK.exit rfl ?_)
  refine WK.ret Tryz.func42 (by simp (maxDischargeDepth := 120) [Tryz.results42]) (by simp)
theorem rcovers_c (c : Cube) (f : Flow) (h : FOk f) : FnP Tryz.prog 28 [.agg (encC c), .agg f.enc] (.bool (cubeWithin (Flow.cube f) c)) := by
  refine FnP.intro Tryz.func28 rfl rfl fun G w => ?_
  repeat (first | refine WK.seq ?_ | refine WK.block ?_ | refine WK.inBlock ?_ | refine WK.skip ?_ | refine WK.label ?_ | refine WK.scope ?_ | refine WK.inScope ?_ | refine WK.exit rfl ?_)
  first | refine WK.reg 100 Tryz.ntmps28 (by kernel_rfl) ?_ | refine WK.regD 100 clsOf (by kernel_rfl) Tryz.ntmps28 (by kernel_rfl) (by kernel_rfl) ?_
  intro A hA Q hQ
  simp
  refine hQ _ _ ?_
  clear hQ hA
  repeat (first | refine WK.seq ?_ | refine WK.block ?_ | refine WK.inBlock ?_ | refine WK.skip ?_ | refine WK.label ?_ | refine WK.scope ?_ | refine WK.inScope ?_ | refine WK.exit rfl ?_)
  first | refine WK.reg 200 Tryz.ntmps28 (by kernel_rfl) ?_ | refine WK.regD 200 clsOf (by kernel_rfl) Tryz.ntmps28 (by kernel_rfl) (by kernel_rfl) ?_
  intro A hA Q hQ
  simp
  refine RunQ.call rfl rfl rfl rfl (by rfl) (by simp (maxDischargeDepth := 120)) (rfcube_c f h.mat) (by simp) ?_
  refine RunQ.eval ?_
  simp
  refine RunQ.call rfl rfl rfl rfl (by rfl) (by simp (maxDischargeDepth := 120)) (rcwithin_c (Flow.cube f) c) (by simp) ?_
  refine RunQ.eval ?_
  simp
  refine hQ _ _ ?_
  clear hQ hA
  repeat (first | refine WK.seq ?_ | refine WK.block ?_ | refine WK.inBlock ?_ | refine WK.skip ?_ | refine WK.label ?_ | refine WK.scope ?_ | refine WK.inScope ?_ | refine WK.exit rfl ?_)
  refine WK.ret Tryz.func28 (by simp (maxDischargeDepth := 120) [Tryz.results28]) (by simp)
end Go.Proofs.YtfgmjnmkcobhkaaGreat
