/- Flows: whether they are the same, alike, overlap or are covered; where they go to; and what is made of a change. -/
import Derived.Test.YtbncoeoamjcjjaaGreatW9
set_option linter.all false
set_option linter.unnecessarySimpa false
set_option linter.unusedVariables false
set_option linter.unusedSimpArgs false
namespace Go.Proofs.YtbncoeoamjcjjaaGreat
open Go Go.AI Go.Proofs

structure IOk (l : List Inst) : Prop where
  len : l.length ≤ 1000
  acts : ∀ x, x ∈ l → x.acts.length ≤ 1000000
structure FOk (f : Flow) : Prop where
  mat : f.mat.length ≤ 1000000
  insts : IOk f.insts
def numsOf (f : Flow) : List AV := [.int .i64 f.prio, .int .i64 f.idle, .int .i64 f.hard, .int .i64 f.flags]
theorem nums_c (f : Flow) : FnP Tryz.prog 44 [.agg f.enc] (.agg (numsOf f)) := by
  refine FnP.intro Tryz.func44 rfl rfl fun G w => ?_
  repeat (first | refine WK.seq ?_ | refine WK.block ?_ | refine WK.inBlock ?_ | refine WK.skip ?_ | refine WK.label ?_ | refine WK.scope ?_ | refine WK.inScope ?_ | refine WK.exit rfl ?_)
  first | refine WK.reg 100 Tryz.ntmps44 (by kernel_rfl) ?_ | refine WK.regD 100 clsOf (by kernel_rfl) Tryz.ntmps44 (by kernel_rfl) (by kernel_rfl) ?_
  intro A hA Q hQ
  simp
  refine hQ _ _ ?_
  clear hQ hA
  repeat (first | refine WK.seq ?_ | refine WK.block ?_ | refine WK.inBlock ?_ | refine WK.skip ?_ | refine WK.label ?_ | refine WK.scope ?_ | refine WK.inScope ?_ | refine WK.exit rfl ?_)
  first | refine WK.reg 200 Tryz.ntmps44 (by kernel_rfl) ?_ | refine WK.regD 200 clsOf (by kernel_rfl) Tryz.ntmps44 (by kernel_rfl) (by kernel_rfl) ?_
  intro A hA Q hQ
  simp [Flow.enc]
  refine hQ _ _ ?_
  clear hQ hA
  repeat (first | refine WK.seq ?_ | refine WK.block ?_ | refine WK.inBlock ?_ | refine WK.skip ?_ | refine WK.label ?_ | refine WK.scope ?_ | refine WK.inScope ?_ | refine WK.exit rfl ?_)
  refine WK.ret Tryz.func44 (by simp (maxDischargeDepth := 120) [Tryz.results44, numsOf]) (by simp [numsOf])
def Flow.same (a b : Flow) : Bool := a.cookie == b.cookie && ((a.prio == b.prio && (a.idle == b.idle && (a.hard == b.hard && a.flags == b.flags))) && (eqBy (fun x y => x == y) a.mat b.mat && eqBy Inst.same a.insts b.insts))
theorem fsame_c (a b : Flow) (ha : FOk a) (hb : FOk b) : FnP Tryz.prog 18 [.agg a.enc, .agg b.enc] (.bool (Flow.same a b)) := by
  cases k1 : a.cookie == b.cookie
  · refine FnP.intro Tryz.func18 rfl rfl fun G w => ?_
    repeat (first | refine WK.seq ?_ | refine WK.block ?_ | refine WK.inBlock ?_ | refine WK.skip ?_ | refine WK.label ?_ | refine WK.scope ?_ | refine WK.inScope ?_ | refine WK.exit rfl ?_)
    first | refine WK.reg 100 Tryz.ntmps18 (by kernel_rfl) ?_ | refine WK.regD 100 clsOf (by kernel_rfl) Tryz.ntmps18 (by kernel_rfl) (by kernel_rfl) ?_
    intro A hA Q hQ
    simp
    refine hQ _ _ ?_
    clear hQ hA
    repeat (first | refine WK.seq ?_ | refine WK.block ?_ | refine WK.inBlock ?_ | refine WK.skip ?_ | refine WK.label ?_ | refine WK.scope ?_ | refine WK.inScope ?_ | refine WK.exit rfl ?_)
    first | refine WK.reg 200 Tryz.ntmps18 (by kernel_rfl) ?_ | refine WK.regD 200 clsOf (by kernel_rfl) Tryz.ntmps18 (by kernel_rfl) (by kernel_rfl) ?_
    intro A hA Q hQ
    simp
    refine hQ _ _ ?_
    clear hQ hA
    repeat (first | refine WK.seq ?_ | refine WK.block ?_ | refine WK.inBlock ?_ | refine WK.skip ?_ | refine WK.label ?_ | refine WK.scope ?_ | refine WK.inScope ?_ | refine WK.exit rfl ?_)
    first | refine WK.reg 300 Tryz.ntmps18 (by kernel_rfl) ?_ | refine WK.regD 300 clsOf (by kernel_rfl) Tryz.ntmps18 (by kernel_rfl) (by kernel_rfl) ?_
    intro A hA Q hQ
    have hg5 : (A[5]?).bind (·.dst) = some 11 := by rw [hA]; rfl
    have hg14 : (A[14]?).bind (·.dst) = some 20 := by rw [hA]; rfl
    have hg21 : (A[21]?).bind (·.dst) = some 27 := by rw [hA]; rfl
    simp [Flow.enc, k1, hg5, hg14, hg21]
    refine hQ _ _ ?_
    clear hQ hA
    repeat (first | refine WK.seq ?_ | refine WK.block ?_ | refine WK.inBlock ?_ | refine WK.skip ?_ | refine WK.label ?_ | refine WK.scope ?_ | refine WK.inScope ?_ | refine WK.exit rfl ?_)
    refine WK.ret Tryz.func18 (by simp (maxDischargeDepth := 120) [Tryz.results18, Flow.same, k1]) (by simp [Flow.same, k1])
  cases k2 : (a.prio == b.prio && (a.idle == b.idle && (a.hard == b.hard && a.flags == b.flags)))
  · refine FnP.intro Tryz.func18 rfl rfl fun G w => ?_
    repeat (first | refine WK.seq ?_ | refine WK.block ?_ | refine WK.inBlock ?_ | refine WK.skip ?_ | refine WK.label ?_ | refine WK.scope ?_ | refine WK.inScope ?_ | refine WK.exit rfl ?_)
    first | refine WK.reg 100 Tryz.ntmps18 (by kernel_rfl) ?_ | refine WK.regD 100 clsOf (by kernel_rfl) Tryz.ntmps18 (by kernel_rfl) (by kernel_rfl) ?_
    intro A hA Q hQ
    simp
    refine hQ _ _ ?_
    clear hQ hA
    repeat (first | refine WK.seq ?_ | refine WK.block ?_ | refine WK.inBlock ?_ | refine WK.skip ?_ | refine WK.label ?_ | refine WK.scope ?_ | refine WK.inScope ?_ | refine WK.exit rfl ?_)
    first | refine WK.reg 200 Tryz.ntmps18 (by kernel_rfl) ?_ | refine WK.regD 200 clsOf (by kernel_rfl) Tryz.ntmps18 (by kernel_rfl) (by kernel_rfl) ?_
    intro A hA Q hQ
    simp
    refine hQ _ _ ?_
    clear hQ hA
    repeat (first | refine WK.seq ?_ | refine WK.block ?_ | refine WK.inBlock ?_ | refine WK.skip ?_ | refine WK.label ?_ | refine WK.scope ?_ | refine WK.inScope ?_ | refine WK.exit rfl ?_)
    first | refine WK.reg 300 Tryz.ntmps18 (by kernel_rfl) ?_ | refine WK.regD 300 clsOf (by kernel_rfl) Tryz.ntmps18 (by kernel_rfl) (by kernel_rfl) ?_
    intro A hA Q hQ
    have hg5 : (A[5]?).bind (·.dst) = some 11 := by rw [hA]; rfl
    have hg14 : (A[14]?).bind (·.dst) = some 20 := by rw [hA]; rfl
    have hg21 : (A[21]?).bind (·.dst) = some 27 := by rw [hA]; rfl
    simp [Flow.enc, k1, hg5, hg14, hg21]
    refine RunQ.callG rfl rfl (by simp [hg5, Flow.enc]) rfl (by rfl) (by simp (maxDischargeDepth := 120) [hg5, Flow.enc]) (nums_c a) (by simp [hg5, Flow.enc]) ?_
    refine RunQ.eval ?_
    simp [hg5, Flow.enc]
    refine RunQ.callG rfl rfl (by simp [hg5, hg14, hg21, Flow.enc, numsOf, k2]) rfl (by rfl) (by simp (maxDischargeDepth := 120) [hg5, hg14, hg21, Flow.enc, numsOf, k2]) (nums_c b) (by simp [hg5, hg14, hg21, Flow.enc, numsOf, k2]) ?_
    refine RunQ.eval ?_
    simp [hg5, hg14, hg21, Flow.enc, numsOf, k2]
    refine hQ _ _ ?_
    clear hQ hA
    repeat (first | refine WK.seq ?_ | refine WK.block ?_ | refine WK.inBlock ?_ | refine WK.skip ?_ | refine WK.label ?_ | refine WK.scope ?_ | refine WK.inScope ?_ | refine WK.exit rfl ?_)
    refine WK.ret Tryz.func18 (by simp (maxDischargeDepth := 120) [Tryz.results18, Flow.same, k1, k2]) (by simp [Flow.same, k1, k2])
  cases k3 : eqBy (fun x y => x == y) a.mat b.mat
  · refine FnP.intro Tryz.func18 rfl rfl fun G w => ?_
    repeat (first | refine WK.seq ?_ | refine WK.block ?_ | refine WK.inBlock ?_ | refine WK.skip ?_ | refine WK.label ?_ | refine WK.scope ?_ | refine WK.inScope ?_ | refine WK.exit rfl ?_)
    first | refine WK.reg 100 Tryz.ntmps18 (by kernel_rfl) ?_ | refine WK.regD 100 clsOf (by kernel_rfl) Tryz.ntmps18 (by kernel_rfl) (by kernel_rfl) ?_
    intro A hA Q hQ
    simp
    refine hQ _ _ ?_
    clear hQ hA
    repeat (first | refine WK.seq ?_ | refine WK.block ?_ | refine WK.inBlock ?_ | refine WK.skip ?_ | refine WK.label ?_ | refine WK.scope ?_ | refine WK.inScope ?_ | refine WK.exit rfl ?_)
    first | refine WK.reg 200 Tryz.ntmps18 (by kernel_rfl) ?_ | refine WK.regD 200 clsOf (by kernel_rfl) Tryz.ntmps18 (by kernel_rfl) (by kernel_rfl) ?_
    intro A hA Q hQ
    simp
    refine hQ _ _ ?_
    clear hQ hA
    repeat (first | refine WK.seq ?_ | refine WK.block ?_ | refine WK.inBlock ?_ | refine WK.skip ?_ | refine WK.label ?_ | refine WK.scope ?_ | refine WK.inScope ?_ | refine WK.exit rfl ?_)
    first | refine WK.reg 300 Tryz.ntmps18 (by kernel_rfl) ?_ | refine WK.regD 300 clsOf (by kernel_rfl) Tryz.ntmps18 (by kernel_rfl) (by kernel_rfl) ?_
    intro A hA Q hQ
    have hg5 : (A[5]?).bind (·.dst) = some 11 := by rw [hA]; rfl
    have hg14 : (A[14]?).bind (·.dst) = some 20 := by rw [hA]; rfl
    have hg21 : (A[21]?).bind (·.dst) = some 27 := by rw [hA]; rfl
    simp [Flow.enc, k1, hg5, hg14, hg21]
    refine RunQ.callG rfl rfl (by simp [hg5, Flow.enc]) rfl (by rfl) (by simp (maxDischargeDepth := 120) [hg5, Flow.enc]) (nums_c a) (by simp [hg5, Flow.enc]) ?_
    refine RunQ.eval ?_
    simp [hg5, Flow.enc]
    refine RunQ.callG rfl rfl (by simp [hg5, hg14, hg21, Flow.enc, numsOf, k2]) rfl (by rfl) (by simp (maxDischargeDepth := 120) [hg5, hg14, hg21, Flow.enc, numsOf, k2]) (nums_c b) (by simp [hg5, hg14, hg21, Flow.enc, numsOf, k2]) ?_
    refine RunQ.eval ?_
    simp [hg5, hg14, hg21, Flow.enc, numsOf, k2]
    refine RunQ.callG rfl rfl (by simp [hg14, hg21, oxmS, k3]) rfl (by rfl) (by simp (maxDischargeDepth := 120) [hg14, hg21, oxmS, k3]) (msame_c a.mat b.mat ha.mat) (by simp [hg14, hg21, oxmS, k3]) ?_
    refine RunQ.eval ?_
    simp [hg14, hg21, oxmS, k3]
    refine hQ _ _ ?_
    clear hQ hA
    repeat (first | refine WK.seq ?_ | refine WK.block ?_ | refine WK.inBlock ?_ | refine WK.skip ?_ | refine WK.label ?_ | refine WK.scope ?_ | refine WK.inScope ?_ | refine WK.exit rfl ?_)
    refine WK.ret Tryz.func18 (by simp (maxDischargeDepth := 120) [Tryz.results18, Flow.same, k1, k2, k3]) (by simp [Flow.same, k1, k2, k3])
  refine FnP.intro Tryz.func18 rfl rfl fun G w => ?_
  repeat (first | refine WK.seq ?_ | refine WK.block ?_ | refine WK.inBlock ?_ | refine WK.skip ?_ | refine WK.label ?_ | refine WK.scope ?_ | refine WK.inScope ?_ | refine WK.exit rfl ?_)
  first | refine WK.reg 100 Tryz.ntmps18 (by kernel_rfl) ?_ | refine WK.regD 100 clsOf (by kernel_rfl) Tryz.ntmps18 (by kernel_rfl) (by kernel_rfl) ?_
  intro A hA Q hQ
  simp
  refine hQ _ _ ?_
  clear hQ hA
  repeat (first | refine WK.seq ?_ | refine WK.block ?_ | refine WK.inBlock ?_ | refine WK.skip ?_ | refine WK.label ?_ | refine WK.scope ?_ | refine WK.inScope ?_ | refine WK.exit rfl ?_)
  first | refine WK.reg 200 Tryz.ntmps18 (by kernel_rfl) ?_ | refine WK.regD 200 clsOf (by kernel_rfl) Tryz.ntmps18 (by kernel_rfl) (by kernel_rfl) ?_
  intro A hA Q hQ
  simp
  refine hQ _ _ ?_
  clear hQ hA
  repeat (first | refine WK.seq ?_ | refine WK.block ?_ | refine WK.inBlock ?_ | refine WK.skip ?_ | refine WK.label ?_ | refine WK.scope ?_ | refine WK.inScope ?_ | refine WK.exit rfl ?_)
  first | refine WK.reg 300 Tryz.ntmps18 (by kernel_rfl) ?_ | refine WK.regD 300 clsOf (by kernel_rfl) Tryz.ntmps18 (by kernel_rfl) (by kernel_rfl) ?_
  intro A hA Q hQ
  have hg5 : (A[5]?).bind (·.dst) = some 11 := by rw [hA]; rfl
  have hg14 : (A[14]?).bind (·.dst) = some 20 := by rw [hA]; rfl
  have hg21 : (A[21]?).bind (·.dst) = some 27 := by rw [hA]; rfl
  simp [Flow.enc, k1, hg5, hg14, hg21]
  refine RunQ.callG rfl rfl (by simp [hg5, Flow.enc]) rfl (by rfl) (by simp (maxDischargeDepth := 120) [hg5, Flow.enc]) (nums_c a) (by simp [hg5, Flow.enc]) ?_
  refine RunQ.eval ?_
  simp [hg5, Flow.enc]
  refine RunQ.callG rfl rfl (by simp [hg5, hg14, hg21, Flow.enc, numsOf, k2]) rfl (by rfl) (by simp (maxDischargeDepth := 120) [hg5, hg14, hg21, Flow.enc, numsOf, k2]) (nums_c b) (by simp [hg5, hg14, hg21, Flow.enc, numsOf, k2]) ?_
  refine RunQ.eval ?_
  simp [hg5, hg14, hg21, Flow.enc, numsOf, k2]
  refine RunQ.callG rfl rfl (by simp [hg14, hg21, oxmS, k3]) rfl (by rfl) (by simp (maxDischargeDepth := 120) [hg14, hg21, oxmS, k3]) (msame_c a.mat b.mat ha.mat) (by simp [hg14, hg21, oxmS, k3]) ?_
  refine RunQ.eval ?_
  simp [hg14, hg21, oxmS, k3]
  refine RunQ.callG rfl rfl (by simp [hg21, instS]) rfl (by rfl) (by simp (maxDischargeDepth := 120) [hg21, instS]) (insame_c a.insts b.insts (by have := ha.insts.len; omega) ha.insts.acts) (by simp [hg21, instS]) ?_
  refine RunQ.eval ?_
  simp [hg21, instS]
  refine hQ _ _ ?_
  clear hQ hA
  repeat (first | refine WK.seq ?_ | refine WK.block ?_ | refine WK.inBlock ?_ | refine WK.skip ?_ | refine WK.label ?_ | refine WK.scope ?_ | refine WK.inScope ?_ | refine WK.exit rfl ?_)
  refine WK.ret Tryz.func18 (by simp (maxDischargeDepth := 120) [Tryz.results18, Flow.same, k1, k2, k3]) (by simp [Flow.same, k1, k2, k3])
theorem uIne {x y : BitVec 64} (h : (x == y) = false) : (uI x == uI y) = false := by rw [uI_eq]; exact h
theorem rfsame_c (a b : Flow) (ha : FOk a) (hb : FOk b) : FnP Tryz.prog 34 [.agg a.enc, .agg b.enc] (.bool (Flow.same a b)) := by
  cases k1 : a.cookie == b.cookie
  · refine FnP.intro Tryz.func34 rfl rfl fun G w => ?_
    repeat (first | refine WK.seq ?_ | refine WK.block ?_ | refine WK.inBlock ?_ | refine WK.skip ?_ | refine WK.label ?_ | refine WK.scope ?_ | refine WK.inScope ?_ | refine WK.exit rfl ?_)
    first | refine WK.reg 100 Tryz.ntmps34 (by kernel_rfl) ?_ | refine WK.regD 100 clsOf (by kernel_rfl) Tryz.ntmps34 (by kernel_rfl) (by kernel_rfl) ?_
    intro A hA Q hQ
    simp
    refine hQ _ _ ?_
    clear hQ hA
    repeat (first | refine WK.seq ?_ | refine WK.block ?_ | refine WK.inBlock ?_ | refine WK.skip ?_ | refine WK.label ?_ | refine WK.scope ?_ | refine WK.inScope ?_ | refine WK.exit rfl ?_)
    first | refine WK.reg 200 Tryz.ntmps34 (by kernel_rfl) ?_ | refine WK.regD 200 clsOf (by kernel_rfl) Tryz.ntmps34 (by kernel_rfl) (by kernel_rfl) ?_
    intro A hA Q hQ
    have hg5 : (A[5]?).bind (·.dst) = some 11 := by rw [hA]; rfl
    have hg12 : (A[12]?).bind (·.dst) = some 18 := by rw [hA]; rfl
    have hg19 : (A[19]?).bind (·.dst) = some 25 := by rw [hA]; rfl
    have hg26 : (A[26]?).bind (·.dst) = some 32 := by rw [hA]; rfl
    simp [Flow.enc, k1, hg5, hg12, hg19, hg26]
    refine hQ _ _ ?_
    clear hQ hA
    repeat (first | refine WK.seq ?_ | refine WK.block ?_ | refine WK.inBlock ?_ | refine WK.skip ?_ | refine WK.label ?_ | refine WK.scope ?_ | refine WK.inScope ?_ | refine WK.exit rfl ?_)
    first | refine WK.reg 300 Tryz.ntmps34 (by kernel_rfl) ?_ | refine WK.regD 300 clsOf (by kernel_rfl) Tryz.ntmps34 (by kernel_rfl) (by kernel_rfl) ?_
    intro A hA Q hQ
    have hg1 : (A[1]?).bind (·.dst) = some 40 := by rw [hA]; rfl
    have hg8 : (A[8]?).bind (·.dst) = some 47 := by rw [hA]; rfl
    simp [Flow.enc, hg1, hg8]
    refine hQ _ _ ?_
    clear hQ hA
    repeat (first | refine WK.seq ?_ | refine WK.block ?_ | refine WK.inBlock ?_ | refine WK.skip ?_ | refine WK.label ?_ | refine WK.scope ?_ | refine WK.inScope ?_ | refine WK.exit rfl ?_)
    refine WK.ret Tryz.func34 (by simp (maxDischargeDepth := 120) [Tryz.results34, Flow.same, k1]) (by simp [Flow.same, k1])
  cases k2 : a.prio == b.prio
  · refine FnP.intro Tryz.func34 rfl rfl fun G w => ?_
    repeat (first | refine WK.seq ?_ | refine WK.block ?_ | refine WK.inBlock ?_ | refine WK.skip ?_ | refine WK.label ?_ | refine WK.scope ?_ | refine WK.inScope ?_ | refine WK.exit rfl ?_)
    first | refine WK.reg 100 Tryz.ntmps34 (by kernel_rfl) ?_ | refine WK.regD 100 clsOf (by kernel_rfl) Tryz.ntmps34 (by kernel_rfl) (by kernel_rfl) ?_
    intro A hA Q hQ
    simp
    refine hQ _ _ ?_
    clear hQ hA
    repeat (first | refine WK.seq ?_ | refine WK.block ?_ | refine WK.inBlock ?_ | refine WK.skip ?_ | refine WK.label ?_ | refine WK.scope ?_ | refine WK.inScope ?_ | refine WK.exit rfl ?_)
    first | refine WK.reg 200 Tryz.ntmps34 (by kernel_rfl) ?_ | refine WK.regD 200 clsOf (by kernel_rfl) Tryz.ntmps34 (by kernel_rfl) (by kernel_rfl) ?_
    intro A hA Q hQ
    have hg5 : (A[5]?).bind (·.dst) = some 11 := by rw [hA]; rfl
    have hg12 : (A[12]?).bind (·.dst) = some 18 := by rw [hA]; rfl
    have hg19 : (A[19]?).bind (·.dst) = some 25 := by rw [hA]; rfl
    have hg26 : (A[26]?).bind (·.dst) = some 32 := by rw [hA]; rfl
    simp [Flow.enc, k1, k2, hg5, hg12, hg19, hg26]
    refine hQ _ _ ?_
    clear hQ hA
    repeat (first | refine WK.seq ?_ | refine WK.block ?_ | refine WK.inBlock ?_ | refine WK.skip ?_ | refine WK.label ?_ | refine WK.scope ?_ | refine WK.inScope ?_ | refine WK.exit rfl ?_)
    first | refine WK.reg 300 Tryz.ntmps34 (by kernel_rfl) ?_ | refine WK.regD 300 clsOf (by kernel_rfl) Tryz.ntmps34 (by kernel_rfl) (by kernel_rfl) ?_
    intro A hA Q hQ
    have hg1 : (A[1]?).bind (·.dst) = some 40 := by rw [hA]; rfl
    have hg8 : (A[8]?).bind (·.dst) = some 47 := by rw [hA]; rfl
    simp [Flow.enc, hg1, hg8]
    refine hQ _ _ ?_
    clear hQ hA
    repeat (first | refine WK.seq ?_ | refine WK.block ?_ | refine WK.inBlock ?_ | refine WK.skip ?_ | refine WK.label ?_ | refine WK.scope ?_ | refine WK.inScope ?_ | refine WK.exit rfl ?_)
    refine WK.ret Tryz.func34 (by simp (maxDischargeDepth := 120) [Tryz.results34, Flow.same, k1, k2]) (by simp [Flow.same, k1, k2])
  cases k3 : a.idle == b.idle
  · refine FnP.intro Tryz.func34 rfl rfl fun G w => ?_
    repeat (first | refine WK.seq ?_ | refine WK.block ?_ | refine WK.inBlock ?_ | refine WK.skip ?_ | refine WK.label ?_ | refine WK.scope ?_ | refine WK.inScope ?_ | refine WK.exit rfl ?_)
    first | refine WK.reg 100 Tryz.ntmps34 (by kernel_rfl) ?_ | refine WK.regD 100 clsOf (by kernel_rfl) Tryz.ntmps34 (by kernel_rfl) (by kernel_rfl) ?_
    intro A hA Q hQ
    simp
    refine hQ _ _ ?_
    clear hQ hA
    repeat (first | refine WK.seq ?_ | refine WK.block ?_ | refine WK.inBlock ?_ | refine WK.skip ?_ | refine WK.label ?_ | refine WK.scope ?_ | refine WK.inScope ?_ | refine WK.exit rfl ?_)
    first | refine WK.reg 200 Tryz.ntmps34 (by kernel_rfl) ?_ | refine WK.regD 200 clsOf (by kernel_rfl) Tryz.ntmps34 (by kernel_rfl) (by kernel_rfl) ?_
    intro A hA Q hQ
    have hg5 : (A[5]?).bind (·.dst) = some 11 := by rw [hA]; rfl
    have hg12 : (A[12]?).bind (·.dst) = some 18 := by rw [hA]; rfl
    have hg19 : (A[19]?).bind (·.dst) = some 25 := by rw [hA]; rfl
    have hg26 : (A[26]?).bind (·.dst) = some 32 := by rw [hA]; rfl
    simp [Flow.enc, k1, k2, k3, hg5, hg12, hg19, hg26]
    refine hQ _ _ ?_
    clear hQ hA
    repeat (first | refine WK.seq ?_ | refine WK.block ?_ | refine WK.inBlock ?_ | refine WK.skip ?_ | refine WK.label ?_ | refine WK.scope ?_ | refine WK.inScope ?_ | refine WK.exit rfl ?_)
    first | refine WK.reg 300 Tryz.ntmps34 (by kernel_rfl) ?_ | refine WK.regD 300 clsOf (by kernel_rfl) Tryz.ntmps34 (by kernel_rfl) (by kernel_rfl) ?_
    intro A hA Q hQ
    have hg1 : (A[1]?).bind (·.dst) = some 40 := by rw [hA]; rfl
    have hg8 : (A[8]?).bind (·.dst) = some 47 := by rw [hA]; rfl
    simp [Flow.enc, hg1, hg8]
    refine hQ _ _ ?_
    clear hQ hA
    repeat (first | refine WK.seq ?_ | refine WK.block ?_ | refine WK.inBlock ?_ | refine WK.skip ?_ | refine WK.label ?_ | refine WK.scope ?_ | refine WK.inScope ?_ | refine WK.exit rfl ?_)
    refine WK.ret Tryz.func34 (by simp (maxDischargeDepth := 120) [Tryz.results34, Flow.same, k1, k2, k3]) (by simp [Flow.same, k1, k2, k3])
  cases k4 : a.hard == b.hard
  · refine FnP.intro Tryz.func34 rfl rfl fun G w => ?_
    repeat (first | refine WK.seq ?_ | refine WK.block ?_ | refine WK.inBlock ?_ | refine WK.skip ?_ | refine WK.label ?_ | refine WK.scope ?_ | refine WK.inScope ?_ | refine WK.exit rfl ?_)
    first | refine WK.reg 100 Tryz.ntmps34 (by kernel_rfl) ?_ | refine WK.regD 100 clsOf (by kernel_rfl) Tryz.ntmps34 (by kernel_rfl) (by kernel_rfl) ?_
    intro A hA Q hQ
    simp
    refine hQ _ _ ?_
    clear hQ hA
    repeat (first | refine WK.seq ?_ | refine WK.block ?_ | refine WK.inBlock ?_ | refine WK.skip ?_ | refine WK.label ?_ | refine WK.scope ?_ | refine WK.inScope ?_ | refine WK.exit rfl ?_)
    first | refine WK.reg 200 Tryz.ntmps34 (by kernel_rfl) ?_ | refine WK.regD 200 clsOf (by kernel_rfl) Tryz.ntmps34 (by kernel_rfl) (by kernel_rfl) ?_
    intro A hA Q hQ
    have hg5 : (A[5]?).bind (·.dst) = some 11 := by rw [hA]; rfl
    have hg12 : (A[12]?).bind (·.dst) = some 18 := by rw [hA]; rfl
    have hg19 : (A[19]?).bind (·.dst) = some 25 := by rw [hA]; rfl
    have hg26 : (A[26]?).bind (·.dst) = some 32 := by rw [hA]; rfl
    simp [Flow.enc, k1, k2, k3, k4, hg5, hg12, hg19, hg26]
    refine hQ _ _ ?_
    clear hQ hA
    repeat (first | refine WK.seq ?_ | refine WK.block ?_ | refine WK.inBlock ?_ | refine WK.skip ?_ | refine WK.label ?_ | refine WK.scope ?_ | refine WK.inScope ?_ | refine WK.exit rfl ?_)
    first | refine WK.reg 300 Tryz.ntmps34 (by kernel_rfl) ?_ | refine WK.regD 300 clsOf (by kernel_rfl) Tryz.ntmps34 (by kernel_rfl) (by kernel_rfl) ?_
    intro A hA Q hQ
    have hg1 : (A[1]?).bind (·.dst) = some 40 := by rw [hA]; rfl
    have hg8 : (A[8]?).bind (·.dst) = some 47 := by rw [hA]; rfl
    simp [Flow.enc, hg1, hg8]
    refine hQ _ _ ?_
    clear hQ hA
    repeat (first | refine WK.seq ?_ | refine WK.block ?_ | refine WK.inBlock ?_ | refine WK.skip ?_ | refine WK.label ?_ | refine WK.scope ?_ | refine WK.inScope ?_ | refine WK.exit rfl ?_)
    refine WK.ret Tryz.func34 (by simp (maxDischargeDepth := 120) [Tryz.results34, Flow.same, k1, k2, k3, k4]) (by simp [Flow.same, k1, k2, k3, k4])
  cases k5 : a.flags == b.flags
  · refine FnP.intro Tryz.func34 rfl rfl fun G w => ?_
    repeat (first | refine WK.seq ?_ | refine WK.block ?_ | refine WK.inBlock ?_ | refine WK.skip ?_ | refine WK.label ?_ | refine WK.scope ?_ | refine WK.inScope ?_ | refine WK.exit rfl ?_)
    first | refine WK.reg 100 Tryz.ntmps34 (by kernel_rfl) ?_ | refine WK.regD 100 clsOf (by kernel_rfl) Tryz.ntmps34 (by kernel_rfl) (by kernel_rfl) ?_
    intro A hA Q hQ
    simp
    refine hQ _ _ ?_
    clear hQ hA
    repeat (first | refine WK.seq ?_ | refine WK.block ?_ | refine WK.inBlock ?_ | refine WK.skip ?_ | refine WK.label ?_ | refine WK.scope ?_ | refine WK.inScope ?_ | refine WK.exit rfl ?_)
    first | refine WK.reg 200 Tryz.ntmps34 (by kernel_rfl) ?_ | refine WK.regD 200 clsOf (by kernel_rfl) Tryz.ntmps34 (by kernel_rfl) (by kernel_rfl) ?_
    intro A hA Q hQ
    have hg5 : (A[5]?).bind (·.dst) = some 11 := by rw [hA]; rfl
    have hg12 : (A[12]?).bind (·.dst) = some 18 := by rw [hA]; rfl
    have hg19 : (A[19]?).bind (·.dst) = some 25 := by rw [hA]; rfl
    have hg26 : (A[26]?).bind (·.dst) = some 32 := by rw [hA]; rfl
    simp [Flow.enc, k1, k2, k3, k4, k5, hg5, hg12, hg19, hg26]
    refine hQ _ _ ?_
    clear hQ hA
    repeat (first | refine WK.seq ?_ | refine WK.block ?_ | refine WK.inBlock ?_ | refine WK.skip ?_ | refine WK.label ?_ | refine WK.scope ?_ | refine WK.inScope ?_ | refine WK.exit rfl ?_)
    first | refine WK.reg 300 Tryz.ntmps34 (by kernel_rfl) ?_ | refine WK.regD 300 clsOf (by kernel_rfl) Tryz.ntmps34 (by kernel_rfl) (by kernel_rfl) ?_
    intro A hA Q hQ
    have hg1 : (A[1]?).bind (·.dst) = some 40 := by rw [hA]; rfl
    have hg8 : (A[8]?).bind (·.dst) = some 47 := by rw [hA]; rfl
    simp [Flow.enc, hg1, hg8]
    refine hQ _ _ ?_
    clear hQ hA
    repeat (first | refine WK.seq ?_ | refine WK.block ?_ | refine WK.inBlock ?_ | refine WK.skip ?_ | refine WK.label ?_ | refine WK.scope ?_ | refine WK.inScope ?_ | refine WK.exit rfl ?_)
    refine WK.ret Tryz.func34 (by simp (maxDischargeDepth := 120) [Tryz.results34, Flow.same, k1, k2, k3, k4, k5]) (by simp [Flow.same, k1, k2, k3, k4, k5])
  cases k6 : eqBy (fun x y => x == y) a.mat b.mat
  · refine FnP.intro Tryz.func34 rfl rfl fun G w => ?_
    repeat (first | refine WK.seq ?_ | refine WK.block ?_ | refine WK.inBlock ?_ | refine WK.skip ?_ | refine WK.label ?_ | refine WK.scope ?_ | refine WK.inScope ?_ | refine WK.exit rfl ?_)
    first | refine WK.reg 100 Tryz.ntmps34 (by kernel_rfl) ?_ | refine WK.regD 100 clsOf (by kernel_rfl) Tryz.ntmps34 (by kernel_rfl) (by kernel_rfl) ?_
    intro A hA Q hQ
    simp
    refine hQ _ _ ?_
    clear hQ hA
    repeat (first | refine WK.seq ?_ | refine WK.block ?_ | refine WK.inBlock ?_ | refine WK.skip ?_ | refine WK.label ?_ | refine WK.scope ?_ | refine WK.inScope ?_ | refine WK.exit rfl ?_)
    first | refine WK.reg 200 Tryz.ntmps34 (by kernel_rfl) ?_ | refine WK.regD 200 clsOf (by kernel_rfl) Tryz.ntmps34 (by kernel_rfl) (by kernel_rfl) ?_
    intro A hA Q hQ
    have hg5 : (A[5]?).bind (·.dst) = some 11 := by rw [hA]; rfl
    have hg12 : (A[12]?).bind (·.dst) = some 18 := by rw [hA]; rfl
    have hg19 : (A[19]?).bind (·.dst) = some 25 := by rw [hA]; rfl
    have hg26 : (A[26]?).bind (·.dst) = some 32 := by rw [hA]; rfl
    simp [Flow.enc, k1, k2, k3, k4, k5, hg5, hg12, hg19, hg26]
    refine hQ _ _ ?_
    clear hQ hA
    repeat (first | refine WK.seq ?_ | refine WK.block ?_ | refine WK.inBlock ?_ | refine WK.skip ?_ | refine WK.label ?_ | refine WK.scope ?_ | refine WK.inScope ?_ | refine WK.exit rfl ?_)
    first | refine WK.reg 300 Tryz.ntmps34 (by kernel_rfl) ?_ | refine WK.regD 300 clsOf (by kernel_rfl) Tryz.ntmps34 (by kernel_rfl) (by kernel_rfl) ?_
    intro A hA Q hQ
    have hg1 : (A[1]?).bind (·.dst) = some 40 := by rw [hA]; rfl
    have hg8 : (A[8]?).bind (·.dst) = some 47 := by rw [hA]; rfl
    simp [Flow.enc, hg1, hg8]
    refine RunQ.callG rfl rfl (by simp [hg1, hg8, oxmS, k6]) rfl (by rfl) (by simp (maxDischargeDepth := 120) [hg1, hg8, oxmS, k6]) (rsame_oxm a.mat b.mat ha.mat) (by simp [hg1, hg8, oxmS, k6]) ?_
    refine RunQ.eval ?_
    simp [hg1, hg8, oxmS, k6]
    refine hQ _ _ ?_
    clear hQ hA
    repeat (first | refine WK.seq ?_ | refine WK.block ?_ | refine WK.inBlock ?_ | refine WK.skip ?_ | refine WK.label ?_ | refine WK.scope ?_ | refine WK.inScope ?_ | refine WK.exit rfl ?_)
    refine WK.ret Tryz.func34 (by simp (maxDischargeDepth := 120) [Tryz.results34, Flow.same, k1, k2, k3, k4, k5, k6]) (by simp [Flow.same, k1, k2, k3, k4, k5, k6])
  refine FnP.intro Tryz.func34 rfl rfl fun G w => ?_
  repeat (first | refine WK.seq ?_ | refine WK.block ?_ | refine WK.inBlock ?_ | refine WK.skip ?_ | refine WK.label ?_ | refine WK.scope ?_ | refine WK.inScope ?_ | refine WK.exit rfl ?_)
  first | refine WK.reg 100 Tryz.ntmps34 (by kernel_rfl) ?_ | refine WK.regD 100 clsOf (by kernel_rfl) Tryz.ntmps34 (by kernel_rfl) (by kernel_rfl) ?_
  intro A hA Q hQ
  simp
  refine hQ _ _ ?_
  clear hQ hA
  repeat (first | refine WK.seq ?_ | refine WK.block ?_ | refine WK.inBlock ?_ | refine WK.skip ?_ | refine WK.label ?_ | refine WK.scope ?_ | refine WK.inScope ?_ | refine WK.exit rfl ?_)
  first | refine WK.reg 200 Tryz.ntmps34 (by kernel_rfl) ?_ | refine WK.regD 200 clsOf (by kernel_rfl) Tryz.ntmps34 (by kernel_rfl) (by kernel_rfl) ?_
  intro A hA Q hQ
  have hg5 : (A[5]?).bind (·.dst) = some 11 := by rw [hA]; rfl
  have hg12 : (A[12]?).bind (·.dst) = some 18 := by rw [hA]; rfl
  have hg19 : (A[19]?).bind (·.dst) = some 25 := by rw [hA]; rfl
  have hg26 : (A[26]?).bind (·.dst) = some 32 := by rw [hA]; rfl
  simp [Flow.enc, k1, k2, k3, k4, k5, hg5, hg12, hg19, hg26]
  refine hQ _ _ ?_
  clear hQ hA
  repeat (first | refine WK.seq ?_ | refine WK.block ?_ | refine WK.inBlock ?_ | refine WK.skip ?_ | refine WK.label ?_ | refine WK.scope ?_ | refine WK.inScope ?_ | refine WK.exit rfl ?_)
  first | refine WK.reg 300 Tryz.ntmps34 (by kernel_rfl) ?_ | refine WK.regD 300 clsOf (by kernel_rfl) Tryz.ntmps34 (by kernel_rfl) (by kernel_rfl) ?_
  intro A hA Q hQ
  have hg1 : (A[1]?).bind (·.dst) = some 40 := by rw [hA]; rfl
  have hg8 : (A[8]?).bind (·.dst) = some 47 := by rw [hA]; rfl
  simp [Flow.enc, hg1, hg8]
  refine RunQ.callG rfl rfl (by simp [hg1, hg8, oxmS, k6]) rfl (by rfl) (by simp (maxDischargeDepth := 120) [hg1, hg8, oxmS, k6]) (rsame_oxm a.mat b.mat ha.mat) (by simp [hg1, hg8, oxmS, k6]) ?_
  refine RunQ.eval ?_
  simp [hg1, hg8, oxmS, k6]
  refine RunQ.callG rfl rfl (by simp [hg8, instS]) rfl (by rfl) (by simp (maxDischargeDepth := 120) [hg8, instS]) (rsame_inst a.insts b.insts (by have := ha.insts.len; omega) ha.insts.acts) (by simp [hg8, instS]) ?_
  refine RunQ.eval ?_
  simp [hg8, instS]
  refine hQ _ _ ?_
  clear hQ hA
  repeat (first | refine WK.seq ?_ | refine WK.block ?_ | refine WK.inBlock ?_ | refine WK.skip ?_ | refine WK.label ?_ | refine WK.scope ?_ | refine WK.inScope ?_ | refine WK.exit rfl ?_)
  refine WK.ret Tryz.func34 (by simp (maxDischargeDepth := 120) [Tryz.results34, Flow.same, k1, k2, k3, k4, k5, k6]) (by simp [Flow.same, k1, k2, k3, k4, k5, k6])
@[simp] theorem eqK_place (p q : Int) (c d : Cube) : eqK (repl 97 false) (.int .i64 p :: encC c) (.int .i64 q :: encC d) = some (p == q && cubeEq c d) := by
  rw [show repl 97 false = false :: repl 96 false from rfl]
  simp only [eqK, eqK_cube, if_true]
def placeOf (f : Flow) : List AV := .int .i64 f.prio :: encC (Flow.cube f)
@[simp] theorem placeOf_cl (f : Flow) : ClL (placeOf f) = true := by simp [placeOf]
theorem drop97 (x : AV) (c : Cube) : List.drop 97 (x :: encC c) = [] := by rw [show (97 : Nat) = 96 + 1 from rfl, List.drop_succ_cons]; simp
theorem take97 (x : AV) (c : Cube) : List.take 97 (x :: encC c) = x :: encC c := by rw [show (97 : Nat) = 96 + 1 from rfl, List.take_succ_cons]; simp
theorem place_c (f : Flow) (h : FOk f) : FnP Tryz.prog 43 [.agg f.enc] (.agg (placeOf f)) := by
  refine FnP.intro Tryz.func43 rfl rfl fun G w => ?_
  repeat (first | refine WK.seq ?_ | refine WK.block ?_ | refine WK.inBlock ?_ | refine WK.skip ?_ | refine WK.label ?_ | refine WK.scope ?_ | refine WK.inScope ?_ | refine WK.exit rfl ?_)
  first | refine WK.reg 100 Tryz.ntmps43 (by kernel_rfl) ?_ | refine WK.regD 100 clsOf (by kernel_rfl) Tryz.ntmps43 (by kernel_rfl) (by kernel_rfl) ?_
  intro A hA Q hQ
  simp
  refine hQ _ _ ?_
  clear hQ hA
  repeat (first | refine WK.seq ?_ | refine WK.block ?_ | refine WK.inBlock ?_ | refine WK.skip ?_ | refine WK.label ?_ | refine WK.scope ?_ | refine WK.inScope ?_ | refine WK.exit rfl ?_)
  first | refine WK.reg 200 Tryz.ntmps43 (by kernel_rfl) ?_ | refine WK.regD 200 clsOf (by kernel_rfl) Tryz.ntmps43 (by kernel_rfl) (by kernel_rfl) ?_
  intro A hA Q hQ
  simp [Flow.enc]
  refine RunQ.call rfl rfl rfl rfl (by rfl) (by simp (maxDischargeDepth := 120) [Flow.enc, drop97, take97]) (fcube_c f h.mat) (by simp [Flow.enc, drop97, take97]) ?_
  refine RunQ.eval ?_
  simp [Flow.enc, drop97, take97]
  refine hQ _ _ ?_
  clear hQ hA
  repeat (first | refine WK.seq ?_ | refine WK.block ?_ | refine WK.inBlock ?_ | refine WK.skip ?_ | refine WK.label ?_ | refine WK.scope ?_ | refine WK.inScope ?_ | refine WK.exit rfl ?_)
  refine WK.ret Tryz.func43 (by simp (maxDischargeDepth := 120) [Tryz.results43, placeOf, drop97, take97]) (by simp [placeOf, drop97, take97])
def Flow.alike (a b : Flow) : Bool := a.prio == b.prio && cubeEq (Flow.cube a) (Flow.cube b)
theorem alike_c (a b : Flow) (ha : FOk a) (hb : FOk b) : FnP Tryz.prog 17 [.agg a.enc, .agg b.enc] (.bool (Flow.alike a b)) := by
  refine FnP.intro Tryz.func17 rfl rfl fun G w => ?_
  repeat (first | refine WK.seq ?_ | refine WK.block ?_ | refine WK.inBlock ?_ | refine WK.skip ?_ | refine WK.label ?_ | refine WK.scope ?_ | refine WK.inScope ?_ | refine WK.exit rfl ?_)
  first | refine WK.reg 100 Tryz.ntmps17 (by kernel_rfl) ?_ | refine WK.regD 100 clsOf (by kernel_rfl) Tryz.ntmps17 (by kernel_rfl) (by kernel_rfl) ?_
  intro A hA Q hQ
  simp
  refine hQ _ _ ?_
  clear hQ hA
  repeat (first | refine WK.seq ?_ | refine WK.block ?_ | refine WK.inBlock ?_ | refine WK.skip ?_ | refine WK.label ?_ | refine WK.scope ?_ | refine WK.inScope ?_ | refine WK.exit rfl ?_)
  first | refine WK.reg 200 Tryz.ntmps17 (by kernel_rfl) ?_ | refine WK.regD 200 clsOf (by kernel_rfl) Tryz.ntmps17 (by kernel_rfl) (by kernel_rfl) ?_
  intro A hA Q hQ
  simp
  refine RunQ.call rfl rfl rfl rfl (by rfl) (by simp (maxDischargeDepth := 120)) (place_c a ha) (by simp) ?_
  refine RunQ.eval ?_
  simp
  refine RunQ.call rfl rfl rfl rfl (by rfl) (by simp (maxDischargeDepth := 120) [placeOf]) (place_c b hb) (by simp [placeOf]) ?_
  refine RunQ.eval ?_
  simp [placeOf]
  refine hQ _ _ ?_
  clear hQ hA
  repeat (first | refine WK.seq ?_ | refine WK.block ?_ | refine WK.inBlock ?_ | refine WK.skip ?_ | refine WK.label ?_ | refine WK.scope ?_ | refine WK.inScope ?_ | refine WK.exit rfl ?_)
  refine WK.ret Tryz.func17 (by simp (maxDischargeDepth := 120) [Tryz.results17, Flow.alike]) (by simp [Flow.alike])
theorem ralike_c (a b : Flow) (ha : FOk a) (hb : FOk b) : FnP Tryz.prog 37 [.agg a.enc, .agg b.enc] (.bool (Flow.alike a b)) := by
  cases k1 : a.prio == b.prio
  · refine FnP.intro Tryz.func37 rfl rfl fun G w => ?_
    repeat (first | refine WK.seq ?_ | refine WK.block ?_ | refine WK.inBlock ?_ | refine WK.skip ?_ | refine WK.label ?_ | refine WK.scope ?_ | refine WK.inScope ?_ | refine WK.exit rfl ?_)
    first | refine WK.reg 100 Tryz.ntmps37 (by kernel_rfl) ?_ | refine WK.regD 100 clsOf (by kernel_rfl) Tryz.ntmps37 (by kernel_rfl) (by kernel_rfl) ?_
    intro A hA Q hQ
    simp
    refine hQ _ _ ?_
    clear hQ hA
    repeat (first | refine WK.seq ?_ | refine WK.block ?_ | refine WK.inBlock ?_ | refine WK.skip ?_ | refine WK.label ?_ | refine WK.scope ?_ | refine WK.inScope ?_ | refine WK.exit rfl ?_)
    first | refine WK.reg 200 Tryz.ntmps37 (by kernel_rfl) ?_ | refine WK.regD 200 clsOf (by kernel_rfl) Tryz.ntmps37 (by kernel_rfl) (by kernel_rfl) ?_
    intro A hA Q hQ
    have hg5 : (A[5]?).bind (·.dst) = some 10 := by rw [hA]; rfl
    simp [Flow.enc, k1, hg5]
    refine hQ _ _ ?_
    clear hQ hA
    repeat (first | refine WK.seq ?_ | refine WK.block ?_ | refine WK.inBlock ?_ | refine WK.skip ?_ | refine WK.label ?_ | refine WK.scope ?_ | refine WK.inScope ?_ | refine WK.exit rfl ?_)
    refine WK.ret Tryz.func37 (by simp (maxDischargeDepth := 120) [Tryz.results37, Flow.alike, k1]) (by simp [Flow.alike, k1])
  · refine FnP.intro Tryz.func37 rfl rfl fun G w => ?_
    repeat (first | refine WK.seq ?_ | refine WK.block ?_ | refine WK.inBlock ?_ | refine WK.skip ?_ | refine WK.label ?_ | refine WK.scope ?_ | refine WK.inScope ?_ | refine WK.exit rfl ?_)
    first | refine WK.reg 100 Tryz.ntmps37 (by kernel_rfl) ?_ | refine WK.regD 100 clsOf (by kernel_rfl) Tryz.ntmps37 (by kernel_rfl) (by kernel_rfl) ?_
    intro A hA Q hQ
    simp
    refine hQ _ _ ?_
    clear hQ hA
    repeat (first | refine WK.seq ?_ | refine WK.block ?_ | refine WK.inBlock ?_ | refine WK.skip ?_ | refine WK.label ?_ | refine WK.scope ?_ | refine WK.inScope ?_ | refine WK.exit rfl ?_)
    first | refine WK.reg 200 Tryz.ntmps37 (by kernel_rfl) ?_ | refine WK.regD 200 clsOf (by kernel_rfl) Tryz.ntmps37 (by kernel_rfl) (by kernel_rfl) ?_
    intro A hA Q hQ
    have hg5 : (A[5]?).bind (·.dst) = some 10 := by rw [hA]; rfl
    simp [Flow.enc, k1, hg5]
    refine RunQ.callG rfl rfl (by simp [hg5, Flow.enc]) rfl (by rfl) (by simp (maxDischargeDepth := 120) [hg5, Flow.enc]) (rfcube_c a ha.mat) (by simp [hg5, Flow.enc]) ?_
    refine RunQ.eval ?_
    simp [hg5, Flow.enc]
    refine RunQ.callG rfl rfl (by simp [hg5, Flow.enc]) rfl (by rfl) (by simp (maxDischargeDepth := 120) [hg5, Flow.enc]) (rfcube_c b hb.mat) (by simp [hg5, Flow.enc]) ?_
    refine RunQ.eval ?_
    simp [hg5, Flow.enc]
    refine hQ _ _ ?_
    clear hQ hA
    repeat (first | refine WK.seq ?_ | refine WK.block ?_ | refine WK.inBlock ?_ | refine WK.skip ?_ | refine WK.label ?_ | refine WK.scope ?_ | refine WK.inScope ?_ | refine WK.exit rfl ?_)
    refine WK.ret Tryz.func37 (by simp (maxDischargeDepth := 120) [Tryz.results37, Flow.alike, k1]) (by simp [Flow.alike, k1])
def Flow.overlap (a b : Flow) : Bool := a.prio == b.prio && cubeMeetOk (Flow.cube a) (Flow.cube b)
theorem overlap_c (a b : Flow) (ha : FOk a) (hb : FOk b) : FnP Tryz.prog 36 [.agg a.enc, .agg b.enc] (.bool (Flow.overlap a b)) := by
  refine FnP.intro Tryz.func36 rfl rfl fun G w => ?_
  repeat (first | refine WK.seq ?_ | refine WK.block ?_ | refine WK.inBlock ?_ | refine WK.skip ?_ | refine WK.label ?_ | refine WK.scope ?_ | refine WK.inScope ?_ | refine WK.exit rfl ?_)
  first | refine WK.reg 100 Tryz.ntmps36 (by kernel_rfl) ?_ | refine WK.regD 100 clsOf (by kernel_rfl) Tryz.ntmps36 (by kernel_rfl) (by kernel_rfl) ?_
  intro A hA Q hQ
  simp
  refine hQ _ _ ?_
  clear hQ hA
  repeat (first | refine WK.seq ?_ | refine WK.block ?_ | refine WK.inBlock ?_ | refine WK.skip ?_ | refine WK.label ?_ | refine WK.scope ?_ | refine WK.inScope ?_ | refine WK.exit rfl ?_)
  first | refine WK.reg 200 Tryz.ntmps36 (by kernel_rfl) ?_ | refine WK.regD 200 clsOf (by kernel_rfl) Tryz.ntmps36 (by kernel_rfl) (by kernel_rfl) ?_
  intro A hA Q hQ
  simp [Flow.enc]
  refine hQ _ _ ?_
  clear hQ hA
  repeat (first | refine WK.seq ?_ | refine WK.block ?_ | refine WK.inBlock ?_ | refine WK.skip ?_ | refine WK.label ?_ | refine WK.scope ?_ | refine WK.inScope ?_ | refine WK.exit rfl ?_)
  refine WK.cond2 rfl (fun h => ?_) (fun h => ?_)
  · have k1 : (a.prio == b.prio) = false := by simpa using h
    repeat (first | refine WK.seq ?_ | refine WK.block ?_ | refine WK.inBlock ?_ | refine WK.skip ?_ | refine WK.label ?_ | refine WK.scope ?_ | refine WK.inScope ?_ | refine WK.exit rfl ?_)
    first | refine WK.reg 300 Tryz.ntmps36 (by kernel_rfl) ?_ | refine WK.regD 300 clsOf (by kernel_rfl) Tryz.ntmps36 (by kernel_rfl) (by kernel_rfl) ?_
    intro A hA Q hQ
    simp
    refine hQ _ _ ?_
    clear hQ hA
    repeat (first | refine WK.seq ?_ | refine WK.block ?_ | refine WK.inBlock ?_ | refine WK.skip ?_ | refine WK.label ?_ | refine WK.scope ?_ | refine WK.inScope ?_ | refine WK.exit rfl ?_)
    refine WK.ret Tryz.func36 (by simp (maxDischargeDepth := 120) [Tryz.results36, Flow.overlap, k1]) (by simp [Flow.overlap, k1])
  · have k1 : (a.prio == b.prio) = true := by simpa using h
    repeat (first | refine WK.seq ?_ | refine WK.block ?_ | refine WK.inBlock ?_ | refine WK.skip ?_ | refine WK.label ?_ | refine WK.scope ?_ | refine WK.inScope ?_ | refine WK.exit rfl ?_)
    first | refine WK.reg 400 Tryz.ntmps36 (by kernel_rfl) ?_ | refine WK.regD 400 (clsM [(2, 0), (3, 1), (5, 208)]) (by kernel_rfl) Tryz.ntmps36 (by kernel_rfl) (by kernel_rfl) ?_
    intro A hA Q hQ
    simp [Flow.enc]
    refine RunQ.call rfl rfl rfl rfl (by rfl) (by simp (maxDischargeDepth := 120) [Flow.enc]) (fcube_c a ha.mat) (by simp [Flow.enc]) ?_
    refine RunQ.eval ?_
    simp [Flow.enc]
    refine RunQ.call rfl rfl rfl rfl (by rfl) (by simp (maxDischargeDepth := 120) [Flow.enc]) (fcube_c b hb.mat) (by simp [Flow.enc]) ?_
    refine RunQ.eval ?_
    simp [Flow.enc]
    refine RunQ.call rfl rfl rfl rfl (by rfl) (by simp (maxDischargeDepth := 120)) (cmeet_c (Flow.cube a) (Flow.cube b)) (by simp) ?_
    refine RunQ.eval ?_
    simp
    refine hQ _ _ ?_
    clear hQ hA
    repeat (first | refine WK.seq ?_ | refine WK.block ?_ | refine WK.inBlock ?_ | refine WK.skip ?_ | refine WK.label ?_ | refine WK.scope ?_ | refine WK.inScope ?_ | refine WK.exit rfl ?_)
    first | refine WK.reg 500 Tryz.ntmps36 (by kernel_rfl) ?_ | refine WK.regD 500 clsOf (by kernel_rfl) Tryz.ntmps36 (by kernel_rfl) (by kernel_rfl) ?_
    intro A hA Q hQ
    simp
    refine hQ _ _ ?_
    clear hQ hA
    repeat (first | refine WK.seq ?_ | refine WK.block ?_ | refine WK.inBlock ?_ | refine WK.skip ?_ | refine WK.label ?_ | refine WK.scope ?_ | refine WK.inScope ?_ | refine WK.exit rfl ?_)
    refine WK.ret Tryz.func36 (by simp (maxDischargeDepth := 120) [Tryz.results36, Flow.overlap, k1]) (by simp [Flow.overlap, k1])
theorem roverlap_c (a b : Flow) (ha : FOk a) (hb : FOk b) : FnP Tryz.prog 38 [.agg a.enc, .agg b.enc] (.bool (Flow.overlap a b)) := by
  cases k1 : cubeMeetOk (Flow.cube a) (Flow.cube b)
  all_goals
    refine FnP.intro Tryz.func38 rfl rfl fun G w => ?_
    repeat (first | refine WK.seq ?_ | refine WK.block ?_ | refine WK.inBlock ?_ | refine WK.skip ?_ | refine WK.label ?_ | refine WK.scope ?_ | refine WK.inScope ?_ | refine WK.exit rfl ?_)
    first | refine WK.reg 100 Tryz.ntmps38 (by kernel_rfl) ?_ | refine WK.regD 100 clsOf (by kernel_rfl) Tryz.ntmps38 (by kernel_rfl) (by kernel_rfl) ?_
    intro A hA Q hQ
    simp
    refine hQ _ _ ?_
    clear hQ hA
    repeat (first | refine WK.seq ?_ | refine WK.block ?_ | refine WK.inBlock ?_ | refine WK.skip ?_ | refine WK.label ?_ | refine WK.scope ?_ | refine WK.inScope ?_ | refine WK.exit rfl ?_)
    first | refine WK.reg 200 Tryz.ntmps38 (by kernel_rfl) ?_ | refine WK.regD 200 (clsM [(2, 0), (3, 1), (5, 108)]) (by kernel_rfl) Tryz.ntmps38 (by kernel_rfl) (by kernel_rfl) ?_
    intro A hA Q hQ
    simp
    refine RunQ.call rfl rfl rfl rfl (by rfl) (by simp (maxDischargeDepth := 120)) (rfcube_c a ha.mat) (by simp) ?_
    refine RunQ.eval ?_
    simp
    refine RunQ.call rfl rfl rfl rfl (by rfl) (by simp (maxDischargeDepth := 120)) (rfcube_c b hb.mat) (by simp) ?_
    refine RunQ.eval ?_
    simp
    refine RunQ.call rfl rfl rfl rfl (by rfl) (by simp (maxDischargeDepth := 120)) (rcmeet_c (Flow.cube a) (Flow.cube b)) (by simp) ?_
    refine RunQ.eval ?_
    simp
    refine hQ _ _ ?_
    clear hQ hA
    repeat (first | refine WK.seq ?_ | refine WK.block ?_ | refine WK.inBlock ?_ | refine WK.skip ?_ | refine WK.label ?_ | refine WK.scope ?_ | refine WK.inScope ?_ | refine WK.exit rfl ?_)
    first | refine WK.reg 300 Tryz.ntmps38 (by kernel_rfl) ?_ | refine WK.regD 300 clsOf (by kernel_rfl) Tryz.ntmps38 (by kernel_rfl) (by kernel_rfl) ?_
    intro A hA Q hQ
    have hg1 : (A[1]?).bind (·.dst) = some 16 := by rw [hA]; rfl
    simp [k1, Flow.enc, hg1]
    refine hQ _ _ ?_
    clear hQ hA
    repeat (first | refine WK.seq ?_ | refine WK.block ?_ | refine WK.inBlock ?_ | refine WK.skip ?_ | refine WK.label ?_ | refine WK.scope ?_ | refine WK.inScope ?_ | refine WK.exit rfl ?_)
    refine WK.ret Tryz.func38 (by simp (maxDischargeDepth := 120) [Tryz.results38, Flow.overlap, k1]) (by simp [Flow.overlap, k1])
theorem covers_c (c : Cube) (f : Flow) (h : FOk f) : FnP Tryz.prog 100 [.agg (encC c), .agg f.enc] (.bool (cubeWithin (Flow.cube f) c)) := by
  refine FnP.intro Tryz.func100 rfl rfl fun G w => ?_
  repeat (first | refine WK.seq ?_ | refine WK.block ?_ | refine WK.inBlock ?_ | refine WK.skip ?_ | refine WK.label ?_ | refine WK.scope ?_ | refine WK.inScope ?_ | refine WK.exit rfl ?_)
  first | refine WK.reg 100 Tryz.ntmps100 (by kernel_rfl) ?_ | refine WK.regD 100 clsOf (by kernel_rfl) Tryz.ntmps100 (by kernel_rfl) (by kernel_rfl) ?_
  intro A hA Q hQ
  simp
  refine hQ _ _ ?_
  clear hQ hA
  repeat (first | refine WK.seq ?_ | refine WK.block ?_ | refine WK.inBlock ?_ | refine WK.skip ?_ | refine WK.label ?_ | refine WK.scope ?_ | refine WK.inScope ?_ | refine WK.exit rfl ?_)
  first | refine WK.reg 200 Tryz.ntmps100 (by kernel_rfl) ?_ | refine WK.regD 200 clsOf (by kernel_rfl) Tryz.ntmps100 (by kernel_rfl) (by kernel_rfl) ?_
  intro A hA Q hQ
  simp
  refine RunQ.call rfl rfl rfl rfl (by rfl) (by simp (maxDischargeDepth := 120)) (fcube_c f h.mat) (by simp) ?_
  refine RunQ.eval ?_
  simp
  refine RunQ.call rfl rfl rfl rfl (by rfl) (by simp (maxDischargeDepth := 120)) (cwithin_c (Flow.cube f) c) (by simp) ?_
  refine RunQ.eval ?_
  simp
  refine hQ _ _ ?_
  clear hQ hA
  repeat (first | refine WK.seq ?_ | refine WK.block ?_ | refine WK.inBlock ?_ | refine WK.skip ?_ | refine WK.label ?_ | refine WK.scope ?_ | refine WK.inScope ?_ | refine WK.exit rfl ?_)
  refine WK.ret Tryz.func100 (by simp (maxDischargeDepth := 120) [Tryz.results100]) (by simp)
theorem rcovers_c (c : Cube) (f : Flow) (h : FOk f) : FnP Tryz.prog 50 [.agg (encC c), .agg f.enc] (.bool (cubeWithin (Flow.cube f) c)) := by
  refine FnP.intro Tryz.func50 rfl rfl fun G w => ?_
  repeat (first | refine WK.seq ?_ | refine WK.block ?_ | refine WK.inBlock ?_ | refine WK.skip ?_ | refine WK.label ?_ | refine WK.scope ?_ | refine WK.inScope ?_ | refine WK.exit rfl ?_)
  first | refine WK.reg 100 Tryz.ntmps50 (by kernel_rfl) ?_ | refine WK.regD 100 clsOf (by kernel_rfl) Tryz.ntmps50 (by kernel_rfl) (by kernel_rfl) ?_
  intro A hA Q hQ
  simp
  refine hQ _ _ ?_
  clear hQ hA
  repeat (first | refine WK.seq ?_ | refine WK.block ?_ | refine WK.inBlock ?_ | refine WK.skip ?_ | refine WK.label ?_ | refine WK.scope ?_ | refine WK.inScope ?_ | refine WK.exit rfl ?_)
  first | refine WK.reg 200 Tryz.ntmps50 (by kernel_rfl) ?_ | refine WK.regD 200 clsOf (by kernel_rfl) Tryz.ntmps50 (by kernel_rfl) (by kernel_rfl) ?_
  intro A hA Q hQ
  simp
  refine RunQ.call rfl rfl rfl rfl (by rfl) (by simp (maxDischargeDepth := 120)) (rfcube_c f h.mat) (by simp) ?_
  refine RunQ.eval ?_
  simp
  refine RunQ.call rfl rfl rfl rfl (by rfl) (by simp (maxDischargeDepth := 120)) (rcwithin_c (Flow.cube f) c) (by simp) ?_
  refine RunQ.eval ?_
  simp
  refine hQ _ _ ?_
  clear hQ hA
  repeat (first | refine WK.seq ?_ | refine WK.block ?_ | refine WK.inBlock ?_ | refine WK.skip ?_ | refine WK.label ?_ | refine WK.scope ?_ | refine WK.inScope ?_ | refine WK.exit rfl ?_)
  refine WK.ret Tryz.func50 (by simp (maxDischargeDepth := 120) [Tryz.results50]) (by simp)
end Go.Proofs.YtbncoeoamjcjjaaGreat
