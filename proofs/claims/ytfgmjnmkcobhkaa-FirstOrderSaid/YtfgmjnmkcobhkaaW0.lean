/- The small functions of wide and tern, and those of the references that are like them. -/
import Derived.Test.YtfgmjnmkcobhkaaTT
set_option linter.all false
set_option linter.unnecessarySimpa false
set_option linter.unusedVariables false
set_option linter.unusedSimpArgs false
namespace Go.Proofs.Ytfgmjnmkcobhkaa
open Go Go.AI Go.Proofs

theorem and_c (a b : Wide) : FnP Try.prog 128 [.agg a.enc, .agg b.enc] (.agg (a.and b).enc) := by
  refine FnP.intro Try.func128 rfl rfl fun G w => ?_
  repeat (first | refine WK.seq ?_ | refine WK.block ?_ | refine WK.inBlock ?_ | refine WK.skip ?_ | refine WK.label ?_ | refine WK.scope ?_ | refine WK.inScope ?_ | refine WK.exit rfl ?_)
  first | refine WK.reg 100 Try.ntmps128 (by kernel_rfl) ?_ | refine WK.regD 100 clsOf (by kernel_rfl) Try.ntmps128 (by kernel_rfl) (by kernel_rfl) ?_
  intro A hA Q hQ
  simp
  refine hQ _ _ ?_
  clear hQ hA
  repeat (first | refine WK.seq ?_ | refine WK.block ?_ | refine WK.inBlock ?_ | refine WK.skip ?_ | refine WK.label ?_ | refine WK.scope ?_ | refine WK.inScope ?_ | refine WK.exit rfl ?_)
  first | refine WK.reg 200 Try.ntmps128 (by kernel_rfl) ?_ | refine WK.regD 200 clsOf (by kernel_rfl) Try.ntmps128 (by kernel_rfl) (by kernel_rfl) ?_
  intro A hA Q hQ
  simp [Wide.enc]
  refine hQ _ _ ?_
  clear hQ hA
  repeat (first | refine WK.seq ?_ | refine WK.block ?_ | refine WK.inBlock ?_ | refine WK.skip ?_ | refine WK.label ?_ | refine WK.scope ?_ | refine WK.inScope ?_ | refine WK.exit rfl ?_)
  refine WK.ret Try.func128 (by simp (maxDischargeDepth := 120) [Try.results128, Wide.enc, Wide.and]) (by simp [Wide.enc, Wide.and])
theorem or_c (a b : Wide) : FnP Try.prog 136 [.agg a.enc, .agg b.enc] (.agg (a.or b).enc) := by
  refine FnP.intro Try.func136 rfl rfl fun G w => ?_
  repeat (first | refine WK.seq ?_ | refine WK.block ?_ | refine WK.inBlock ?_ | refine WK.skip ?_ | refine WK.label ?_ | refine WK.scope ?_ | refine WK.inScope ?_ | refine WK.exit rfl ?_)
  first | refine WK.reg 100 Try.ntmps136 (by kernel_rfl) ?_ | refine WK.regD 100 clsOf (by kernel_rfl) Try.ntmps136 (by kernel_rfl) (by kernel_rfl) ?_
  intro A hA Q hQ
  simp
  refine hQ _ _ ?_
  clear hQ hA
  repeat (first | refine WK.seq ?_ | refine WK.block ?_ | refine WK.inBlock ?_ | refine WK.skip ?_ | refine WK.label ?_ | refine WK.scope ?_ | refine WK.inScope ?_ | refine WK.exit rfl ?_)
  first | refine WK.reg 200 Try.ntmps136 (by kernel_rfl) ?_ | refine WK.regD 200 clsOf (by kernel_rfl) Try.ntmps136 (by kernel_rfl) (by kernel_rfl) ?_
  intro A hA Q hQ
  simp [Wide.enc]
  refine hQ _ _ ?_
  clear hQ hA
  repeat (first | refine WK.seq ?_ | refine WK.block ?_ | refine WK.inBlock ?_ | refine WK.skip ?_ | refine WK.label ?_ | refine WK.scope ?_ | refine WK.inScope ?_ | refine WK.exit rfl ?_)
  refine WK.ret Try.func136 (by simp (maxDischargeDepth := 120) [Try.results136, Wide.enc, Wide.or]) (by simp [Wide.enc, Wide.or])
theorem xor_c (a b : Wide) : FnP Try.prog 142 [.agg a.enc, .agg b.enc] (.agg (a.xor b).enc) := by
  refine FnP.intro Try.func142 rfl rfl fun G w => ?_
  repeat (first | refine WK.seq ?_ | refine WK.block ?_ | refine WK.inBlock ?_ | refine WK.skip ?_ | refine WK.label ?_ | refine WK.scope ?_ | refine WK.inScope ?_ | refine WK.exit rfl ?_)
  first | refine WK.reg 100 Try.ntmps142 (by kernel_rfl) ?_ | refine WK.regD 100 clsOf (by kernel_rfl) Try.ntmps142 (by kernel_rfl) (by kernel_rfl) ?_
  intro A hA Q hQ
  simp
  refine hQ _ _ ?_
  clear hQ hA
  repeat (first | refine WK.seq ?_ | refine WK.block ?_ | refine WK.inBlock ?_ | refine WK.skip ?_ | refine WK.label ?_ | refine WK.scope ?_ | refine WK.inScope ?_ | refine WK.exit rfl ?_)
  first | refine WK.reg 200 Try.ntmps142 (by kernel_rfl) ?_ | refine WK.regD 200 clsOf (by kernel_rfl) Try.ntmps142 (by kernel_rfl) (by kernel_rfl) ?_
  intro A hA Q hQ
  simp [Wide.enc]
  refine hQ _ _ ?_
  clear hQ hA
  repeat (first | refine WK.seq ?_ | refine WK.block ?_ | refine WK.inBlock ?_ | refine WK.skip ?_ | refine WK.label ?_ | refine WK.scope ?_ | refine WK.inScope ?_ | refine WK.exit rfl ?_)
  refine WK.ret Try.func142 (by simp (maxDischargeDepth := 120) [Try.results142, Wide.enc, Wide.xor]) (by simp [Wide.enc, Wide.xor])
theorem less_c (a b : Wide) : FnP Try.prog 140 [.agg a.enc, .agg b.enc] (.agg (a.less b).enc) := by
  refine FnP.intro Try.func140 rfl rfl fun G w => ?_
  repeat (first | refine WK.seq ?_ | refine WK.block ?_ | refine WK.inBlock ?_ | refine WK.skip ?_ | refine WK.label ?_ | refine WK.scope ?_ | refine WK.inScope ?_ | refine WK.exit rfl ?_)
  first | refine WK.reg 100 Try.ntmps140 (by kernel_rfl) ?_ | refine WK.regD 100 clsOf (by kernel_rfl) Try.ntmps140 (by kernel_rfl) (by kernel_rfl) ?_
  intro A hA Q hQ
  simp
  refine hQ _ _ ?_
  clear hQ hA
  repeat (first | refine WK.seq ?_ | refine WK.block ?_ | refine WK.inBlock ?_ | refine WK.skip ?_ | refine WK.label ?_ | refine WK.scope ?_ | refine WK.inScope ?_ | refine WK.exit rfl ?_)
  first | refine WK.reg 200 Try.ntmps140 (by kernel_rfl) ?_ | refine WK.regD 200 clsOf (by kernel_rfl) Try.ntmps140 (by kernel_rfl) (by kernel_rfl) ?_
  intro A hA Q hQ
  simp [Wide.enc]
  refine hQ _ _ ?_
  clear hQ hA
  repeat (first | refine WK.seq ?_ | refine WK.block ?_ | refine WK.inBlock ?_ | refine WK.skip ?_ | refine WK.label ?_ | refine WK.scope ?_ | refine WK.inScope ?_ | refine WK.exit rfl ?_)
  refine WK.ret Try.func140 (by simp (maxDischargeDepth := 120) [Try.results140, Wide.enc, Wide.less]) (by simp [Wide.enc, Wide.less])
theorem zero_c (a : Wide) : FnP Try.prog 113 [.agg a.enc] (.bool a.zero) := by
  refine FnP.intro Try.func113 rfl rfl fun G w => ?_
  repeat (first | refine WK.seq ?_ | refine WK.block ?_ | refine WK.inBlock ?_ | refine WK.skip ?_ | refine WK.label ?_ | refine WK.scope ?_ | refine WK.inScope ?_ | refine WK.exit rfl ?_)
  first | refine WK.reg 100 Try.ntmps113 (by kernel_rfl) ?_ | refine WK.regD 100 clsOf (by kernel_rfl) Try.ntmps113 (by kernel_rfl) (by kernel_rfl) ?_
  intro A hA Q hQ
  simp
  refine hQ _ _ ?_
  clear hQ hA
  repeat (first | refine WK.seq ?_ | refine WK.block ?_ | refine WK.inBlock ?_ | refine WK.skip ?_ | refine WK.label ?_ | refine WK.scope ?_ | refine WK.inScope ?_ | refine WK.exit rfl ?_)
  first | refine WK.reg 200 Try.ntmps113 (by kernel_rfl) ?_ | refine WK.regD 200 clsOf (by kernel_rfl) Try.ntmps113 (by kernel_rfl) (by kernel_rfl) ?_
  intro A hA Q hQ
  simp [Wide.enc]
  refine hQ _ _ ?_
  clear hQ hA
  repeat (first | refine WK.seq ?_ | refine WK.block ?_ | refine WK.inBlock ?_ | refine WK.skip ?_ | refine WK.label ?_ | refine WK.scope ?_ | refine WK.inScope ?_ | refine WK.exit rfl ?_)
  refine WK.ret Try.func113 (by simp (maxDischargeDepth := 120) [Try.results113, Wide.zero]) (by simp [Wide.zero])
theorem rand_c (a b : Wide) : FnP Try.prog 131 [.agg a.enc, .agg b.enc] (.agg (a.and b).enc) := by
  refine FnP.intro Try.func131 rfl rfl fun G w => ?_
  repeat (first | refine WK.seq ?_ | refine WK.block ?_ | refine WK.inBlock ?_ | refine WK.skip ?_ | refine WK.label ?_ | refine WK.scope ?_ | refine WK.inScope ?_ | refine WK.exit rfl ?_)
  first | refine WK.reg 100 Try.ntmps131 (by kernel_rfl) ?_ | refine WK.regD 100 clsOf (by kernel_rfl) Try.ntmps131 (by kernel_rfl) (by kernel_rfl) ?_
  intro A hA Q hQ
  simp
  refine hQ _ _ ?_
  clear hQ hA
  repeat (first | refine WK.seq ?_ | refine WK.block ?_ | refine WK.inBlock ?_ | refine WK.skip ?_ | refine WK.label ?_ | refine WK.scope ?_ | refine WK.inScope ?_ | refine WK.exit rfl ?_)
  first | refine WK.reg 200 Try.ntmps131 (by kernel_rfl) ?_ | refine WK.regD 200 clsOf (by kernel_rfl) Try.ntmps131 (by kernel_rfl) (by kernel_rfl) ?_
  intro A hA Q hQ
  simp [Wide.enc]
  refine hQ _ _ ?_
  clear hQ hA
  repeat (first | refine WK.seq ?_ | refine WK.block ?_ | refine WK.inBlock ?_ | refine WK.skip ?_ | refine WK.label ?_ | refine WK.scope ?_ | refine WK.inScope ?_ | refine WK.exit rfl ?_)
  refine WK.ret Try.func131 (by simp (maxDischargeDepth := 120) [Try.results131, Wide.enc, Wide.and]) (by simp [Wide.enc, Wide.and])
theorem ror_c (a b : Wide) : FnP Try.prog 139 [.agg a.enc, .agg b.enc] (.agg (a.or b).enc) := by
  refine FnP.intro Try.func139 rfl rfl fun G w => ?_
  repeat (first | refine WK.seq ?_ | refine WK.block ?_ | refine WK.inBlock ?_ | refine WK.skip ?_ | refine WK.label ?_ | refine WK.scope ?_ | refine WK.inScope ?_ | refine WK.exit rfl ?_)
  first | refine WK.reg 100 Try.ntmps139 (by kernel_rfl) ?_ | refine WK.regD 100 clsOf (by kernel_rfl) Try.ntmps139 (by kernel_rfl) (by kernel_rfl) ?_
  intro A hA Q hQ
  simp
  refine hQ _ _ ?_
  clear hQ hA
  repeat (first | refine WK.seq ?_ | refine WK.block ?_ | refine WK.inBlock ?_ | refine WK.skip ?_ | refine WK.label ?_ | refine WK.scope ?_ | refine WK.inScope ?_ | refine WK.exit rfl ?_)
  first | refine WK.reg 200 Try.ntmps139 (by kernel_rfl) ?_ | refine WK.regD 200 clsOf (by kernel_rfl) Try.ntmps139 (by kernel_rfl) (by kernel_rfl) ?_
  intro A hA Q hQ
  simp [Wide.enc]
  refine hQ _ _ ?_
  clear hQ hA
  repeat (first | refine WK.seq ?_ | refine WK.block ?_ | refine WK.inBlock ?_ | refine WK.skip ?_ | refine WK.label ?_ | refine WK.scope ?_ | refine WK.inScope ?_ | refine WK.exit rfl ?_)
  refine WK.ret Try.func139 (by simp (maxDischargeDepth := 120) [Try.results139, Wide.enc, Wide.or]) (by simp [Wide.enc, Wide.or])
theorem rxor_c (a b : Wide) : FnP Try.prog 138 [.agg a.enc, .agg b.enc] (.agg (a.xor b).enc) := by
  refine FnP.intro Try.func138 rfl rfl fun G w => ?_
  repeat (first | refine WK.seq ?_ | refine WK.block ?_ | refine WK.inBlock ?_ | refine WK.skip ?_ | refine WK.label ?_ | refine WK.scope ?_ | refine WK.inScope ?_ | refine WK.exit rfl ?_)
  first | refine WK.reg 100 Try.ntmps138 (by kernel_rfl) ?_ | refine WK.regD 100 clsOf (by kernel_rfl) Try.ntmps138 (by kernel_rfl) (by kernel_rfl) ?_
  intro A hA Q hQ
  simp
  refine hQ _ _ ?_
  clear hQ hA
  repeat (first | refine WK.seq ?_ | refine WK.block ?_ | refine WK.inBlock ?_ | refine WK.skip ?_ | refine WK.label ?_ | refine WK.scope ?_ | refine WK.inScope ?_ | refine WK.exit rfl ?_)
  first | refine WK.reg 200 Try.ntmps138 (by kernel_rfl) ?_ | refine WK.regD 200 clsOf (by kernel_rfl) Try.ntmps138 (by kernel_rfl) (by kernel_rfl) ?_
  intro A hA Q hQ
  simp [Wide.enc]
  refine hQ _ _ ?_
  clear hQ hA
  repeat (first | refine WK.seq ?_ | refine WK.block ?_ | refine WK.inBlock ?_ | refine WK.skip ?_ | refine WK.label ?_ | refine WK.scope ?_ | refine WK.inScope ?_ | refine WK.exit rfl ?_)
  refine WK.ret Try.func138 (by simp (maxDischargeDepth := 120) [Try.results138, Wide.enc, Wide.xor]) (by simp [Wide.enc, Wide.xor])
theorem rless_c (a b : Wide) : FnP Try.prog 141 [.agg a.enc, .agg b.enc] (.agg (a.less b).enc) := by
  refine FnP.intro Try.func141 rfl rfl fun G w => ?_
  repeat (first | refine WK.seq ?_ | refine WK.block ?_ | refine WK.inBlock ?_ | refine WK.skip ?_ | refine WK.label ?_ | refine WK.scope ?_ | refine WK.inScope ?_ | refine WK.exit rfl ?_)
  first | refine WK.reg 100 Try.ntmps141 (by kernel_rfl) ?_ | refine WK.regD 100 clsOf (by kernel_rfl) Try.ntmps141 (by kernel_rfl) (by kernel_rfl) ?_
  intro A hA Q hQ
  simp
  refine hQ _ _ ?_
  clear hQ hA
  repeat (first | refine WK.seq ?_ | refine WK.block ?_ | refine WK.inBlock ?_ | refine WK.skip ?_ | refine WK.label ?_ | refine WK.scope ?_ | refine WK.inScope ?_ | refine WK.exit rfl ?_)
  first | refine WK.reg 200 Try.ntmps141 (by kernel_rfl) ?_ | refine WK.regD 200 clsOf (by kernel_rfl) Try.ntmps141 (by kernel_rfl) (by kernel_rfl) ?_
  intro A hA Q hQ
  simp [Wide.enc]
  refine hQ _ _ ?_
  clear hQ hA
  repeat (first | refine WK.seq ?_ | refine WK.block ?_ | refine WK.inBlock ?_ | refine WK.skip ?_ | refine WK.label ?_ | refine WK.scope ?_ | refine WK.inScope ?_ | refine WK.exit rfl ?_)
  refine WK.ret Try.func141 (by simp (maxDischargeDepth := 120) [Try.results141, Wide.enc, Wide.less]) (by simp [Wide.enc, Wide.less])
theorem rzero_c (a : Wide) : FnP Try.prog 137 [.agg a.enc] (.bool a.zero) := by
  rw [Wide.zero_eq]
  cases hz : (a.hi == 0#64)
  all_goals
    refine FnP.intro Try.func137 rfl rfl fun G w => ?_
    repeat (first | refine WK.seq ?_ | refine WK.block ?_ | refine WK.inBlock ?_ | refine WK.skip ?_ | refine WK.label ?_ | refine WK.scope ?_ | refine WK.inScope ?_ | refine WK.exit rfl ?_)
    first | refine WK.reg 100 Try.ntmps137 (by kernel_rfl) ?_ | refine WK.regD 100 clsOf (by kernel_rfl) Try.ntmps137 (by kernel_rfl) (by kernel_rfl) ?_
    intro A hA Q hQ
    simp
    refine hQ _ _ ?_
    clear hQ hA
    repeat (first | refine WK.seq ?_ | refine WK.block ?_ | refine WK.inBlock ?_ | refine WK.skip ?_ | refine WK.label ?_ | refine WK.scope ?_ | refine WK.inScope ?_ | refine WK.exit rfl ?_)
    first | refine WK.reg 200 Try.ntmps137 (by kernel_rfl) ?_ | refine WK.regD 200 clsOf (by kernel_rfl) Try.ntmps137 (by kernel_rfl) (by kernel_rfl) ?_
    intro A hA Q hQ
    have hg3 : (A[3]?).bind (·.dst) = some 6 := by rw [hA]; rfl
    simp [Wide.enc, hz, hg3]
    refine hQ _ _ ?_
    clear hQ hA
    repeat (first | refine WK.seq ?_ | refine WK.block ?_ | refine WK.inBlock ?_ | refine WK.skip ?_ | refine WK.label ?_ | refine WK.scope ?_ | refine WK.inScope ?_ | refine WK.exit rfl ?_)
    refine WK.ret Try.func137 (by simp (maxDischargeDepth := 120) [Try.results137]) (by simp)

theorem clean_c (t : Tern) : FnP Try.prog 91 [.agg t.enc] (.agg t.clean.enc) := by
  refine FnP.intro Try.func91 rfl rfl fun G w => ?_
  repeat (first | refine WK.seq ?_ | refine WK.block ?_ | refine WK.inBlock ?_ | refine WK.skip ?_ | refine WK.label ?_ | refine WK.scope ?_ | refine WK.inScope ?_ | refine WK.exit rfl ?_)
  first | refine WK.reg 100 Try.ntmps91 (by kernel_rfl) ?_ | refine WK.regD 100 clsOf (by kernel_rfl) Try.ntmps91 (by kernel_rfl) (by kernel_rfl) ?_
  intro A hA Q hQ
  simp
  refine hQ _ _ ?_
  clear hQ hA
  repeat (first | refine WK.seq ?_ | refine WK.block ?_ | refine WK.inBlock ?_ | refine WK.skip ?_ | refine WK.label ?_ | refine WK.scope ?_ | refine WK.inScope ?_ | refine WK.exit rfl ?_)
  first | refine WK.reg 200 Try.ntmps91 (by kernel_rfl) ?_ | refine WK.regD 200 clsOf (by kernel_rfl) Try.ntmps91 (by kernel_rfl) (by kernel_rfl) ?_
  intro A hA Q hQ
  simp [Tern.enc]
  refine RunQ.call rfl rfl rfl rfl (by rfl) (by simp (maxDischargeDepth := 120) [Wide.enc]) (and_c t.value t.mask) (by simp [Wide.enc]) ?_
  refine RunQ.eval ?_
  simp [Wide.enc]
  refine hQ _ _ ?_
  clear hQ hA
  repeat (first | refine WK.seq ?_ | refine WK.block ?_ | refine WK.inBlock ?_ | refine WK.skip ?_ | refine WK.label ?_ | refine WK.scope ?_ | refine WK.inScope ?_ | refine WK.exit rfl ?_)
  refine WK.ret Try.func91 (by simp (maxDischargeDepth := 120) [Try.results91, Tern.enc, Tern.clean]) (by simp [Tern.enc, Tern.clean])
theorem rclean_c (t : Tern) : FnP Try.prog 94 [.agg t.enc] (.agg t.clean.enc) := by
  refine FnP.intro Try.func94 rfl rfl fun G w => ?_
  repeat (first | refine WK.seq ?_ | refine WK.block ?_ | refine WK.inBlock ?_ | refine WK.skip ?_ | refine WK.label ?_ | refine WK.scope ?_ | refine WK.inScope ?_ | refine WK.exit rfl ?_)
  first | refine WK.reg 100 Try.ntmps94 (by kernel_rfl) ?_ | refine WK.regD 100 clsOf (by kernel_rfl) Try.ntmps94 (by kernel_rfl) (by kernel_rfl) ?_
  intro A hA Q hQ
  simp
  refine hQ _ _ ?_
  clear hQ hA
  repeat (first | refine WK.seq ?_ | refine WK.block ?_ | refine WK.inBlock ?_ | refine WK.skip ?_ | refine WK.label ?_ | refine WK.scope ?_ | refine WK.inScope ?_ | refine WK.exit rfl ?_)
  first | refine WK.reg 200 Try.ntmps94 (by kernel_rfl) ?_ | refine WK.regD 200 clsOf (by kernel_rfl) Try.ntmps94 (by kernel_rfl) (by kernel_rfl) ?_
  intro A hA Q hQ
  simp [Tern.enc]
  refine RunQ.call rfl rfl rfl rfl (by rfl) (by simp (maxDischargeDepth := 120) [Wide.enc]) (rand_c t.value t.mask) (by simp [Wide.enc]) ?_
  refine RunQ.eval ?_
  simp [Wide.enc]
  refine hQ _ _ ?_
  clear hQ hA
  repeat (first | refine WK.seq ?_ | refine WK.block ?_ | refine WK.inBlock ?_ | refine WK.skip ?_ | refine WK.label ?_ | refine WK.scope ?_ | refine WK.inScope ?_ | refine WK.exit rfl ?_)
  refine WK.ret Try.func94 (by simp (maxDischargeDepth := 120) [Try.results94, Tern.enc, Tern.clean]) (by simp [Tern.enc, Tern.clean])
theorem unlike_c (a b m : Wide) : FnP Try.prog 114 [.agg a.enc, .agg b.enc, .agg m.enc] (.agg ((a.xor b).and m).enc) := by
  refine FnP.intro Try.func114 rfl rfl fun G w => ?_
  repeat (first | refine WK.seq ?_ | refine WK.block ?_ | refine WK.inBlock ?_ | refine WK.skip ?_ | refine WK.label ?_ | refine WK.scope ?_ | refine WK.inScope ?_ | refine WK.exit rfl ?_)
  first | refine WK.reg 100 Try.ntmps114 (by kernel_rfl) ?_ | refine WK.regD 100 clsOf (by kernel_rfl) Try.ntmps114 (by kernel_rfl) (by kernel_rfl) ?_
  intro A hA Q hQ
  simp
  refine hQ _ _ ?_
  clear hQ hA
  repeat (first | refine WK.seq ?_ | refine WK.block ?_ | refine WK.inBlock ?_ | refine WK.skip ?_ | refine WK.label ?_ | refine WK.scope ?_ | refine WK.inScope ?_ | refine WK.exit rfl ?_)
  first | refine WK.reg 200 Try.ntmps114 (by kernel_rfl) ?_ | refine WK.regD 200 clsOf (by kernel_rfl) Try.ntmps114 (by kernel_rfl) (by kernel_rfl) ?_
  intro A hA Q hQ
  simp
  refine RunQ.call rfl rfl rfl rfl (by rfl) (by simp (maxDischargeDepth := 120)) (xor_c a b) (by simp) ?_
  refine RunQ.eval ?_
  simp
  refine RunQ.call rfl rfl rfl rfl (by rfl) (by simp (maxDischargeDepth := 120)) (and_c (a.xor b) m) (by simp) ?_
  refine RunQ.eval ?_
  simp
  refine hQ _ _ ?_
  clear hQ hA
  repeat (first | refine WK.seq ?_ | refine WK.block ?_ | refine WK.inBlock ?_ | refine WK.skip ?_ | refine WK.label ?_ | refine WK.scope ?_ | refine WK.inScope ?_ | refine WK.exit rfl ?_)
  refine WK.ret Try.func114 (by simp (maxDischargeDepth := 120) [Try.results114]) (by simp)
theorem has_c (t : Tern) (v : Wide) : FnP Try.prog 74 [.agg t.enc, .agg v.enc] (.bool (t.has v)) := by
  refine FnP.intro Try.func74 rfl rfl fun G w => ?_
  repeat (first | refine WK.seq ?_ | refine WK.block ?_ | refine WK.inBlock ?_ | refine WK.skip ?_ | refine WK.label ?_ | refine WK.scope ?_ | refine WK.inScope ?_ | refine WK.exit rfl ?_)
  first | refine WK.reg 100 Try.ntmps74 (by kernel_rfl) ?_ | refine WK.regD 100 clsOf (by kernel_rfl) Try.ntmps74 (by kernel_rfl) (by kernel_rfl) ?_
  intro A hA Q hQ
  simp
  refine hQ _ _ ?_
  clear hQ hA
  repeat (first | refine WK.seq ?_ | refine WK.block ?_ | refine WK.inBlock ?_ | refine WK.skip ?_ | refine WK.label ?_ | refine WK.scope ?_ | refine WK.inScope ?_ | refine WK.exit rfl ?_)
  first | refine WK.reg 200 Try.ntmps74 (by kernel_rfl) ?_ | refine WK.regD 200 clsOf (by kernel_rfl) Try.ntmps74 (by kernel_rfl) (by kernel_rfl) ?_
  intro A hA Q hQ
  simp [Tern.enc]
  refine RunQ.call rfl rfl rfl rfl (by rfl) (by simp (maxDischargeDepth := 120) [Wide.enc]) (unlike_c t.value v t.mask) (by simp [Wide.enc]) ?_
  refine RunQ.eval ?_
  simp [Wide.enc]
  refine RunQ.call rfl rfl rfl rfl (by rfl) (by simp (maxDischargeDepth := 120) [Wide.enc]) (zero_c ((t.value.xor v).and t.mask)) (by simp [Wide.enc]) ?_
  refine RunQ.eval ?_
  simp [Wide.enc]
  refine hQ _ _ ?_
  clear hQ hA
  repeat (first | refine WK.seq ?_ | refine WK.block ?_ | refine WK.inBlock ?_ | refine WK.skip ?_ | refine WK.label ?_ | refine WK.scope ?_ | refine WK.inScope ?_ | refine WK.exit rfl ?_)
  refine WK.ret Try.func74 (by simp (maxDischargeDepth := 120) [Try.results74, Tern.has]) (by simp [Tern.has])
theorem rhas_c (t : Tern) (v : Wide) : FnP Try.prog 126 [.agg t.enc, .agg v.enc] (.bool (t.has v)) := by
  refine FnP.intro Try.func126 rfl rfl fun G w => ?_
  repeat (first | refine WK.seq ?_ | refine WK.block ?_ | refine WK.inBlock ?_ | refine WK.skip ?_ | refine WK.label ?_ | refine WK.scope ?_ | refine WK.inScope ?_ | refine WK.exit rfl ?_)
  first | refine WK.reg 100 Try.ntmps126 (by kernel_rfl) ?_ | refine WK.regD 100 clsOf (by kernel_rfl) Try.ntmps126 (by kernel_rfl) (by kernel_rfl) ?_
  intro A hA Q hQ
  simp
  refine hQ _ _ ?_
  clear hQ hA
  repeat (first | refine WK.seq ?_ | refine WK.block ?_ | refine WK.inBlock ?_ | refine WK.skip ?_ | refine WK.label ?_ | refine WK.scope ?_ | refine WK.inScope ?_ | refine WK.exit rfl ?_)
  first | refine WK.reg 200 Try.ntmps126 (by kernel_rfl) ?_ | refine WK.regD 200 clsOf (by kernel_rfl) Try.ntmps126 (by kernel_rfl) (by kernel_rfl) ?_
  intro A hA Q hQ
  simp [Tern.enc]
  refine RunQ.call rfl rfl rfl rfl (by rfl) (by simp (maxDischargeDepth := 120) [Wide.enc]) (rxor_c t.value v) (by simp [Wide.enc]) ?_
  refine RunQ.eval ?_
  simp [Wide.enc]
  refine RunQ.call rfl rfl rfl rfl (by rfl) (by simp (maxDischargeDepth := 120) [Wide.enc]) (rand_c (t.value.xor v) t.mask) (by simp [Wide.enc]) ?_
  refine RunQ.eval ?_
  simp [Wide.enc]
  refine RunQ.call rfl rfl rfl rfl (by rfl) (by simp (maxDischargeDepth := 120) [Wide.enc]) (rzero_c ((t.value.xor v).and t.mask)) (by simp [Wide.enc]) ?_
  refine RunQ.eval ?_
  simp [Wide.enc]
  refine hQ _ _ ?_
  clear hQ hA
  repeat (first | refine WK.seq ?_ | refine WK.block ?_ | refine WK.inBlock ?_ | refine WK.skip ?_ | refine WK.label ?_ | refine WK.scope ?_ | refine WK.inScope ?_ | refine WK.exit rfl ?_)
  refine WK.ret Try.func126 (by simp (maxDischargeDepth := 120) [Try.results126, Tern.has]) (by simp [Tern.has])
theorem meet_c (a b : Tern) : FnP Try.prog 104 [.agg a.enc, .agg b.enc] (.tup [.agg (if a.meetOk b then a.meet b else ternZ).enc, .bool (a.meetOk b)]) := by
  refine FnP.intro Try.func104 rfl rfl fun G w => ?_
  repeat (first | refine WK.seq ?_ | refine WK.block ?_ | refine WK.inBlock ?_ | refine WK.skip ?_ | refine WK.label ?_ | refine WK.scope ?_ | refine WK.inScope ?_ | refine WK.exit rfl ?_)
  first | refine WK.reg 100 Try.ntmps104 (by kernel_rfl) ?_ | refine WK.regD 100 clsOf (by kernel_rfl) Try.ntmps104 (by kernel_rfl) (by kernel_rfl) ?_
  intro A hA Q hQ
  simp
  refine hQ _ _ ?_
  clear hQ hA
  repeat (first | refine WK.seq ?_ | refine WK.block ?_ | refine WK.inBlock ?_ | refine WK.skip ?_ | refine WK.label ?_ | refine WK.scope ?_ | refine WK.inScope ?_ | refine WK.exit rfl ?_)
  first | refine WK.reg 200 Try.ntmps104 (by kernel_rfl) ?_ | refine WK.regD 200 clsOf (by kernel_rfl) Try.ntmps104 (by kernel_rfl) (by kernel_rfl) ?_
  intro A hA Q hQ
  simp [Tern.enc]
  refine RunQ.call rfl rfl rfl rfl (by rfl) (by simp (maxDischargeDepth := 120) [Wide.enc]) (and_c a.mask b.mask) (by simp [Wide.enc]) ?_
  refine RunQ.eval ?_
  simp [Wide.enc]
  refine RunQ.call rfl rfl rfl rfl (by rfl) (by simp (maxDischargeDepth := 120) [Wide.enc, Tern.enc]) (has_c ⟨a.value, a.mask.and b.mask⟩ b.value) (by simp [Wide.enc, Tern.enc]) ?_
  refine RunQ.eval ?_
  simp [Wide.enc, Tern.enc]
  refine hQ _ _ ?_
  clear hQ hA
  have e : Tern.has ⟨a.value, a.mask.and b.mask⟩ b.value = a.meetOk b := rfl
  simp only [e]
  repeat (first | refine WK.seq ?_ | refine WK.block ?_ | refine WK.inBlock ?_ | refine WK.skip ?_ | refine WK.label ?_ | refine WK.scope ?_ | refine WK.inScope ?_ | refine WK.exit rfl ?_)
  refine WK.cond2 rfl (fun h => ?_) (fun h => ?_)
  · repeat (first | refine WK.seq ?_ | refine WK.block ?_ | refine WK.inBlock ?_ | refine WK.skip ?_ | refine WK.label ?_ | refine WK.scope ?_ | refine WK.inScope ?_ | refine WK.exit rfl ?_)
    first | refine WK.reg 300 Try.ntmps104 (by kernel_rfl) ?_ | refine WK.regD 300 clsOf (by kernel_rfl) Try.ntmps104 (by kernel_rfl) (by kernel_rfl) ?_
    intro A hA Q hQ
    simp
    refine hQ _ _ ?_
    clear hQ hA
    simp at h
    repeat (first | refine WK.seq ?_ | refine WK.block ?_ | refine WK.inBlock ?_ | refine WK.skip ?_ | refine WK.label ?_ | refine WK.scope ?_ | refine WK.inScope ?_ | refine WK.exit rfl ?_)
    refine WK.ret Try.func104 (by simp (maxDischargeDepth := 120) [Try.results104, h, Tern.enc, ternZ, wideZ, uI_zero]) (by simp [h, Tern.enc, ternZ, wideZ, uI_zero])
  · simp at h
    repeat (first | refine WK.seq ?_ | refine WK.block ?_ | refine WK.inBlock ?_ | refine WK.skip ?_ | refine WK.label ?_ | refine WK.scope ?_ | refine WK.inScope ?_ | refine WK.exit rfl ?_)
    first | refine WK.reg 400 Try.ntmps104 (by kernel_rfl) ?_ | refine WK.regD 400 clsOf (by kernel_rfl) Try.ntmps104 (by kernel_rfl) (by kernel_rfl) ?_
    intro A hA Q hQ
    simp [Tern.enc]
    refine RunQ.call rfl rfl rfl rfl (by rfl) (by simp (maxDischargeDepth := 120) [Tern.enc]) (clean_c a) (by simp [Tern.enc]) ?_
    refine RunQ.eval ?_
    simp [Tern.enc]
    refine RunQ.call rfl rfl rfl rfl (by rfl) (by simp (maxDischargeDepth := 120) [Tern.enc]) (clean_c b) (by simp [Tern.enc]) ?_
    refine RunQ.eval ?_
    simp [Tern.enc]
    refine hQ _ _ ?_
    clear hQ hA
    repeat (first | refine WK.seq ?_ | refine WK.block ?_ | refine WK.inBlock ?_ | refine WK.skip ?_ | refine WK.label ?_ | refine WK.scope ?_ | refine WK.inScope ?_ | refine WK.exit rfl ?_)
    first | refine WK.reg 500 Try.ntmps104 (by kernel_rfl) ?_ | refine WK.regD 500 clsOf (by kernel_rfl) Try.ntmps104 (by kernel_rfl) (by kernel_rfl) ?_
    intro A hA Q hQ
    simp [Tern.enc]
    refine RunQ.call rfl rfl rfl rfl (by rfl) (by simp (maxDischargeDepth := 120) [Wide.enc]) (or_c a.clean.value b.clean.value) (by simp [Wide.enc]) ?_
    refine RunQ.eval ?_
    simp [Wide.enc]
    refine RunQ.call rfl rfl rfl rfl (by rfl) (by simp (maxDischargeDepth := 120) [Wide.enc, Tern.clean]) (or_c a.mask b.mask) (by simp [Wide.enc, Tern.clean]) ?_
    refine RunQ.eval ?_
    simp [Wide.enc, Tern.clean]
    refine hQ _ _ ?_
    clear hQ hA
    repeat (first | refine WK.seq ?_ | refine WK.block ?_ | refine WK.inBlock ?_ | refine WK.skip ?_ | refine WK.label ?_ | refine WK.scope ?_ | refine WK.inScope ?_ | refine WK.exit rfl ?_)
    refine WK.ret Try.func104 (by simp (maxDischargeDepth := 120) [Try.results104, h, Tern.meet, Tern.enc, Tern.clean]) (by simp [h, Tern.meet, Tern.enc, Tern.clean])
theorem rmeet_c (a b : Tern) : FnP Try.prog 105 [.agg a.enc, .agg b.enc] (.tup [.agg (if a.meetOk b then a.meet b else ternZ).enc, .bool (a.meetOk b)]) := by
  refine FnP.intro Try.func105 rfl rfl fun G w => ?_
  repeat (first | refine WK.seq ?_ | refine WK.block ?_ | refine WK.inBlock ?_ | refine WK.skip ?_ | refine WK.label ?_ | refine WK.scope ?_ | refine WK.inScope ?_ | refine WK.exit rfl ?_)
  first | refine WK.reg 100 Try.ntmps105 (by kernel_rfl) ?_ | refine WK.regD 100 clsOf (by kernel_rfl) Try.ntmps105 (by kernel_rfl) (by kernel_rfl) ?_
  intro A hA Q hQ
  simp
  refine hQ _ _ ?_
  clear hQ hA
  repeat (first | refine WK.seq ?_ | refine WK.block ?_ | refine WK.inBlock ?_ | refine WK.skip ?_ | refine WK.label ?_ | refine WK.scope ?_ | refine WK.inScope ?_ | refine WK.exit rfl ?_)
  first | refine WK.reg 200 Try.ntmps105 (by kernel_rfl) ?_ | refine WK.regD 200 clsOf (by kernel_rfl) Try.ntmps105 (by kernel_rfl) (by kernel_rfl) ?_
  intro A hA Q hQ
  simp [Tern.enc]
  refine RunQ.call rfl rfl rfl rfl (by rfl) (by simp (maxDischargeDepth := 120) [Wide.enc]) (rand_c a.mask b.mask) (by simp [Wide.enc]) ?_
  refine RunQ.eval ?_
  simp [Wide.enc]
  refine hQ _ _ ?_
  clear hQ hA
  repeat (first | refine WK.seq ?_ | refine WK.block ?_ | refine WK.inBlock ?_ | refine WK.skip ?_ | refine WK.label ?_ | refine WK.scope ?_ | refine WK.inScope ?_ | refine WK.exit rfl ?_)
  first | refine WK.reg 300 Try.ntmps105 (by kernel_rfl) ?_ | refine WK.regD 300 clsOf (by kernel_rfl) Try.ntmps105 (by kernel_rfl) (by kernel_rfl) ?_
  intro A hA Q hQ
  simp [Tern.enc]
  refine RunQ.call rfl rfl rfl rfl (by rfl) (by simp (maxDischargeDepth := 120) [Wide.enc]) (rxor_c a.value b.value) (by simp [Wide.enc]) ?_
  refine RunQ.eval ?_
  simp [Wide.enc]
  refine RunQ.call rfl rfl rfl rfl (by rfl) (by simp (maxDischargeDepth := 120) [Wide.enc]) (rand_c (a.value.xor b.value) (a.mask.and b.mask)) (by simp [Wide.enc]) ?_
  refine RunQ.eval ?_
  simp [Wide.enc]
  refine RunQ.call rfl rfl rfl rfl (by rfl) (by simp (maxDischargeDepth := 120) [Wide.enc]) (rzero_c ((a.value.xor b.value).and (a.mask.and b.mask))) (by simp [Wide.enc]) ?_
  refine RunQ.eval ?_
  simp [Wide.enc]
  refine hQ _ _ ?_
  clear hQ hA
  have e : ((a.value.xor b.value).and (a.mask.and b.mask)).zero = a.meetOk b := rfl
  simp only [e]
  repeat (first | refine WK.seq ?_ | refine WK.block ?_ | refine WK.inBlock ?_ | refine WK.skip ?_ | refine WK.label ?_ | refine WK.scope ?_ | refine WK.inScope ?_ | refine WK.exit rfl ?_)
  refine WK.cond2 rfl (fun h => ?_) (fun h => ?_)
  · repeat (first | refine WK.seq ?_ | refine WK.block ?_ | refine WK.inBlock ?_ | refine WK.skip ?_ | refine WK.label ?_ | refine WK.scope ?_ | refine WK.inScope ?_ | refine WK.exit rfl ?_)
    first | refine WK.reg 400 Try.ntmps105 (by kernel_rfl) ?_ | refine WK.regD 400 clsOf (by kernel_rfl) Try.ntmps105 (by kernel_rfl) (by kernel_rfl) ?_
    intro A hA Q hQ
    simp
    refine hQ _ _ ?_
    clear hQ hA
    simp at h
    repeat (first | refine WK.seq ?_ | refine WK.block ?_ | refine WK.inBlock ?_ | refine WK.skip ?_ | refine WK.label ?_ | refine WK.scope ?_ | refine WK.inScope ?_ | refine WK.exit rfl ?_)
    refine WK.ret Try.func105 (by simp (maxDischargeDepth := 120) [Try.results105, h, Tern.enc, ternZ, wideZ, uI_zero]) (by simp [h, Tern.enc, ternZ, wideZ, uI_zero])
  · simp at h
    repeat (first | refine WK.seq ?_ | refine WK.block ?_ | refine WK.inBlock ?_ | refine WK.skip ?_ | refine WK.label ?_ | refine WK.scope ?_ | refine WK.inScope ?_ | refine WK.exit rfl ?_)
    first | refine WK.reg 500 Try.ntmps105 (by kernel_rfl) ?_ | refine WK.regD 500 clsOf (by kernel_rfl) Try.ntmps105 (by kernel_rfl) (by kernel_rfl) ?_
    intro A hA Q hQ
    simp [Tern.enc]
    refine RunQ.call rfl rfl rfl rfl (by rfl) (by simp (maxDischargeDepth := 120) [Tern.enc]) (rclean_c a) (by simp [Tern.enc]) ?_
    refine RunQ.eval ?_
    simp [Tern.enc]
    refine RunQ.call rfl rfl rfl rfl (by rfl) (by simp (maxDischargeDepth := 120) [Tern.enc]) (rclean_c b) (by simp [Tern.enc]) ?_
    refine RunQ.eval ?_
    simp [Tern.enc]
    refine hQ _ _ ?_
    clear hQ hA
    repeat (first | refine WK.seq ?_ | refine WK.block ?_ | refine WK.inBlock ?_ | refine WK.skip ?_ | refine WK.label ?_ | refine WK.scope ?_ | refine WK.inScope ?_ | refine WK.exit rfl ?_)
    first | refine WK.reg 600 Try.ntmps105 (by kernel_rfl) ?_ | refine WK.regD 600 clsOf (by kernel_rfl) Try.ntmps105 (by kernel_rfl) (by kernel_rfl) ?_
    intro A hA Q hQ
    simp [Tern.enc]
    refine RunQ.call rfl rfl rfl rfl (by rfl) (by simp (maxDischargeDepth := 120) [Wide.enc]) (ror_c a.clean.value b.clean.value) (by simp [Wide.enc]) ?_
    refine RunQ.eval ?_
    simp [Wide.enc]
    refine RunQ.call rfl rfl rfl rfl (by rfl) (by simp (maxDischargeDepth := 120) [Wide.enc, Tern.clean]) (ror_c a.mask b.mask) (by simp [Wide.enc, Tern.clean]) ?_
    refine RunQ.eval ?_
    simp [Wide.enc, Tern.clean]
    refine hQ _ _ ?_
    clear hQ hA
    repeat (first | refine WK.seq ?_ | refine WK.block ?_ | refine WK.inBlock ?_ | refine WK.skip ?_ | refine WK.label ?_ | refine WK.scope ?_ | refine WK.inScope ?_ | refine WK.exit rfl ?_)
    refine WK.ret Try.func105 (by simp (maxDischargeDepth := 120) [Try.results105, h, Tern.meet, Tern.enc, Tern.clean]) (by simp [h, Tern.meet, Tern.enc, Tern.clean])
theorem within_c (a b : Tern) : FnP Try.prog 106 [.agg a.enc, .agg b.enc] (.bool (a.within b)) := by
  cases hz : (b.mask.less a.mask).zero
  · refine FnP.intro Try.func106 rfl rfl fun G w => ?_
    repeat (first | refine WK.seq ?_ | refine WK.block ?_ | refine WK.inBlock ?_ | refine WK.skip ?_ | refine WK.label ?_ | refine WK.scope ?_ | refine WK.inScope ?_ | refine WK.exit rfl ?_)
    first | refine WK.reg 100 Try.ntmps106 (by kernel_rfl) ?_ | refine WK.regD 100 clsOf (by kernel_rfl) Try.ntmps106 (by kernel_rfl) (by kernel_rfl) ?_
    intro A hA Q hQ
    simp
    refine hQ _ _ ?_
    clear hQ hA
    repeat (first | refine WK.seq ?_ | refine WK.block ?_ | refine WK.inBlock ?_ | refine WK.skip ?_ | refine WK.label ?_ | refine WK.scope ?_ | refine WK.inScope ?_ | refine WK.exit rfl ?_)
    first | refine WK.reg 200 Try.ntmps106 (by kernel_rfl) ?_ | refine WK.regD 200 clsOf (by kernel_rfl) Try.ntmps106 (by kernel_rfl) (by kernel_rfl) ?_
    intro A hA Q hQ
    have hg6 : (A[6]?).bind (·.dst) = some 11 := by rw [hA]; rfl
    simp [Tern.enc, hg6]
    refine RunQ.call rfl rfl rfl rfl (by rfl) (by simp (maxDischargeDepth := 120) [Wide.enc]) (less_c b.mask a.mask) (by simp [Wide.enc]) ?_
    refine RunQ.eval ?_
    simp [Wide.enc]
    refine RunQ.call rfl rfl rfl rfl (by rfl) (by simp (maxDischargeDepth := 120) [hz, hg6, Wide.enc]) (zero_c (b.mask.less a.mask)) (by simp [hz, hg6, Wide.enc]) ?_
    refine RunQ.eval ?_
    simp [hz, hg6, Wide.enc]
    refine hQ _ _ ?_
    clear hQ hA
    repeat (first | refine WK.seq ?_ | refine WK.block ?_ | refine WK.inBlock ?_ | refine WK.skip ?_ | refine WK.label ?_ | refine WK.scope ?_ | refine WK.inScope ?_ | refine WK.exit rfl ?_)
    refine WK.ret Try.func106 (by simp (maxDischargeDepth := 120) [Try.results106, Tern.within, hz]) (by simp [Tern.within, hz])
  · refine FnP.intro Try.func106 rfl rfl fun G w => ?_
    repeat (first | refine WK.seq ?_ | refine WK.block ?_ | refine WK.inBlock ?_ | refine WK.skip ?_ | refine WK.label ?_ | refine WK.scope ?_ | refine WK.inScope ?_ | refine WK.exit rfl ?_)
    first | refine WK.reg 100 Try.ntmps106 (by kernel_rfl) ?_ | refine WK.regD 100 clsOf (by kernel_rfl) Try.ntmps106 (by kernel_rfl) (by kernel_rfl) ?_
    intro A hA Q hQ
    simp
    refine hQ _ _ ?_
    clear hQ hA
    repeat (first | refine WK.seq ?_ | refine WK.block ?_ | refine WK.inBlock ?_ | refine WK.skip ?_ | refine WK.label ?_ | refine WK.scope ?_ | refine WK.inScope ?_ | refine WK.exit rfl ?_)
    first | refine WK.reg 200 Try.ntmps106 (by kernel_rfl) ?_ | refine WK.regD 200 clsOf (by kernel_rfl) Try.ntmps106 (by kernel_rfl) (by kernel_rfl) ?_
    intro A hA Q hQ
    have hg6 : (A[6]?).bind (·.dst) = some 11 := by rw [hA]; rfl
    simp [Tern.enc, hg6]
    refine RunQ.call rfl rfl rfl rfl (by rfl) (by simp (maxDischargeDepth := 120) [Wide.enc]) (less_c b.mask a.mask) (by simp [Wide.enc]) ?_
    refine RunQ.eval ?_
    simp [Wide.enc]
    refine RunQ.call rfl rfl rfl rfl (by rfl) (by simp (maxDischargeDepth := 120) [hz, hg6, Wide.enc]) (zero_c (b.mask.less a.mask)) (by simp [hz, hg6, Wide.enc]) ?_
    refine RunQ.eval ?_
    simp [hz, hg6, Wide.enc]
    refine RunQ.callG rfl rfl (by simp [hg6, Tern.enc, Wide.enc]) rfl (by rfl) (by simp (maxDischargeDepth := 120) [hg6, Tern.enc, Wide.enc]) (has_c b a.value) (by simp [hg6, Tern.enc, Wide.enc]) ?_
    refine RunQ.eval ?_
    simp [hg6, Tern.enc, Wide.enc]
    refine hQ _ _ ?_
    clear hQ hA
    repeat (first | refine WK.seq ?_ | refine WK.block ?_ | refine WK.inBlock ?_ | refine WK.skip ?_ | refine WK.label ?_ | refine WK.scope ?_ | refine WK.inScope ?_ | refine WK.exit rfl ?_)
    refine WK.ret Try.func106 (by simp (maxDischargeDepth := 120) [Try.results106, Tern.within, hz]) (by simp [Tern.within, hz])
theorem rwithin_c (a b : Tern) : FnP Try.prog 107 [.agg a.enc, .agg b.enc] (.bool (a.within b)) := by
  have e : Tern.has b a.value = ((a.value.xor b.value).and b.mask).zero := by
    unfold Tern.has; rw [Wide.xor_comm]
  cases hz : (b.mask.less a.mask).zero
  · refine FnP.intro Try.func107 rfl rfl fun G w => ?_
    repeat (first | refine WK.seq ?_ | refine WK.block ?_ | refine WK.inBlock ?_ | refine WK.skip ?_ | refine WK.label ?_ | refine WK.scope ?_ | refine WK.inScope ?_ | refine WK.exit rfl ?_)
    first | refine WK.reg 100 Try.ntmps107 (by kernel_rfl) ?_ | refine WK.regD 100 clsOf (by kernel_rfl) Try.ntmps107 (by kernel_rfl) (by kernel_rfl) ?_
    intro A hA Q hQ
    simp
    refine hQ _ _ ?_
    clear hQ hA
    repeat (first | refine WK.seq ?_ | refine WK.block ?_ | refine WK.inBlock ?_ | refine WK.skip ?_ | refine WK.label ?_ | refine WK.scope ?_ | refine WK.inScope ?_ | refine WK.exit rfl ?_)
    first | refine WK.reg 200 Try.ntmps107 (by kernel_rfl) ?_ | refine WK.regD 200 clsOf (by kernel_rfl) Try.ntmps107 (by kernel_rfl) (by kernel_rfl) ?_
    intro A hA Q hQ
    have hg6 : (A[6]?).bind (·.dst) = some 11 := by rw [hA]; rfl
    simp [Tern.enc, hg6]
    refine RunQ.call rfl rfl rfl rfl (by rfl) (by simp (maxDischargeDepth := 120) [Wide.enc]) (rless_c b.mask a.mask) (by simp [Wide.enc]) ?_
    refine RunQ.eval ?_
    simp [Wide.enc]
    refine RunQ.call rfl rfl rfl rfl (by rfl) (by simp (maxDischargeDepth := 120) [hz, hg6, Wide.enc]) (rzero_c (b.mask.less a.mask)) (by simp [hz, hg6, Wide.enc]) ?_
    refine RunQ.eval ?_
    simp [hz, hg6, Wide.enc]
    refine hQ _ _ ?_
    clear hQ hA
    repeat (first | refine WK.seq ?_ | refine WK.block ?_ | refine WK.inBlock ?_ | refine WK.skip ?_ | refine WK.label ?_ | refine WK.scope ?_ | refine WK.inScope ?_ | refine WK.exit rfl ?_)
    refine WK.ret Try.func107 (by simp (maxDischargeDepth := 120) [Try.results107, Tern.within, hz]) (by simp [Tern.within, hz])
  · refine FnP.intro Try.func107 rfl rfl fun G w => ?_
    repeat (first | refine WK.seq ?_ | refine WK.block ?_ | refine WK.inBlock ?_ | refine WK.skip ?_ | refine WK.label ?_ | refine WK.scope ?_ | refine WK.inScope ?_ | refine WK.exit rfl ?_)
    first | refine WK.reg 100 Try.ntmps107 (by kernel_rfl) ?_ | refine WK.regD 100 clsOf (by kernel_rfl) Try.ntmps107 (by kernel_rfl) (by kernel_rfl) ?_
    intro A hA Q hQ
    simp
    refine hQ _ _ ?_
    clear hQ hA
    repeat (first | refine WK.seq ?_ | refine WK.block ?_ | refine WK.inBlock ?_ | refine WK.skip ?_ | refine WK.label ?_ | refine WK.scope ?_ | refine WK.inScope ?_ | refine WK.exit rfl ?_)
    first | refine WK.reg 200 Try.ntmps107 (by kernel_rfl) ?_ | refine WK.regD 200 clsOf (by kernel_rfl) Try.ntmps107 (by kernel_rfl) (by kernel_rfl) ?_
    intro A hA Q hQ
    have hg6 : (A[6]?).bind (·.dst) = some 11 := by rw [hA]; rfl
    simp [Tern.enc, hg6]
    refine RunQ.call rfl rfl rfl rfl (by rfl) (by simp (maxDischargeDepth := 120) [Wide.enc]) (rless_c b.mask a.mask) (by simp [Wide.enc]) ?_
    refine RunQ.eval ?_
    simp [Wide.enc]
    refine RunQ.call rfl rfl rfl rfl (by rfl) (by simp (maxDischargeDepth := 120) [hz, hg6, Wide.enc]) (rzero_c (b.mask.less a.mask)) (by simp [hz, hg6, Wide.enc]) ?_
    refine RunQ.eval ?_
    simp [hz, hg6, Wide.enc]
    refine RunQ.callG rfl rfl (by simp [hg6, Tern.enc, Wide.enc]) rfl (by rfl) (by simp (maxDischargeDepth := 120) [hg6, Tern.enc, Wide.enc]) (rxor_c a.value b.value) (by simp [hg6, Tern.enc, Wide.enc]) ?_
    refine RunQ.eval ?_
    simp [hg6, Tern.enc, Wide.enc]
    refine RunQ.callG rfl rfl (by simp [hg6, Tern.enc, Wide.enc]) rfl (by rfl) (by simp (maxDischargeDepth := 120) [hg6, Tern.enc, Wide.enc]) (rand_c (a.value.xor b.value) b.mask) (by simp [hg6, Tern.enc, Wide.enc]) ?_
    refine RunQ.eval ?_
    simp [hg6, Tern.enc, Wide.enc]
    refine RunQ.callG rfl rfl (by simp [hg6, Wide.enc]) rfl (by rfl) (by simp (maxDischargeDepth := 120) [hg6, Wide.enc]) (rzero_c ((a.value.xor b.value).and b.mask)) (by simp [hg6, Wide.enc]) ?_
    refine RunQ.eval ?_
    simp [hg6, Wide.enc]
    refine hQ _ _ ?_
    clear hQ hA
    repeat (first | refine WK.seq ?_ | refine WK.block ?_ | refine WK.inBlock ?_ | refine WK.skip ?_ | refine WK.label ?_ | refine WK.scope ?_ | refine WK.inScope ?_ | refine WK.exit rfl ?_)
    refine WK.ret Try.func107 (by simp (maxDischargeDepth := 120) [Try.results107, Tern.within, hz, e]) (by simp [Tern.within, hz, e])
end Go.Proofs.Ytfgmjnmkcobhkaa
