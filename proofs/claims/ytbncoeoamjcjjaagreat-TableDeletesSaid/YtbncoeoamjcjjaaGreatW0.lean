/- The small functions of wide and tern, and those of the references that are like them. -/
import Derived.Test.YtbncoeoamjcjjaaGreatTT
set_option linter.all false
set_option linter.unnecessarySimpa false
set_option linter.unusedVariables false
set_option linter.unusedSimpArgs false
namespace Go.Proofs.YtbncoeoamjcjjaaGreat
open Go Go.AI Go.Proofs

theorem and_c (a b : Wide) : FnP Tryz.prog 110 [.agg a.enc, .agg b.enc] (.agg (a.and b).enc) := by
  refine FnP.intro Tryz.func110 rfl rfl fun G w => ?_
  repeat (first | refine WK.seq ?_ | refine WK.block ?_ | refine WK.inBlock ?_ | refine WK.skip ?_ | refine WK.label ?_ | refine WK.scope ?_ | refine WK.inScope ?_ | refine WK.exit rfl ?_)
  first | refine WK.reg 100 Tryz.ntmps110 (by kernel_rfl) ?_ | refine WK.regD 100 clsOf (by kernel_rfl) Tryz.ntmps110 (by kernel_rfl) (by kernel_rfl) ?_
  intro A hA Q hQ
  simp
  refine hQ _ _ ?_
  clear hQ hA
  repeat (first | refine WK.seq ?_ | refine WK.block ?_ | refine WK.inBlock ?_ | refine WK.skip ?_ | refine WK.label ?_ | refine WK.scope ?_ | refine WK.inScope ?_ | refine WK.exit rfl ?_)
  first | refine WK.reg 200 Tryz.ntmps110 (by kernel_rfl) ?_ | refine WK.regD 200 clsOf (by kernel_rfl) Tryz.ntmps110 (by kernel_rfl) (by kernel_rfl) ?_
  intro A hA Q hQ
  simp [Wide.enc]
  refine hQ _ _ ?_
  clear hQ hA
  repeat (first | refine WK.seq ?_ | refine WK.block ?_ | refine WK.inBlock ?_ | refine WK.skip ?_ | refine WK.label ?_ | refine WK.scope ?_ | refine WK.inScope ?_ | refine WK.exit rfl ?_)
  refine WK.ret Tryz.func110 (by simp (maxDischargeDepth := 120) [Tryz.results110, Wide.enc, Wide.and]) (by simp [Wide.enc, Wide.and])
theorem or_c (a b : Wide) : FnP Tryz.prog 112 [.agg a.enc, .agg b.enc] (.agg (a.or b).enc) := by
  refine FnP.intro Tryz.func112 rfl rfl fun G w => ?_
  repeat (first | refine WK.seq ?_ | refine WK.block ?_ | refine WK.inBlock ?_ | refine WK.skip ?_ | refine WK.label ?_ | refine WK.scope ?_ | refine WK.inScope ?_ | refine WK.exit rfl ?_)
  first | refine WK.reg 100 Tryz.ntmps112 (by kernel_rfl) ?_ | refine WK.regD 100 clsOf (by kernel_rfl) Tryz.ntmps112 (by kernel_rfl) (by kernel_rfl) ?_
  intro A hA Q hQ
  simp
  refine hQ _ _ ?_
  clear hQ hA
  repeat (first | refine WK.seq ?_ | refine WK.block ?_ | refine WK.inBlock ?_ | refine WK.skip ?_ | refine WK.label ?_ | refine WK.scope ?_ | refine WK.inScope ?_ | refine WK.exit rfl ?_)
  first | refine WK.reg 200 Tryz.ntmps112 (by kernel_rfl) ?_ | refine WK.regD 200 clsOf (by kernel_rfl) Tryz.ntmps112 (by kernel_rfl) (by kernel_rfl) ?_
  intro A hA Q hQ
  simp [Wide.enc]
  refine hQ _ _ ?_
  clear hQ hA
  repeat (first | refine WK.seq ?_ | refine WK.block ?_ | refine WK.inBlock ?_ | refine WK.skip ?_ | refine WK.label ?_ | refine WK.scope ?_ | refine WK.inScope ?_ | refine WK.exit rfl ?_)
  refine WK.ret Tryz.func112 (by simp (maxDischargeDepth := 120) [Tryz.results112, Wide.enc, Wide.or]) (by simp [Wide.enc, Wide.or])
theorem xor_c (a b : Wide) : FnP Tryz.prog 146 [.agg a.enc, .agg b.enc] (.agg (a.xor b).enc) := by
  refine FnP.intro Tryz.func146 rfl rfl fun G w => ?_
  repeat (first | refine WK.seq ?_ | refine WK.block ?_ | refine WK.inBlock ?_ | refine WK.skip ?_ | refine WK.label ?_ | refine WK.scope ?_ | refine WK.inScope ?_ | refine WK.exit rfl ?_)
  first | refine WK.reg 100 Tryz.ntmps146 (by kernel_rfl) ?_ | refine WK.regD 100 clsOf (by kernel_rfl) Tryz.ntmps146 (by kernel_rfl) (by kernel_rfl) ?_
  intro A hA Q hQ
  simp
  refine hQ _ _ ?_
  clear hQ hA
  repeat (first | refine WK.seq ?_ | refine WK.block ?_ | refine WK.inBlock ?_ | refine WK.skip ?_ | refine WK.label ?_ | refine WK.scope ?_ | refine WK.inScope ?_ | refine WK.exit rfl ?_)
  first | refine WK.reg 200 Tryz.ntmps146 (by kernel_rfl) ?_ | refine WK.regD 200 clsOf (by kernel_rfl) Tryz.ntmps146 (by kernel_rfl) (by kernel_rfl) ?_
  intro A hA Q hQ
  simp [Wide.enc]
  refine hQ _ _ ?_
  clear hQ hA
  repeat (first | refine WK.seq ?_ | refine WK.block ?_ | refine WK.inBlock ?_ | refine WK.skip ?_ | refine WK.label ?_ | refine WK.scope ?_ | refine WK.inScope ?_ | refine WK.exit rfl ?_)
  refine WK.ret Tryz.func146 (by simp (maxDischargeDepth := 120) [Tryz.results146, Wide.enc, Wide.xor]) (by simp [Wide.enc, Wide.xor])
theorem less_c (a b : Wide) : FnP Tryz.prog 150 [.agg a.enc, .agg b.enc] (.agg (a.less b).enc) := by
  refine FnP.intro Tryz.func150 rfl rfl fun G w => ?_
  repeat (first | refine WK.seq ?_ | refine WK.block ?_ | refine WK.inBlock ?_ | refine WK.skip ?_ | refine WK.label ?_ | refine WK.scope ?_ | refine WK.inScope ?_ | refine WK.exit rfl ?_)
  first | refine WK.reg 100 Tryz.ntmps150 (by kernel_rfl) ?_ | refine WK.regD 100 clsOf (by kernel_rfl) Tryz.ntmps150 (by kernel_rfl) (by kernel_rfl) ?_
  intro A hA Q hQ
  simp
  refine hQ _ _ ?_
  clear hQ hA
  repeat (first | refine WK.seq ?_ | refine WK.block ?_ | refine WK.inBlock ?_ | refine WK.skip ?_ | refine WK.label ?_ | refine WK.scope ?_ | refine WK.inScope ?_ | refine WK.exit rfl ?_)
  first | refine WK.reg 200 Tryz.ntmps150 (by kernel_rfl) ?_ | refine WK.regD 200 clsOf (by kernel_rfl) Tryz.ntmps150 (by kernel_rfl) (by kernel_rfl) ?_
  intro A hA Q hQ
  simp [Wide.enc]
  refine hQ _ _ ?_
  clear hQ hA
  repeat (first | refine WK.seq ?_ | refine WK.block ?_ | refine WK.inBlock ?_ | refine WK.skip ?_ | refine WK.label ?_ | refine WK.scope ?_ | refine WK.inScope ?_ | refine WK.exit rfl ?_)
  refine WK.ret Tryz.func150 (by simp (maxDischargeDepth := 120) [Tryz.results150, Wide.enc, Wide.less]) (by simp [Wide.enc, Wide.less])
theorem zero_c (a : Wide) : FnP Tryz.prog 134 [.agg a.enc] (.bool a.zero) := by
  refine FnP.intro Tryz.func134 rfl rfl fun G w => ?_
  repeat (first | refine WK.seq ?_ | refine WK.block ?_ | refine WK.inBlock ?_ | refine WK.skip ?_ | refine WK.label ?_ | refine WK.scope ?_ | refine WK.inScope ?_ | refine WK.exit rfl ?_)
  first | refine WK.reg 100 Tryz.ntmps134 (by kernel_rfl) ?_ | refine WK.regD 100 clsOf (by kernel_rfl) Tryz.ntmps134 (by kernel_rfl) (by kernel_rfl) ?_
  intro A hA Q hQ
  simp
  refine hQ _ _ ?_
  clear hQ hA
  repeat (first | refine WK.seq ?_ | refine WK.block ?_ | refine WK.inBlock ?_ | refine WK.skip ?_ | refine WK.label ?_ | refine WK.scope ?_ | refine WK.inScope ?_ | refine WK.exit rfl ?_)
  first | refine WK.reg 200 Tryz.ntmps134 (by kernel_rfl) ?_ | refine WK.regD 200 clsOf (by kernel_rfl) Tryz.ntmps134 (by kernel_rfl) (by kernel_rfl) ?_
  intro A hA Q hQ
  simp [Wide.enc]
  refine hQ _ _ ?_
  clear hQ hA
  repeat (first | refine WK.seq ?_ | refine WK.block ?_ | refine WK.inBlock ?_ | refine WK.skip ?_ | refine WK.label ?_ | refine WK.scope ?_ | refine WK.inScope ?_ | refine WK.exit rfl ?_)
  refine WK.ret Tryz.func134 (by simp (maxDischargeDepth := 120) [Tryz.results134, Wide.zero]) (by simp [Wide.zero])
theorem rand_c (a b : Wide) : FnP Tryz.prog 117 [.agg a.enc, .agg b.enc] (.agg (a.and b).enc) := by
  refine FnP.intro Tryz.func117 rfl rfl fun G w => ?_
  repeat (first | refine WK.seq ?_ | refine WK.block ?_ | refine WK.inBlock ?_ | refine WK.skip ?_ | refine WK.label ?_ | refine WK.scope ?_ | refine WK.inScope ?_ | refine WK.exit rfl ?_)
  first | refine WK.reg 100 Tryz.ntmps117 (by kernel_rfl) ?_ | refine WK.regD 100 clsOf (by kernel_rfl) Tryz.ntmps117 (by kernel_rfl) (by kernel_rfl) ?_
  intro A hA Q hQ
  simp
  refine hQ _ _ ?_
  clear hQ hA
  repeat (first | refine WK.seq ?_ | refine WK.block ?_ | refine WK.inBlock ?_ | refine WK.skip ?_ | refine WK.label ?_ | refine WK.scope ?_ | refine WK.inScope ?_ | refine WK.exit rfl ?_)
  first | refine WK.reg 200 Tryz.ntmps117 (by kernel_rfl) ?_ | refine WK.regD 200 clsOf (by kernel_rfl) Tryz.ntmps117 (by kernel_rfl) (by kernel_rfl) ?_
  intro A hA Q hQ
  simp [Wide.enc]
  refine hQ _ _ ?_
  clear hQ hA
  repeat (first | refine WK.seq ?_ | refine WK.block ?_ | refine WK.inBlock ?_ | refine WK.skip ?_ | refine WK.label ?_ | refine WK.scope ?_ | refine WK.inScope ?_ | refine WK.exit rfl ?_)
  refine WK.ret Tryz.func117 (by simp (maxDischargeDepth := 120) [Tryz.results117, Wide.enc, Wide.and]) (by simp [Wide.enc, Wide.and])
theorem ror_c (a b : Wide) : FnP Tryz.prog 120 [.agg a.enc, .agg b.enc] (.agg (a.or b).enc) := by
  refine FnP.intro Tryz.func120 rfl rfl fun G w => ?_
  repeat (first | refine WK.seq ?_ | refine WK.block ?_ | refine WK.inBlock ?_ | refine WK.skip ?_ | refine WK.label ?_ | refine WK.scope ?_ | refine WK.inScope ?_ | refine WK.exit rfl ?_)
  first | refine WK.reg 100 Tryz.ntmps120 (by kernel_rfl) ?_ | refine WK.regD 100 clsOf (by kernel_rfl) Tryz.ntmps120 (by kernel_rfl) (by kernel_rfl) ?_
  intro A hA Q hQ
  simp
  refine hQ _ _ ?_
  clear hQ hA
  repeat (first | refine WK.seq ?_ | refine WK.block ?_ | refine WK.inBlock ?_ | refine WK.skip ?_ | refine WK.label ?_ | refine WK.scope ?_ | refine WK.inScope ?_ | refine WK.exit rfl ?_)
  first | refine WK.reg 200 Tryz.ntmps120 (by kernel_rfl) ?_ | refine WK.regD 200 clsOf (by kernel_rfl) Tryz.ntmps120 (by kernel_rfl) (by kernel_rfl) ?_
  intro A hA Q hQ
  simp [Wide.enc]
  refine hQ _ _ ?_
  clear hQ hA
  repeat (first | refine WK.seq ?_ | refine WK.block ?_ | refine WK.inBlock ?_ | refine WK.skip ?_ | refine WK.label ?_ | refine WK.scope ?_ | refine WK.inScope ?_ | refine WK.exit rfl ?_)
  refine WK.ret Tryz.func120 (by simp (maxDischargeDepth := 120) [Tryz.results120, Wide.enc, Wide.or]) (by simp [Wide.enc, Wide.or])
theorem rxor_c (a b : Wide) : FnP Tryz.prog 119 [.agg a.enc, .agg b.enc] (.agg (a.xor b).enc) := by
  refine FnP.intro Tryz.func119 rfl rfl fun G w => ?_
  repeat (first | refine WK.seq ?_ | refine WK.block ?_ | refine WK.inBlock ?_ | refine WK.skip ?_ | refine WK.label ?_ | refine WK.scope ?_ | refine WK.inScope ?_ | refine WK.exit rfl ?_)
  first | refine WK.reg 100 Tryz.ntmps119 (by kernel_rfl) ?_ | refine WK.regD 100 clsOf (by kernel_rfl) Tryz.ntmps119 (by kernel_rfl) (by kernel_rfl) ?_
  intro A hA Q hQ
  simp
  refine hQ _ _ ?_
  clear hQ hA
  repeat (first | refine WK.seq ?_ | refine WK.block ?_ | refine WK.inBlock ?_ | refine WK.skip ?_ | refine WK.label ?_ | refine WK.scope ?_ | refine WK.inScope ?_ | refine WK.exit rfl ?_)
  first | refine WK.reg 200 Tryz.ntmps119 (by kernel_rfl) ?_ | refine WK.regD 200 clsOf (by kernel_rfl) Tryz.ntmps119 (by kernel_rfl) (by kernel_rfl) ?_
  intro A hA Q hQ
  simp [Wide.enc]
  refine hQ _ _ ?_
  clear hQ hA
  repeat (first | refine WK.seq ?_ | refine WK.block ?_ | refine WK.inBlock ?_ | refine WK.skip ?_ | refine WK.label ?_ | refine WK.scope ?_ | refine WK.inScope ?_ | refine WK.exit rfl ?_)
  refine WK.ret Tryz.func119 (by simp (maxDischargeDepth := 120) [Tryz.results119, Wide.enc, Wide.xor]) (by simp [Wide.enc, Wide.xor])
theorem rless_c (a b : Wide) : FnP Tryz.prog 123 [.agg a.enc, .agg b.enc] (.agg (a.less b).enc) := by
  refine FnP.intro Tryz.func123 rfl rfl fun G w => ?_
  repeat (first | refine WK.seq ?_ | refine WK.block ?_ | refine WK.inBlock ?_ | refine WK.skip ?_ | refine WK.label ?_ | refine WK.scope ?_ | refine WK.inScope ?_ | refine WK.exit rfl ?_)
  first | refine WK.reg 100 Tryz.ntmps123 (by kernel_rfl) ?_ | refine WK.regD 100 clsOf (by kernel_rfl) Tryz.ntmps123 (by kernel_rfl) (by kernel_rfl) ?_
  intro A hA Q hQ
  simp
  refine hQ _ _ ?_
  clear hQ hA
  repeat (first | refine WK.seq ?_ | refine WK.block ?_ | refine WK.inBlock ?_ | refine WK.skip ?_ | refine WK.label ?_ | refine WK.scope ?_ | refine WK.inScope ?_ | refine WK.exit rfl ?_)
  first | refine WK.reg 200 Tryz.ntmps123 (by kernel_rfl) ?_ | refine WK.regD 200 clsOf (by kernel_rfl) Tryz.ntmps123 (by kernel_rfl) (by kernel_rfl) ?_
  intro A hA Q hQ
  simp [Wide.enc]
  refine hQ _ _ ?_
  clear hQ hA
  repeat (first | refine WK.seq ?_ | refine WK.block ?_ | refine WK.inBlock ?_ | refine WK.skip ?_ | refine WK.label ?_ | refine WK.scope ?_ | refine WK.inScope ?_ | refine WK.exit rfl ?_)
  refine WK.ret Tryz.func123 (by simp (maxDischargeDepth := 120) [Tryz.results123, Wide.enc, Wide.less]) (by simp [Wide.enc, Wide.less])
theorem rzero_c (a : Wide) : FnP Tryz.prog 118 [.agg a.enc] (.bool a.zero) := by
  rw [Wide.zero_eq]
  cases hz : (a.hi == 0#64)
  all_goals
    refine FnP.intro Tryz.func118 rfl rfl fun G w => ?_
    repeat (first | refine WK.seq ?_ | refine WK.block ?_ | refine WK.inBlock ?_ | refine WK.skip ?_ | refine WK.label ?_ | refine WK.scope ?_ | refine WK.inScope ?_ | refine WK.exit rfl ?_)
    first | refine WK.reg 100 Tryz.ntmps118 (by kernel_rfl) ?_ | refine WK.regD 100 clsOf (by kernel_rfl) Tryz.ntmps118 (by kernel_rfl) (by kernel_rfl) ?_
    intro A hA Q hQ
    simp
    refine hQ _ _ ?_
    clear hQ hA
    repeat (first | refine WK.seq ?_ | refine WK.block ?_ | refine WK.inBlock ?_ | refine WK.skip ?_ | refine WK.label ?_ | refine WK.scope ?_ | refine WK.inScope ?_ | refine WK.exit rfl ?_)
    first | refine WK.reg 200 Tryz.ntmps118 (by kernel_rfl) ?_ | refine WK.regD 200 clsOf (by kernel_rfl) Tryz.ntmps118 (by kernel_rfl) (by kernel_rfl) ?_
    intro A hA Q hQ
    have hg3 : (A[3]?).bind (·.dst) = some 6 := by rw [hA]; rfl
    simp [Wide.enc, hz, hg3]
    refine hQ _ _ ?_
    clear hQ hA
    repeat (first | refine WK.seq ?_ | refine WK.block ?_ | refine WK.inBlock ?_ | refine WK.skip ?_ | refine WK.label ?_ | refine WK.scope ?_ | refine WK.inScope ?_ | refine WK.exit rfl ?_)
    refine WK.ret Tryz.func118 (by simp (maxDischargeDepth := 120) [Tryz.results118]) (by simp)

theorem clean_c (t : Tern) : FnP Tryz.prog 111 [.agg t.enc] (.agg t.clean.enc) := by
  refine FnP.intro Tryz.func111 rfl rfl fun G w => ?_
  repeat (first | refine WK.seq ?_ | refine WK.block ?_ | refine WK.inBlock ?_ | refine WK.skip ?_ | refine WK.label ?_ | refine WK.scope ?_ | refine WK.inScope ?_ | refine WK.exit rfl ?_)
  first | refine WK.reg 100 Tryz.ntmps111 (by kernel_rfl) ?_ | refine WK.regD 100 clsOf (by kernel_rfl) Tryz.ntmps111 (by kernel_rfl) (by kernel_rfl) ?_
  intro A hA Q hQ
  simp
  refine hQ _ _ ?_
  clear hQ hA
  repeat (first | refine WK.seq ?_ | refine WK.block ?_ | refine WK.inBlock ?_ | refine WK.skip ?_ | refine WK.label ?_ | refine WK.scope ?_ | refine WK.inScope ?_ | refine WK.exit rfl ?_)
  first | refine WK.reg 200 Tryz.ntmps111 (by kernel_rfl) ?_ | refine WK.regD 200 clsOf (by kernel_rfl) Tryz.ntmps111 (by kernel_rfl) (by kernel_rfl) ?_
  intro A hA Q hQ
  simp [Tern.enc]
  refine RunQ.call rfl rfl rfl rfl (by rfl) (by simp (maxDischargeDepth := 120) [Wide.enc]) (and_c t.value t.mask) (by simp [Wide.enc]) ?_
  refine RunQ.eval ?_
  simp [Wide.enc]
  refine hQ _ _ ?_
  clear hQ hA
  repeat (first | refine WK.seq ?_ | refine WK.block ?_ | refine WK.inBlock ?_ | refine WK.skip ?_ | refine WK.label ?_ | refine WK.scope ?_ | refine WK.inScope ?_ | refine WK.exit rfl ?_)
  refine WK.ret Tryz.func111 (by simp (maxDischargeDepth := 120) [Tryz.results111, Tern.enc, Tern.clean]) (by simp [Tern.enc, Tern.clean])
theorem rclean_c (t : Tern) : FnP Tryz.prog 92 [.agg t.enc] (.agg t.clean.enc) := by
  refine FnP.intro Tryz.func92 rfl rfl fun G w => ?_
  repeat (first | refine WK.seq ?_ | refine WK.block ?_ | refine WK.inBlock ?_ | refine WK.skip ?_ | refine WK.label ?_ | refine WK.scope ?_ | refine WK.inScope ?_ | refine WK.exit rfl ?_)
  first | refine WK.reg 100 Tryz.ntmps92 (by kernel_rfl) ?_ | refine WK.regD 100 clsOf (by kernel_rfl) Tryz.ntmps92 (by kernel_rfl) (by kernel_rfl) ?_
  intro A hA Q hQ
  simp
  refine hQ _ _ ?_
  clear hQ hA
  repeat (first | refine WK.seq ?_ | refine WK.block ?_ | refine WK.inBlock ?_ | refine WK.skip ?_ | refine WK.label ?_ | refine WK.scope ?_ | refine WK.inScope ?_ | refine WK.exit rfl ?_)
  first | refine WK.reg 200 Tryz.ntmps92 (by kernel_rfl) ?_ | refine WK.regD 200 clsOf (by kernel_rfl) Tryz.ntmps92 (by kernel_rfl) (by kernel_rfl) ?_
  intro A hA Q hQ
  simp [Tern.enc]
  refine RunQ.call rfl rfl rfl rfl (by rfl) (by simp (maxDischargeDepth := 120) [Wide.enc]) (rand_c t.value t.mask) (by simp [Wide.enc]) ?_
  refine RunQ.eval ?_
  simp [Wide.enc]
  refine hQ _ _ ?_
  clear hQ hA
  repeat (first | refine WK.seq ?_ | refine WK.block ?_ | refine WK.inBlock ?_ | refine WK.skip ?_ | refine WK.label ?_ | refine WK.scope ?_ | refine WK.inScope ?_ | refine WK.exit rfl ?_)
  refine WK.ret Tryz.func92 (by simp (maxDischargeDepth := 120) [Tryz.results92, Tern.enc, Tern.clean]) (by simp [Tern.enc, Tern.clean])
theorem unlike_c (a b m : Wide) : FnP Tryz.prog 135 [.agg a.enc, .agg b.enc, .agg m.enc] (.agg ((a.xor b).and m).enc) := by
  refine FnP.intro Tryz.func135 rfl rfl fun G w => ?_
  repeat (first | refine WK.seq ?_ | refine WK.block ?_ | refine WK.inBlock ?_ | refine WK.skip ?_ | refine WK.label ?_ | refine WK.scope ?_ | refine WK.inScope ?_ | refine WK.exit rfl ?_)
  first | refine WK.reg 100 Tryz.ntmps135 (by kernel_rfl) ?_ | refine WK.regD 100 clsOf (by kernel_rfl) Tryz.ntmps135 (by kernel_rfl) (by kernel_rfl) ?_
  intro A hA Q hQ
  simp
  refine hQ _ _ ?_
  clear hQ hA
  repeat (first | refine WK.seq ?_ | refine WK.block ?_ | refine WK.inBlock ?_ | refine WK.skip ?_ | refine WK.label ?_ | refine WK.scope ?_ | refine WK.inScope ?_ | refine WK.exit rfl ?_)
  first | refine WK.reg 200 Tryz.ntmps135 (by kernel_rfl) ?_ | refine WK.regD 200 clsOf (by kernel_rfl) Tryz.ntmps135 (by kernel_rfl) (by kernel_rfl) ?_
  intro A hA Q hQ
  simp
  refine RunQ.call rfl rfl rfl rfl (by rfl) (by simp (maxDischargeDepth := 120)) (xor_c a b) (by simp) ?_
  refine RunQ.eval ?_
  simp
  refine RunQ.call rfl rfl rfl rfl (by rfl) (by simp (maxDischargeDepth := 120)) (and_c (a.xor b) m) (by simp) ?_
  refine RunQ.eval ?_
  simp
  refine hQ _ _ ?_
  clear hQ hA
  repeat (first | refine WK.seq ?_ | refine WK.block ?_ | refine WK.inBlock ?_ | refine WK.skip ?_ | refine WK.label ?_ | refine WK.scope ?_ | refine WK.inScope ?_ | refine WK.exit rfl ?_)
  refine WK.ret Tryz.func135 (by simp (maxDischargeDepth := 120) [Tryz.results135]) (by simp)
theorem has_c (t : Tern) (v : Wide) : FnP Tryz.prog 109 [.agg t.enc, .agg v.enc] (.bool (t.has v)) := by
  refine FnP.intro Tryz.func109 rfl rfl fun G w => ?_
  repeat (first | refine WK.seq ?_ | refine WK.block ?_ | refine WK.inBlock ?_ | refine WK.skip ?_ | refine WK.label ?_ | refine WK.scope ?_ | refine WK.inScope ?_ | refine WK.exit rfl ?_)
  first | refine WK.reg 100 Tryz.ntmps109 (by kernel_rfl) ?_ | refine WK.regD 100 clsOf (by kernel_rfl) Tryz.ntmps109 (by kernel_rfl) (by kernel_rfl) ?_
  intro A hA Q hQ
  simp
  refine hQ _ _ ?_
  clear hQ hA
  repeat (first | refine WK.seq ?_ | refine WK.block ?_ | refine WK.inBlock ?_ | refine WK.skip ?_ | refine WK.label ?_ | refine WK.scope ?_ | refine WK.inScope ?_ | refine WK.exit rfl ?_)
  first | refine WK.reg 200 Tryz.ntmps109 (by kernel_rfl) ?_ | refine WK.regD 200 clsOf (by kernel_rfl) Tryz.ntmps109 (by kernel_rfl) (by kernel_rfl) ?_
  intro A hA Q hQ
  simp [Tern.enc]
  refine RunQ.call rfl rfl rfl rfl (by rfl) (by simp (maxDischargeDepth := 120) [Wide.enc]) (unlike_c t.value v t.mask) (by simp [Wide.enc]) ?_
  refine RunQ.eval ?_
  simp [Wide.enc]
  refine RunQ.call rfl rfl rfl rfl (by rfl) (by simp (maxDischargeDepth := 120) [Wide.enc]) (zero_c ((t.value.xor v).and t.mask)) (by simp [Wide.enc]) ?_
  refine RunQ.eval ?_
  simp [Wide.enc]
  refine hQ _ _ ?_
  clear hQ hA
  repeat (first | refine WK.seq ?_ | refine WK.block ?_ | refine WK.inBlock ?_ | refine WK.skip ?_ | refine WK.label ?_ | refine WK.scope ?_ | refine WK.inScope ?_ | refine WK.exit rfl ?_)
  refine WK.ret Tryz.func109 (by simp (maxDischargeDepth := 120) [Tryz.results109, Tern.has]) (by simp [Tern.has])
theorem meet_c (a b : Tern) : FnP Tryz.prog 85 [.agg a.enc, .agg b.enc] (.tup [.agg (if a.meetOk b then a.meet b else ternZ).enc, .bool (a.meetOk b)]) := by
  refine FnP.intro Tryz.func85 rfl rfl fun G w => ?_
  repeat (first | refine WK.seq ?_ | refine WK.block ?_ | refine WK.inBlock ?_ | refine WK.skip ?_ | refine WK.label ?_ | refine WK.scope ?_ | refine WK.inScope ?_ | refine WK.exit rfl ?_)
  first | refine WK.reg 100 Tryz.ntmps85 (by kernel_rfl) ?_ | refine WK.regD 100 clsOf (by kernel_rfl) Tryz.ntmps85 (by kernel_rfl) (by kernel_rfl) ?_
  intro A hA Q hQ
  simp
  refine hQ _ _ ?_
  clear hQ hA
  repeat (first | refine WK.seq ?_ | refine WK.block ?_ | refine WK.inBlock ?_ | refine WK.skip ?_ | refine WK.label ?_ | refine WK.scope ?_ | refine WK.inScope ?_ | refine WK.exit rfl ?_)
  first | refine WK.reg 200 Tryz.ntmps85 (by kernel_rfl) ?_ | refine WK.regD 200 clsOf (by kernel_rfl) Tryz.ntmps85 (by kernel_rfl) (by kernel_rfl) ?_
  intro A hA Q hQ
  simp [Tern.enc]
  refine RunQ.call rfl rfl rfl rfl (by rfl) (by simp (maxDischargeDepth := 120) [Wide.enc]) (and_c a.mask b.mask) (by simp [Wide.enc]) ?_
  refine RunQ.eval ?_
  simp [Wide.enc]
  refine RunQ.call rfl rfl rfl rfl (by rfl) (by simp (maxDischargeDepth := 120) [Wide.enc, Tern.enc]) (has_c ⟨a.value, a.mask.and b.mask⟩ b.value) (by simp [Wide.enc, Tern.enc]) ?_
  refine RunQ.eval ?_
  simp [Wide.enc, Tern.enc]
  refine hQ _ _ ?_
  clear hQ hA
  have e : Tern.has ⟨a.value, a.mask.and b.mask⟩ b.value = a.meetOk b := rfl
  simp only [e]
  repeat (first | refine WK.seq ?_ | refine WK.block ?_ | refine WK.inBlock ?_ | refine WK.skip ?_ | refine WK.label ?_ | refine WK.scope ?_ | refine WK.inScope ?_ | refine WK.exit rfl ?_)
  refine WK.cond2 rfl (fun h => ?_) (fun h => ?_)
  · repeat (first | refine WK.seq ?_ | refine WK.block ?_ | refine WK.inBlock ?_ | refine WK.skip ?_ | refine WK.label ?_ | refine WK.scope ?_ | refine WK.inScope ?_ | refine WK.exit rfl ?_)
    first | refine WK.reg 300 Tryz.ntmps85 (by kernel_rfl) ?_ | refine WK.regD 300 clsOf (by kernel_rfl) Tryz.ntmps85 (by kernel_rfl) (by kernel_rfl) ?_
    intro A hA Q hQ
    simp
    refine hQ _ _ ?_
    clear hQ hA
    simp at h
    repeat (first | refine WK.seq ?_ | refine WK.block ?_ | refine WK.inBlock ?_ | refine WK.skip ?_ | refine WK.label ?_ | refine WK.scope ?_ | refine WK.inScope ?_ | refine WK.exit rfl ?_)
    refine WK.ret Tryz.func85 (by simp (maxDischargeDepth := 120) [Tryz.results85, h, Tern.enc, ternZ, wideZ, uI_zero]) (by simp [h, Tern.enc, ternZ, wideZ, uI_zero])
  · simp at h
    repeat (first | refine WK.seq ?_ | refine WK.block ?_ | refine WK.inBlock ?_ | refine WK.skip ?_ | refine WK.label ?_ | refine WK.scope ?_ | refine WK.inScope ?_ | refine WK.exit rfl ?_)
    first | refine WK.reg 400 Tryz.ntmps85 (by kernel_rfl) ?_ | refine WK.regD 400 clsOf (by kernel_rfl) Tryz.ntmps85 (by kernel_rfl) (by kernel_rfl) ?_
    intro A hA Q hQ
    simp [Tern.enc]
    refine RunQ.call rfl rfl rfl rfl (by rfl) (by simp (maxDischargeDepth := 120) [Tern.enc]) (clean_c a) (by simp [Tern.enc]) ?_
    refine RunQ.eval ?_
    simp [Tern.enc]
    refine RunQ.call rfl rfl rfl rfl (by rfl) (by simp (maxDischargeDepth := 120) [Tern.enc]) (clean_c b) (by simp [Tern.enc]) ?_
    refine RunQ.eval ?_
    simp [Tern.enc]
    refine hQ _ _ ?_
    clear hQ hA
    repeat (first | refine WK.seq ?_ | refine WK.block ?_ | refine WK.inBlock ?_ | refine WK.skip ?_ | refine WK.label ?_ | refine WK.scope ?_ | refine WK.inScope ?_ | refine WK.exit rfl ?_)
    first | refine WK.reg 500 Tryz.ntmps85 (by kernel_rfl) ?_ | refine WK.regD 500 clsOf (by kernel_rfl) Tryz.ntmps85 (by kernel_rfl) (by kernel_rfl) ?_
    intro A hA Q hQ
    simp [Tern.enc]
    refine RunQ.call rfl rfl rfl rfl (by rfl) (by simp (maxDischargeDepth := 120) [Wide.enc]) (or_c a.clean.value b.clean.value) (by simp [Wide.enc]) ?_
    refine RunQ.eval ?_
    simp [Wide.enc]
    refine RunQ.call rfl rfl rfl rfl (by rfl) (by simp (maxDischargeDepth := 120) [Wide.enc, Tern.clean]) (or_c a.mask b.mask) (by simp [Wide.enc, Tern.clean]) ?_
    refine RunQ.eval ?_
    simp [Wide.enc, Tern.clean]
    refine hQ _ _ ?_
    clear hQ hA
    repeat (first | refine WK.seq ?_ | refine WK.block ?_ | refine WK.inBlock ?_ | refine WK.skip ?_ | refine WK.label ?_ | refine WK.scope ?_ | refine WK.inScope ?_ | refine WK.exit rfl ?_)
    refine WK.ret Tryz.func85 (by simp (maxDischargeDepth := 120) [Tryz.results85, h, Tern.meet, Tern.enc, Tern.clean]) (by simp [h, Tern.meet, Tern.enc, Tern.clean])
theorem rmeet_c (a b : Tern) : FnP Tryz.prog 88 [.agg a.enc, .agg b.enc] (.tup [.agg (if a.meetOk b then a.meet b else ternZ).enc, .bool (a.meetOk b)]) := by
  refine FnP.intro Tryz.func88 rfl rfl fun G w => ?_
  repeat (first | refine WK.seq ?_ | refine WK.block ?_ | refine WK.inBlock ?_ | refine WK.skip ?_ | refine WK.label ?_ | refine WK.scope ?_ | refine WK.inScope ?_ | refine WK.exit rfl ?_)
  first | refine WK.reg 100 Tryz.ntmps88 (by kernel_rfl) ?_ | refine WK.regD 100 clsOf (by kernel_rfl) Tryz.ntmps88 (by kernel_rfl) (by kernel_rfl) ?_
  intro A hA Q hQ
  simp
  refine hQ _ _ ?_
  clear hQ hA
  repeat (first | refine WK.seq ?_ | refine WK.block ?_ | refine WK.inBlock ?_ | refine WK.skip ?_ | refine WK.label ?_ | refine WK.scope ?_ | refine WK.inScope ?_ | refine WK.exit rfl ?_)
  first | refine WK.reg 200 Tryz.ntmps88 (by kernel_rfl) ?_ | refine WK.regD 200 clsOf (by kernel_rfl) Tryz.ntmps88 (by kernel_rfl) (by kernel_rfl) ?_
  intro A hA Q hQ
  simp [Tern.enc]
  refine RunQ.call rfl rfl rfl rfl (by rfl) (by simp (maxDischargeDepth := 120) [Wide.enc]) (rand_c a.mask b.mask) (by simp [Wide.enc]) ?_
  refine RunQ.eval ?_
  simp [Wide.enc]
  refine hQ _ _ ?_
  clear hQ hA
  repeat (first | refine WK.seq ?_ | refine WK.block ?_ | refine WK.inBlock ?_ | refine WK.skip ?_ | refine WK.label ?_ | refine WK.scope ?_ | refine WK.inScope ?_ | refine WK.exit rfl ?_)
  first | refine WK.reg 300 Tryz.ntmps88 (by kernel_rfl) ?_ | refine WK.regD 300 clsOf (by kernel_rfl) Tryz.ntmps88 (by kernel_rfl) (by kernel_rfl) ?_
  intro A hA Q hQ
  simp [Tern.enc]
  refine RunQ.call rfl rfl rfl rfl (by rfl) (by simp (maxDischargeDepth := 120) [Wide.enc]) (rxor_c a.value b.value) (by simp [Wide.enc]) ?_
  refine RunQ.eval ?_
  simp [Wide.enc]
  refine RunQ.call rfl rfl rfl rfl (by rfl) (by simp (maxDischargeDepth := 120) [Wide.enc]) (rand_c (a.value.xor b.value) (a.mask.and b.mask)) (by simp [Wide.enc]) ?_
  refine RunQ.eval ?_
  simp [Wide.enc]
  refine RunQ.call rfl rfl rfl rfl (by rfl) (by simp (maxDischargeDepth := 120) [Wide.enc]) (rzero_c ((a.value.xor b.value).and (a.mask.and b.mask))) (by simp [Wide.enc]) ?_
  refine RunQ.eval ?_
  simp [Wide.enc]
  refine hQ _ _ ?_
  clear hQ hA
  have e : ((a.value.xor b.value).and (a.mask.and b.mask)).zero = a.meetOk b := rfl
  simp only [e]
  repeat (first | refine WK.seq ?_ | refine WK.block ?_ | refine WK.inBlock ?_ | refine WK.skip ?_ | refine WK.label ?_ | refine WK.scope ?_ | refine WK.inScope ?_ | refine WK.exit rfl ?_)
  refine WK.cond2 rfl (fun h => ?_) (fun h => ?_)
  · repeat (first | refine WK.seq ?_ | refine WK.block ?_ | refine WK.inBlock ?_ | refine WK.skip ?_ | refine WK.label ?_ | refine WK.scope ?_ | refine WK.inScope ?_ | refine WK.exit rfl ?_)
    first | refine WK.reg 400 Tryz.ntmps88 (by kernel_rfl) ?_ | refine WK.regD 400 clsOf (by kernel_rfl) Tryz.ntmps88 (by kernel_rfl) (by kernel_rfl) ?_
    intro A hA Q hQ
    simp
    refine hQ _ _ ?_
    clear hQ hA
    simp at h
    repeat (first | refine WK.seq ?_ | refine WK.block ?_ | refine WK.inBlock ?_ | refine WK.skip ?_ | refine WK.label ?_ | refine WK.scope ?_ | refine WK.inScope ?_ | refine WK.exit rfl ?_)
    refine WK.ret Tryz.func88 (by simp (maxDischargeDepth := 120) [Tryz.results88, h, Tern.enc, ternZ, wideZ, uI_zero]) (by simp [h, Tern.enc, ternZ, wideZ, uI_zero])
  · simp at h
    repeat (first | refine WK.seq ?_ | refine WK.block ?_ | refine WK.inBlock ?_ | refine WK.skip ?_ | refine WK.label ?_ | refine WK.scope ?_ | refine WK.inScope ?_ | refine WK.exit rfl ?_)
    first | refine WK.reg 500 Tryz.ntmps88 (by kernel_rfl) ?_ | refine WK.regD 500 clsOf (by kernel_rfl) Tryz.ntmps88 (by kernel_rfl) (by kernel_rfl) ?_
    intro A hA Q hQ
    simp [Tern.enc]
    refine RunQ.call rfl rfl rfl rfl (by rfl) (by simp (maxDischargeDepth := 120) [Tern.enc]) (rclean_c a) (by simp [Tern.enc]) ?_
    refine RunQ.eval ?_
    simp [Tern.enc]
    refine RunQ.call rfl rfl rfl rfl (by rfl) (by simp (maxDischargeDepth := 120) [Tern.enc]) (rclean_c b) (by simp [Tern.enc]) ?_
    refine RunQ.eval ?_
    simp [Tern.enc]
    refine hQ _ _ ?_
    clear hQ hA
    repeat (first | refine WK.seq ?_ | refine WK.block ?_ | refine WK.inBlock ?_ | refine WK.skip ?_ | refine WK.label ?_ | refine WK.scope ?_ | refine WK.inScope ?_ | refine WK.exit rfl ?_)
    first | refine WK.reg 600 Tryz.ntmps88 (by kernel_rfl) ?_ | refine WK.regD 600 clsOf (by kernel_rfl) Tryz.ntmps88 (by kernel_rfl) (by kernel_rfl) ?_
    intro A hA Q hQ
    simp [Tern.enc]
    refine RunQ.call rfl rfl rfl rfl (by rfl) (by simp (maxDischargeDepth := 120) [Wide.enc]) (ror_c a.clean.value b.clean.value) (by simp [Wide.enc]) ?_
    refine RunQ.eval ?_
    simp [Wide.enc]
    refine RunQ.call rfl rfl rfl rfl (by rfl) (by simp (maxDischargeDepth := 120) [Wide.enc, Tern.clean]) (ror_c a.mask b.mask) (by simp [Wide.enc, Tern.clean]) ?_
    refine RunQ.eval ?_
    simp [Wide.enc, Tern.clean]
    refine hQ _ _ ?_
    clear hQ hA
    repeat (first | refine WK.seq ?_ | refine WK.block ?_ | refine WK.inBlock ?_ | refine WK.skip ?_ | refine WK.label ?_ | refine WK.scope ?_ | refine WK.inScope ?_ | refine WK.exit rfl ?_)
    refine WK.ret Tryz.func88 (by simp (maxDischargeDepth := 120) [Tryz.results88, h, Tern.meet, Tern.enc, Tern.clean]) (by simp [h, Tern.meet, Tern.enc, Tern.clean])
theorem within_c (a b : Tern) : FnP Tryz.prog 140 [.agg a.enc, .agg b.enc] (.bool (a.within b)) := by
  cases hz : (b.mask.less a.mask).zero
  · refine FnP.intro Tryz.func140 rfl rfl fun G w => ?_
    repeat (first | refine WK.seq ?_ | refine WK.block ?_ | refine WK.inBlock ?_ | refine WK.skip ?_ | refine WK.label ?_ | refine WK.scope ?_ | refine WK.inScope ?_ | refine WK.exit rfl ?_)
    first | refine WK.reg 100 Tryz.ntmps140 (by kernel_rfl) ?_ | refine WK.regD 100 clsOf (by kernel_rfl) Tryz.ntmps140 (by kernel_rfl) (by kernel_rfl) ?_
    intro A hA Q hQ
    simp
    refine hQ _ _ ?_
    clear hQ hA
    repeat (first | refine WK.seq ?_ | refine WK.block ?_ | refine WK.inBlock ?_ | refine WK.skip ?_ | refine WK.label ?_ | refine WK.scope ?_ | refine WK.inScope ?_ | refine WK.exit rfl ?_)
    first | refine WK.reg 200 Tryz.ntmps140 (by kernel_rfl) ?_ | refine WK.regD 200 clsOf (by kernel_rfl) Tryz.ntmps140 (by kernel_rfl) (by kernel_rfl) ?_
    intro A hA Q hQ
    have hg6 : (A[6]?).bind (·.dst) = some 11 := by rw [hA]; rfl
    simp [Tern.enc, hg6]
    refine RunQ.call rfl rfl rfl rfl (by rfl) (by simp (maxDischargeDepth := 120) [Wide.enc]) (less_c b.mask a.mask) (by simp [Wide.enc]) ?_
    refine RunQ.eval ?_
    simp [Wide.enc]
    refine RunQ.call rfl rfl rfl rfl (by rfl) (by simp (maxDischargeDepth := 120) [hz, hg6, Wide.enc]) (zero_c (b.mask.less a.mask)) (by simp [hz, hg6, Wide.enc]) ?_
    refine RunQ.eval ?_
    simp [hz, hg6, Wide.enc]
    refine hQ _ _ ?_
    clear hQ hA
    repeat (first | refine WK.seq ?_ | refine WK.block ?_ | refine WK.inBlock ?_ | refine WK.skip ?_ | refine WK.label ?_ | refine WK.scope ?_ | refine WK.inScope ?_ | refine WK.exit rfl ?_)
    refine WK.ret Tryz.func140 (by simp (maxDischargeDepth := 120) [Tryz.results140, Tern.within, hz]) (by simp [Tern.within, hz])
  · refine FnP.intro Tryz.func140 rfl rfl fun G w => ?_
    repeat (first | refine WK.seq ?_ | refine WK.block ?_ | refine WK.inBlock ?_ | refine WK.skip ?_ | refine WK.label ?_ | refine WK.scope ?_ | refine WK.inScope ?_ | refine WK.exit rfl ?_)
    first | refine WK.reg 100 Tryz.ntmps140 (by kernel_rfl) ?_ | refine WK.regD 100 clsOf (by kernel_rfl) Tryz.ntmps140 (by kernel_rfl) (by kernel_rfl) ?_
    intro A hA Q hQ
    simp
    refine hQ _ _ ?_
    clear hQ hA
    repeat (first | refine WK.seq ?_ | refine WK.block ?_ | refine WK.inBlock ?_ | refine WK.skip ?_ | refine WK.label ?_ | refine WK.scope ?_ | refine WK.inScope ?_ | refine WK.exit rfl ?_)
    first | refine WK.reg 200 Tryz.ntmps140 (by kernel_rfl) ?_ | refine WK.regD 200 clsOf (by kernel_rfl) Tryz.ntmps140 (by kernel_rfl) (by kernel_rfl) ?_
    intro A hA Q hQ
    have hg6 : (A[6]?).bind (·.dst) = some 11 := by rw [hA]; rfl
    simp [Tern.enc, hg6]
    refine RunQ.call rfl rfl rfl rfl (by rfl) (by simp (maxDischargeDepth := 120) [Wide.enc]) (less_c b.mask a.mask) (by simp [Wide.enc]) ?_
    refine RunQ.eval ?_
    simp [Wide.enc]
    refine RunQ.call rfl rfl rfl rfl (by rfl) (by simp (maxDischargeDepth := 120) [hz, hg6, Wide.enc]) (zero_c (b.mask.less a.mask)) (by simp [hz, hg6, Wide.enc]) ?_
    refine RunQ.eval ?_
    simp [hz, hg6, Wide.enc]
    refine RunQ.callG rfl rfl (by simp [hg6, Tern.enc, Wide.enc]) rfl (by rfl) (by simp (maxDischargeDepth := 120) [hg6, Tern.enc, Wide.enc]) (has_c b a.value) (by simp [hg6, Tern.enc, Wide.enc]) ?_
    refine RunQ.eval ?_
    simp [hg6, Tern.enc, Wide.enc]
    refine hQ _ _ ?_
    clear hQ hA
    repeat (first | refine WK.seq ?_ | refine WK.block ?_ | refine WK.inBlock ?_ | refine WK.skip ?_ | refine WK.label ?_ | refine WK.scope ?_ | refine WK.inScope ?_ | refine WK.exit rfl ?_)
    refine WK.ret Tryz.func140 (by simp (maxDischargeDepth := 120) [Tryz.results140, Tern.within, hz]) (by simp [Tern.within, hz])
theorem rwithin_c (a b : Tern) : FnP Tryz.prog 91 [.agg a.enc, .agg b.enc] (.bool (a.within b)) := by
  have e : Tern.has b a.value = ((a.value.xor b.value).and b.mask).zero := by
    unfold Tern.has; rw [Wide.xor_comm]
  cases hz : (b.mask.less a.mask).zero
  · refine FnP.intro Tryz.func91 rfl rfl fun G w => ?_
    repeat (first | refine WK.seq ?_ | refine WK.block ?_ | refine WK.inBlock ?_ | refine WK.skip ?_ | refine WK.label ?_ | refine WK.scope ?_ | refine WK.inScope ?_ | refine WK.exit rfl ?_)
    first | refine WK.reg 100 Tryz.ntmps91 (by kernel_rfl) ?_ | refine WK.regD 100 clsOf (by kernel_rfl) Tryz.ntmps91 (by kernel_rfl) (by kernel_rfl) ?_
    intro A hA Q hQ
    simp
    refine hQ _ _ ?_
    clear hQ hA
    repeat (first | refine WK.seq ?_ | refine WK.block ?_ | refine WK.inBlock ?_ | refine WK.skip ?_ | refine WK.label ?_ | refine WK.scope ?_ | refine WK.inScope ?_ | refine WK.exit rfl ?_)
    first | refine WK.reg 200 Tryz.ntmps91 (by kernel_rfl) ?_ | refine WK.regD 200 clsOf (by kernel_rfl) Tryz.ntmps91 (by kernel_rfl) (by kernel_rfl) ?_
    intro A hA Q hQ
    have hg6 : (A[6]?).bind (·.dst) = some 11 := by rw [hA]; rfl
    simp [Tern.enc, hg6]
    refine RunQ.call rfl rfl rfl rfl (by rfl) (by simp (maxDischargeDepth := 120) [Wide.enc]) (rless_c b.mask a.mask) (by simp [Wide.enc]) ?_
    refine RunQ.eval ?_
    simp [Wide.enc]
    refine RunQ.call rfl rfl rfl rfl (by rfl) (by simp (maxDischargeDepth := 120) [hz, hg6, Wide.enc]) (rzero_c (b.mask.less a.mask)) (by simp [hz, hg6, Wide.enc]) ?_
    refine RunQ.eval ?_
    simp [hz, hg6, Wide.enc]
    refine hQ _ _ ?_
    clear hQ hA
    repeat (first | refine WK.seq ?_ | refine WK.block ?_ | refine WK.inBlock ?_ | refine WK.skip ?_ | refine WK.label ?_ | refine WK.scope ?_ | refine WK.inScope ?_ | refine WK.exit rfl ?_)
    refine WK.ret Tryz.func91 (by simp (maxDischargeDepth := 120) [Tryz.results91, Tern.within, hz]) (by simp [Tern.within, hz])
  · refine FnP.intro Tryz.func91 rfl rfl fun G w => ?_
    repeat (first | refine WK.seq ?_ | refine WK.block ?_ | refine WK.inBlock ?_ | refine WK.skip ?_ | refine WK.label ?_ | refine WK.scope ?_ | refine WK.inScope ?_ | refine WK.exit rfl ?_)
    first | refine WK.reg 100 Tryz.ntmps91 (by kernel_rfl) ?_ | refine WK.regD 100 clsOf (by kernel_rfl) Tryz.ntmps91 (by kernel_rfl) (by kernel_rfl) ?_
    intro A hA Q hQ
    simp
    refine hQ _ _ ?_
    clear hQ hA
    repeat (first | refine WK.seq ?_ | refine WK.block ?_ | refine WK.inBlock ?_ | refine WK.skip ?_ | refine WK.label ?_ | refine WK.scope ?_ | refine WK.inScope ?_ | refine WK.exit rfl ?_)
    first | refine WK.reg 200 Tryz.ntmps91 (by kernel_rfl) ?_ | refine WK.regD 200 clsOf (by kernel_rfl) Tryz.ntmps91 (by kernel_rfl) (by kernel_rfl) ?_
    intro A hA Q hQ
    have hg6 : (A[6]?).bind (·.dst) = some 11 := by rw [hA]; rfl
    simp [Tern.enc, hg6]
    refine RunQ.call rfl rfl rfl rfl (by rfl) (by simp (maxDischargeDepth := 120) [Wide.enc]) (rless_c b.mask a.mask) (by simp [Wide.enc]) ?_
    refine RunQ.eval ?_
    simp [Wide.enc]
    refine RunQ.call rfl rfl rfl rfl (by rfl) (by simp (maxDischargeDepth := 120) [hz, hg6, Wide.enc]) (rzero_c (b.mask.less a.mask)) (by simp [hz, hg6, Wide.enc]) ?_
    refine RunQ.eval ?_
    simp [hz, hg6, Wide.enc]
    refine RunQ.callG rfl rfl (by simp [hg6, Tern.enc, Wide.enc]) rfl (by rfl) (by simp (maxDischargeDepth := 120) [hg6, Tern.enc, Wide.enc]) (rxor_c a.value b.value) (by simp [hg6, Tern.enc, Wide.enc]) ?_
    refine RunQ.eval ?_
    simp [hg6, Tern.enc, Wide.enc]
    refine RunQ.callG rfl rfl (by simp [hg6, Tern.enc, Wide.enc]) rfl (by rfl) (by simp (maxDischargeDepth := 120) [hg6, Tern.enc, Wide.enc]) (rand_c (a.value.xor b.value) b.mask) (by simp [hg6, Tern.enc, Wide.enc]) ?_
    refine RunQ.eval ?_
    simp [hg6, Tern.enc, Wide.enc]
    refine RunQ.callG rfl rfl (by simp [hg6, Wide.enc]) rfl (by rfl) (by simp (maxDischargeDepth := 120) [hg6, Wide.enc]) (rzero_c ((a.value.xor b.value).and b.mask)) (by simp [hg6, Wide.enc]) ?_
    refine RunQ.eval ?_
    simp [hg6, Wide.enc]
    refine hQ _ _ ?_
    clear hQ hA
    repeat (first | refine WK.seq ?_ | refine WK.block ?_ | refine WK.inBlock ?_ | refine WK.skip ?_ | refine WK.label ?_ | refine WK.scope ?_ | refine WK.inScope ?_ | refine WK.exit rfl ?_)
    refine WK.ret Tryz.func91 (by simp (maxDischargeDepth := 120) [Tryz.results91, Tern.within, hz, e]) (by simp [Tern.within, hz, e])
end Go.Proofs.YtbncoeoamjcjjaaGreat
