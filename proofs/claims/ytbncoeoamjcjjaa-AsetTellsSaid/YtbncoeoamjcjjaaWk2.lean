/- Cubes by closures, the table of the fields, and what matches make of headers. -/
import Derived.Test.YtbncoeoamjcjjaaWk1
import Derived.Test.YtbncoeoamjcjjaaAf
import Derived.Test.YtbncoeoamjcjjaaDa
set_option linter.all false
set_option linter.unnecessarySimpa false
section
set_option linter.unusedVariables false
set_option linter.unusedSimpArgs false
namespace Go.Proofs.Ytbncoeoamjcjjaa
open Go Go.AI Go.Proofs

theorem fright_c (f : Int) : FnP Try.prog 78 [.int .i64 f] (.bool (fRight f)) := by
  cases h : decide (f ≥ 0)
  all_goals
    refine FnP.intro Try.func78 rfl rfl fun G w => ?_
    repeat (first | refine WK.seq ?_ | refine WK.block ?_ | refine WK.inBlock ?_ | refine WK.skip ?_ | refine WK.label ?_ | refine WK.scope ?_ | refine WK.inScope ?_ | refine WK.exit rfl ?_)
    first | refine WK.reg 100 Try.ntmps78 (by kernel_rfl) ?_ | refine WK.regD 100 clsOf (by kernel_rfl) Try.ntmps78 (by kernel_rfl) (by kernel_rfl) ?_
    intro A hA Q hQ
    simp
    refine hQ _ _ ?_
    clear hQ hA
    repeat (first | refine WK.seq ?_ | refine WK.block ?_ | refine WK.inBlock ?_ | refine WK.skip ?_ | refine WK.label ?_ | refine WK.scope ?_ | refine WK.inScope ?_ | refine WK.exit rfl ?_)
    first | refine WK.reg 200 Try.ntmps78 (by kernel_rfl) ?_ | refine WK.regD 200 clsOf (by kernel_rfl) Try.ntmps78 (by kernel_rfl) (by kernel_rfl) ?_
    intro A hA Q hQ
    have hg2 : (A[2]?).bind (·.dst) = some 5 := by rw [hA]; rfl
    simp [h, hg2]
    refine hQ _ _ ?_
    clear hQ hA
    repeat (first | refine WK.seq ?_ | refine WK.block ?_ | refine WK.inBlock ?_ | refine WK.skip ?_ | refine WK.label ?_ | refine WK.scope ?_ | refine WK.inScope ?_ | refine WK.exit rfl ?_)
    refine WK.ret Try.func78 (by simp (maxDischargeDepth := 120) [Try.results78, fRight, h]) (by simp [fRight, h])
theorem rfright_c (f : Int) : FnP Try.prog 79 [.int .i64 f] (.bool (fRight f)) := by
  cases h : decide (f ≥ 0)
  all_goals
    refine FnP.intro Try.func79 rfl rfl fun G w => ?_
    repeat (first | refine WK.seq ?_ | refine WK.block ?_ | refine WK.inBlock ?_ | refine WK.skip ?_ | refine WK.label ?_ | refine WK.scope ?_ | refine WK.inScope ?_ | refine WK.exit rfl ?_)
    first | refine WK.reg 100 Try.ntmps79 (by kernel_rfl) ?_ | refine WK.regD 100 clsOf (by kernel_rfl) Try.ntmps79 (by kernel_rfl) (by kernel_rfl) ?_
    intro A hA Q hQ
    simp
    refine hQ _ _ ?_
    clear hQ hA
    repeat (first | refine WK.seq ?_ | refine WK.block ?_ | refine WK.inBlock ?_ | refine WK.skip ?_ | refine WK.label ?_ | refine WK.scope ?_ | refine WK.inScope ?_ | refine WK.exit rfl ?_)
    first | refine WK.reg 200 Try.ntmps79 (by kernel_rfl) ?_ | refine WK.regD 200 clsOf (by kernel_rfl) Try.ntmps79 (by kernel_rfl) (by kernel_rfl) ?_
    intro A hA Q hQ
    have hg2 : (A[2]?).bind (·.dst) = some 5 := by rw [hA]; rfl
    simp [h, hg2]
    refine hQ _ _ ?_
    clear hQ hA
    repeat (first | refine WK.seq ?_ | refine WK.block ?_ | refine WK.inBlock ?_ | refine WK.skip ?_ | refine WK.label ?_ | refine WK.scope ?_ | refine WK.inScope ?_ | refine WK.exit rfl ?_)
    refine WK.ret Try.func79 (by simp (maxDischargeDepth := 120) [Try.results79, fRight, h]) (by simp [fRight, h])
def rowsC : List AV := fRows.flatMap rowEnc
@[simp] theorem rowsC_len : rowsC.length = 96 := rfl
theorem rows_c : FnP Try.prog 197 [] (.agg rowsC) := by
  refine FnP.intro Try.func197 rfl rfl fun G w => ?_
  repeat (first | refine WK.seq ?_ | refine WK.block ?_ | refine WK.inBlock ?_ | refine WK.skip ?_ | refine WK.label ?_ | refine WK.scope ?_ | refine WK.inScope ?_ | refine WK.exit rfl ?_)
  first | refine WK.reg 100 Try.ntmps197 (by kernel_rfl) ?_ | refine WK.regD 100 clsOf (by kernel_rfl) Try.ntmps197 (by kernel_rfl) (by kernel_rfl) ?_
  intro A hA Q hQ
  simp
  refine hQ _ _ ?_
  clear hQ hA
  repeat (first | refine WK.seq ?_ | refine WK.block ?_ | refine WK.inBlock ?_ | refine WK.skip ?_ | refine WK.label ?_ | refine WK.scope ?_ | refine WK.inScope ?_ | refine WK.exit rfl ?_)
  first | refine WK.reg 200 Try.ntmps197 (by kernel_rfl) ?_ | refine WK.regD 200 clsOf (by kernel_rfl) Try.ntmps197 (by kernel_rfl) (by kernel_rfl) ?_
  intro A hA Q hQ
  simp
  refine hQ _ _ ?_
  clear hQ hA
  repeat (first | refine WK.seq ?_ | refine WK.block ?_ | refine WK.inBlock ?_ | refine WK.skip ?_ | refine WK.label ?_ | refine WK.scope ?_ | refine WK.inScope ?_ | refine WK.exit rfl ?_)
  refine WK.ret Try.func197 (by simp (maxDischargeDepth := 120) [Try.results197, rowsC, fRows, rowEnc]) (by simp [rowsC, fRows, rowEnc])
theorem rowEnc_len (r : Int × Int × Bool) : (rowEnc r).length = 4 := rfl
theorem row_sub (f : Int) (h : 0 ≤ f ∧ f < 24) : (rowsC.drop (f.toNat * 4)).take 4 = rowEnc (fRow f) := by
  unfold rowsC
  rw [fm_nth rowEnc_len _ _ (by show f.toNat < 24; omega)]
  unfold fRow; rw [if_pos h]
theorem fat_c (f : Int) : FnP Try.prog 168 [.int .i64 f] (.agg (rowEnc (fRow f))) := by
  refine FnP.intro Try.func168 rfl rfl fun G w => ?_
  repeat (first | refine WK.seq ?_ | refine WK.block ?_ | refine WK.inBlock ?_ | refine WK.skip ?_ | refine WK.label ?_ | refine WK.scope ?_ | refine WK.inScope ?_ | refine WK.exit rfl ?_)
  first | refine WK.reg 100 Try.ntmps168 (by kernel_rfl) ?_ | refine WK.regD 100 clsOf (by kernel_rfl) Try.ntmps168 (by kernel_rfl) (by kernel_rfl) ?_
  intro A hA Q hQ
  simp
  refine hQ _ _ ?_
  clear hQ hA
  repeat (first | refine WK.seq ?_ | refine WK.block ?_ | refine WK.inBlock ?_ | refine WK.skip ?_ | refine WK.label ?_ | refine WK.scope ?_ | refine WK.inScope ?_ | refine WK.exit rfl ?_)
  first | refine WK.reg 200 Try.ntmps168 (by kernel_rfl) ?_ | refine WK.regD 200 clsOf (by kernel_rfl) Try.ntmps168 (by kernel_rfl) (by kernel_rfl) ?_
  intro A hA Q hQ
  simp
  refine RunQ.call rfl rfl rfl rfl (by rfl) (by simp (maxDischargeDepth := 120)) (fright_c f) (by simp) ?_
  refine RunQ.eval ?_
  simp
  refine hQ _ _ ?_
  clear hQ hA
  repeat (first | refine WK.seq ?_ | refine WK.block ?_ | refine WK.inBlock ?_ | refine WK.skip ?_ | refine WK.label ?_ | refine WK.scope ?_ | refine WK.inScope ?_ | refine WK.exit rfl ?_)
  refine WK.cond2 rfl (fun h => ?_) (fun h => ?_)
  · simp [fRight] at h
    have h2 : fRow f = (-1, 0, false) := by unfold fRow; rw [if_neg (by omega)]
    repeat (first | refine WK.seq ?_ | refine WK.block ?_ | refine WK.inBlock ?_ | refine WK.skip ?_ | refine WK.label ?_ | refine WK.scope ?_ | refine WK.inScope ?_ | refine WK.exit rfl ?_)
    first | refine WK.reg 300 Try.ntmps168 (by kernel_rfl) ?_ | refine WK.regD 300 clsOf (by kernel_rfl) Try.ntmps168 (by kernel_rfl) (by kernel_rfl) ?_
    intro A hA Q hQ
    simp
    refine hQ _ _ ?_
    clear hQ hA
    repeat (first | refine WK.seq ?_ | refine WK.block ?_ | refine WK.inBlock ?_ | refine WK.skip ?_ | refine WK.label ?_ | refine WK.scope ?_ | refine WK.inScope ?_ | refine WK.exit rfl ?_)
    refine WK.ret Try.func168 (by simp (maxDischargeDepth := 120) [Try.results168, h2, rowEnc]) (by simp [h2, rowEnc])
  · simp [fRight] at h
    have h3 : f.toNat * 4 + 4 ≤ 96 := by omega
    repeat (first | refine WK.seq ?_ | refine WK.block ?_ | refine WK.inBlock ?_ | refine WK.skip ?_ | refine WK.label ?_ | refine WK.scope ?_ | refine WK.inScope ?_ | refine WK.exit rfl ?_)
    first | refine WK.reg 400 Try.ntmps168 (by kernel_rfl) ?_ | refine WK.regD 400 clsOf (by kernel_rfl) Try.ntmps168 (by kernel_rfl) (by kernel_rfl) ?_
    intro A hA Q hQ
    simp
    refine RunQ.call rfl rfl rfl rfl (by rfl) (by simp (maxDischargeDepth := 120) [h, h3, row_sub f h, rowEnc_len]) (rows_c) (by simp [h, h3, row_sub f h, rowEnc_len]) ?_
    refine RunQ.eval ?_
    simp [h, h3, row_sub f h, rowEnc_len]
    refine hQ _ _ ?_
    clear hQ hA
    repeat (first | refine WK.seq ?_ | refine WK.block ?_ | refine WK.inBlock ?_ | refine WK.skip ?_ | refine WK.label ?_ | refine WK.scope ?_ | refine WK.inScope ?_ | refine WK.exit rfl ?_)
    refine WK.ret Try.func168 (by simp (maxDischargeDepth := 120) [Try.results168, rowEnc]) (by simp [rowEnc])
theorem fbits_c (f : Int) : FnP Try.prog 150 [.int .i64 f] (.int .i64 (fBits f)) := by
  refine FnP.intro Try.func150 rfl rfl fun G w => ?_
  repeat (first | refine WK.seq ?_ | refine WK.block ?_ | refine WK.inBlock ?_ | refine WK.skip ?_ | refine WK.label ?_ | refine WK.scope ?_ | refine WK.inScope ?_ | refine WK.exit rfl ?_)
  first | refine WK.reg 100 Try.ntmps150 (by kernel_rfl) ?_ | refine WK.regD 100 clsOf (by kernel_rfl) Try.ntmps150 (by kernel_rfl) (by kernel_rfl) ?_
  intro A hA Q hQ
  simp
  refine hQ _ _ ?_
  clear hQ hA
  repeat (first | refine WK.seq ?_ | refine WK.block ?_ | refine WK.inBlock ?_ | refine WK.skip ?_ | refine WK.label ?_ | refine WK.scope ?_ | refine WK.inScope ?_ | refine WK.exit rfl ?_)
  first | refine WK.reg 200 Try.ntmps150 (by kernel_rfl) ?_ | refine WK.regD 200 clsOf (by kernel_rfl) Try.ntmps150 (by kernel_rfl) (by kernel_rfl) ?_
  intro A hA Q hQ
  simp
  refine RunQ.call rfl rfl rfl rfl (by rfl) (by simp (maxDischargeDepth := 120) [rowEnc]) (fat_c f) (by simp [rowEnc]) ?_
  refine RunQ.eval ?_
  simp [rowEnc]
  refine hQ _ _ ?_
  clear hQ hA
  repeat (first | refine WK.seq ?_ | refine WK.block ?_ | refine WK.inBlock ?_ | refine WK.skip ?_ | refine WK.label ?_ | refine WK.scope ?_ | refine WK.inScope ?_ | refine WK.exit rfl ?_)
  refine WK.ret Try.func150 (by simp (maxDischargeDepth := 120) [Try.results150, fBits]) (by simp [fBits])
theorem rup_c (f : Int) : FnP Try.prog 196 [.int .i64 f] (.tup [.junk, .int .i64 (rowUp f).1, .int .i64 (rowUp f).2.1, .bool (rowUp f).2.2]) := by
  unfold rowUp
  refine FnP.intro Try.func196 rfl rfl fun G w => ?_
  repeat (first | refine WK.seq ?_ | refine WK.block ?_ | refine WK.inBlock ?_ | refine WK.skip ?_ | refine WK.label ?_ | refine WK.scope ?_ | refine WK.inScope ?_ | refine WK.exit rfl ?_)
  first | refine WK.reg 100 Try.ntmps196 (by kernel_rfl) ?_ | refine WK.regD 100 clsOf (by kernel_rfl) Try.ntmps196 (by kernel_rfl) (by kernel_rfl) ?_
  intro A hA Q hQ
  simp
  refine hQ _ _ ?_
  clear hQ hA
  repeat (first | refine WK.seq ?_ | refine WK.block ?_ | refine WK.inBlock ?_ | refine WK.skip ?_ | refine WK.label ?_ | refine WK.scope ?_ | refine WK.inScope ?_ | refine WK.exit rfl ?_)
  first | refine WK.reg 200 Try.ntmps196 (by kernel_rfl) ?_ | refine WK.regD 200 clsOf (by kernel_rfl) Try.ntmps196 (by kernel_rfl) (by kernel_rfl) ?_
  intro A hA Q hQ
  simp
  refine hQ _ _ ?_
  clear hQ hA
  iterate 12
    repeat (first | refine WK.seq ?_ | refine WK.block ?_ | refine WK.inBlock ?_ | refine WK.skip ?_ | refine WK.label ?_ | refine WK.scope ?_ | refine WK.inScope ?_ | refine WK.exit rfl ?_)
    first | refine WK.reg 300 Try.ntmps196 (by kernel_rfl) ?_ | refine WK.regD 300 clsOf (by kernel_rfl) Try.ntmps196 (by kernel_rfl) (by kernel_rfl) ?_
    intro A hA Q hQ
    simp
    refine hQ _ _ ?_
    clear hQ hA
    repeat (first | refine WK.seq ?_ | refine WK.block ?_ | refine WK.inBlock ?_ | refine WK.skip ?_ | refine WK.label ?_ | refine WK.scope ?_ | refine WK.inScope ?_ | refine WK.exit rfl ?_)
    refine WK.cond2 rfl (fun h => ?_) (fun h => ?_)
    · simp at h
      repeat (first | refine WK.seq ?_ | refine WK.block ?_ | refine WK.inBlock ?_ | refine WK.skip ?_ | refine WK.label ?_ | refine WK.scope ?_ | refine WK.inScope ?_ | refine WK.exit rfl ?_)
      first | refine WK.reg 400 Try.ntmps196 (by kernel_rfl) ?_ | refine WK.regD 400 clsOf (by kernel_rfl) Try.ntmps196 (by kernel_rfl) (by kernel_rfl) ?_
      intro A hA Q hQ
      simp
      refine hQ _ _ ?_
      clear hQ hA
      repeat (first | refine WK.seq ?_ | refine WK.block ?_ | refine WK.inBlock ?_ | refine WK.skip ?_ | refine WK.label ?_ | refine WK.scope ?_ | refine WK.inScope ?_ | refine WK.exit rfl ?_)
      refine WK.ret Try.func196 (by simp (maxDischargeDepth := 120) [Try.results196, h]) (by simp [h])
    simp at h
  repeat (first | refine WK.seq ?_ | refine WK.block ?_ | refine WK.inBlock ?_ | refine WK.skip ?_ | refine WK.label ?_ | refine WK.scope ?_ | refine WK.inScope ?_ | refine WK.exit rfl ?_)
  first | refine WK.reg 500 Try.ntmps196 (by kernel_rfl) ?_ | refine WK.regD 500 clsOf (by kernel_rfl) Try.ntmps196 (by kernel_rfl) (by kernel_rfl) ?_
  intro A hA Q hQ
  simp
  refine hQ _ _ ?_
  clear hQ hA
  repeat (first | refine WK.seq ?_ | refine WK.block ?_ | refine WK.inBlock ?_ | refine WK.skip ?_ | refine WK.label ?_ | refine WK.scope ?_ | refine WK.inScope ?_ | refine WK.exit rfl ?_)
  refine WK.ret Try.func196 (by simp (maxDischargeDepth := 120) [Try.results196, *]) (by simp [*])
theorem rlow_c (f : Int) : FnP Try.prog 166 [.int .i64 f] (.tup [.junk, .int .i64 (fRow f).1, .int .i64 (fRow f).2.1, .bool (fRow f).2.2]) := by
  rw [← rowLow_eq]
  unfold rowLow
  refine FnP.intro Try.func166 rfl rfl fun G w => ?_
  repeat (first | refine WK.seq ?_ | refine WK.block ?_ | refine WK.inBlock ?_ | refine WK.skip ?_ | refine WK.label ?_ | refine WK.scope ?_ | refine WK.inScope ?_ | refine WK.exit rfl ?_)
  first | refine WK.reg 100 Try.ntmps166 (by kernel_rfl) ?_ | refine WK.regD 100 clsOf (by kernel_rfl) Try.ntmps166 (by kernel_rfl) (by kernel_rfl) ?_
  intro A hA Q hQ
  simp
  refine hQ _ _ ?_
  clear hQ hA
  repeat (first | refine WK.seq ?_ | refine WK.block ?_ | refine WK.inBlock ?_ | refine WK.skip ?_ | refine WK.label ?_ | refine WK.scope ?_ | refine WK.inScope ?_ | refine WK.exit rfl ?_)
  first | refine WK.reg 200 Try.ntmps166 (by kernel_rfl) ?_ | refine WK.regD 200 clsOf (by kernel_rfl) Try.ntmps166 (by kernel_rfl) (by kernel_rfl) ?_
  intro A hA Q hQ
  simp
  refine hQ _ _ ?_
  clear hQ hA
  iterate 12
    repeat (first | refine WK.seq ?_ | refine WK.block ?_ | refine WK.inBlock ?_ | refine WK.skip ?_ | refine WK.label ?_ | refine WK.scope ?_ | refine WK.inScope ?_ | refine WK.exit rfl ?_)
    first | refine WK.reg 300 Try.ntmps166 (by kernel_rfl) ?_ | refine WK.regD 300 clsOf (by kernel_rfl) Try.ntmps166 (by kernel_rfl) (by kernel_rfl) ?_
    intro A hA Q hQ
    simp
    refine hQ _ _ ?_
    clear hQ hA
    repeat (first | refine WK.seq ?_ | refine WK.block ?_ | refine WK.inBlock ?_ | refine WK.skip ?_ | refine WK.label ?_ | refine WK.scope ?_ | refine WK.inScope ?_ | refine WK.exit rfl ?_)
    refine WK.cond2 rfl (fun h => ?_) (fun h => ?_)
    · simp at h
      repeat (first | refine WK.seq ?_ | refine WK.block ?_ | refine WK.inBlock ?_ | refine WK.skip ?_ | refine WK.label ?_ | refine WK.scope ?_ | refine WK.inScope ?_ | refine WK.exit rfl ?_)
      first | refine WK.reg 400 Try.ntmps166 (by kernel_rfl) ?_ | refine WK.regD 400 clsOf (by kernel_rfl) Try.ntmps166 (by kernel_rfl) (by kernel_rfl) ?_
      intro A hA Q hQ
      simp
      refine hQ _ _ ?_
      clear hQ hA
      repeat (first | refine WK.seq ?_ | refine WK.block ?_ | refine WK.inBlock ?_ | refine WK.skip ?_ | refine WK.label ?_ | refine WK.scope ?_ | refine WK.inScope ?_ | refine WK.exit rfl ?_)
      refine WK.ret Try.func166 (by simp (maxDischargeDepth := 120) [Try.results166, h]) (by simp [h])
    simp at h
  repeat (first | refine WK.seq ?_ | refine WK.block ?_ | refine WK.inBlock ?_ | refine WK.skip ?_ | refine WK.label ?_ | refine WK.scope ?_ | refine WK.inScope ?_ | refine WK.exit rfl ?_)
  first | refine WK.reg 500 Try.ntmps166 (by kernel_rfl) ?_ | refine WK.regD 500 clsOf (by kernel_rfl) Try.ntmps166 (by kernel_rfl) (by kernel_rfl) ?_
  intro A hA Q hQ
  simp
  refine RunQ.call rfl rfl rfl rfl (by rfl) (by simp (maxDischargeDepth := 120)) (rup_c f) (by simp) ?_
  refine RunQ.eval ?_
  simp
  refine hQ _ _ ?_
  clear hQ hA
  repeat (first | refine WK.seq ?_ | refine WK.block ?_ | refine WK.inBlock ?_ | refine WK.skip ?_ | refine WK.label ?_ | refine WK.scope ?_ | refine WK.inScope ?_ | refine WK.exit rfl ?_)
  refine WK.ret Try.func166 (by simp (maxDischargeDepth := 120) [Try.results166, *]) (by simp [*])
theorem rfbits_c (f : Int) : FnP Try.prog 131 [.int .i64 f] (.int .i64 (fBits f)) := by
  refine FnP.intro Try.func131 rfl rfl fun G w => ?_
  repeat (first | refine WK.seq ?_ | refine WK.block ?_ | refine WK.inBlock ?_ | refine WK.skip ?_ | refine WK.label ?_ | refine WK.scope ?_ | refine WK.inScope ?_ | refine WK.exit rfl ?_)
  first | refine WK.reg 100 Try.ntmps131 (by kernel_rfl) ?_ | refine WK.regD 100 clsOf (by kernel_rfl) Try.ntmps131 (by kernel_rfl) (by kernel_rfl) ?_
  intro A hA Q hQ
  simp
  refine hQ _ _ ?_
  clear hQ hA
  repeat (first | refine WK.seq ?_ | refine WK.block ?_ | refine WK.inBlock ?_ | refine WK.skip ?_ | refine WK.label ?_ | refine WK.scope ?_ | refine WK.inScope ?_ | refine WK.exit rfl ?_)
  first | refine WK.reg 200 Try.ntmps131 (by kernel_rfl) ?_ | refine WK.regD 200 clsOf (by kernel_rfl) Try.ntmps131 (by kernel_rfl) (by kernel_rfl) ?_
  intro A hA Q hQ
  simp
  refine RunQ.call rfl rfl rfl rfl (by rfl) (by simp (maxDischargeDepth := 120)) (rlow_c f) (by simp) ?_
  refine RunQ.eval ?_
  simp
  refine hQ _ _ ?_
  clear hQ hA
  repeat (first | refine WK.seq ?_ | refine WK.block ?_ | refine WK.inBlock ?_ | refine WK.skip ?_ | refine WK.label ?_ | refine WK.scope ?_ | refine WK.inScope ?_ | refine WK.exit rfl ?_)
  first | refine WK.reg 300 Try.ntmps131 (by kernel_rfl) ?_ | refine WK.regD 300 clsOf (by kernel_rfl) Try.ntmps131 (by kernel_rfl) (by kernel_rfl) ?_
  intro A hA Q hQ
  simp
  refine hQ _ _ ?_
  clear hQ hA
  repeat (first | refine WK.seq ?_ | refine WK.block ?_ | refine WK.inBlock ?_ | refine WK.skip ?_ | refine WK.label ?_ | refine WK.scope ?_ | refine WK.inScope ?_ | refine WK.exit rfl ?_)
  refine WK.ret Try.func131 (by simp (maxDischargeDepth := 120) [Try.results131, fBits]) (by simp [fBits])
theorem low1_c (n : Int) : FnP Try.prog 153 [.int .i64 n] (.int .u64 (uI (low64 n))) := by
  refine FnP.intro Try.func153 rfl rfl fun G w => ?_
  repeat (first | refine WK.seq ?_ | refine WK.block ?_ | refine WK.inBlock ?_ | refine WK.skip ?_ | refine WK.label ?_ | refine WK.scope ?_ | refine WK.inScope ?_ | refine WK.exit rfl ?_)
  first | refine WK.reg 100 Try.ntmps153 (by kernel_rfl) ?_ | refine WK.regD 100 clsOf (by kernel_rfl) Try.ntmps153 (by kernel_rfl) (by kernel_rfl) ?_
  intro A hA Q hQ
  simp
  refine hQ _ _ ?_
  clear hQ hA
  repeat (first | refine WK.seq ?_ | refine WK.block ?_ | refine WK.inBlock ?_ | refine WK.skip ?_ | refine WK.label ?_ | refine WK.scope ?_ | refine WK.inScope ?_ | refine WK.exit rfl ?_)
  first | refine WK.reg 200 Try.ntmps153 (by kernel_rfl) ?_ | refine WK.regD 200 clsOf (by kernel_rfl) Try.ntmps153 (by kernel_rfl) (by kernel_rfl) ?_
  intro A hA Q hQ
  simp
  refine hQ _ _ ?_
  clear hQ hA
  repeat (first | refine WK.seq ?_ | refine WK.block ?_ | refine WK.inBlock ?_ | refine WK.skip ?_ | refine WK.label ?_ | refine WK.scope ?_ | refine WK.inScope ?_ | refine WK.exit rfl ?_)
  refine WK.cond2 rfl (fun h => ?_) (fun h => ?_)
  · simp at h
    have e : uI (low64 n) = 18446744073709551615 := by rw [low64_ge h]; exact low64_big
    repeat (first | refine WK.seq ?_ | refine WK.block ?_ | refine WK.inBlock ?_ | refine WK.skip ?_ | refine WK.label ?_ | refine WK.scope ?_ | refine WK.inScope ?_ | refine WK.exit rfl ?_)
    first | refine WK.reg 300 Try.ntmps153 (by kernel_rfl) ?_ | refine WK.regD 300 clsOf (by kernel_rfl) Try.ntmps153 (by kernel_rfl) (by kernel_rfl) ?_
    intro A hA Q hQ
    simp
    refine hQ _ _ ?_
    clear hQ hA
    repeat (first | refine WK.seq ?_ | refine WK.block ?_ | refine WK.inBlock ?_ | refine WK.skip ?_ | refine WK.label ?_ | refine WK.scope ?_ | refine WK.inScope ?_ | refine WK.exit rfl ?_)
    refine WK.ret Try.func153 (by simp (maxDischargeDepth := 120) [Try.results153, e]) (by simp [e])
  · simp at h
    by_cases hn : n < 0
    · have e := low64_small (n := 0) (by omega) (by omega)
      have e2 := low64_neg hn
      repeat (first | refine WK.seq ?_ | refine WK.block ?_ | refine WK.inBlock ?_ | refine WK.skip ?_ | refine WK.label ?_ | refine WK.scope ?_ | refine WK.inScope ?_ | refine WK.exit rfl ?_)
      first | refine WK.reg 400 Try.ntmps153 (by kernel_rfl) ?_ | refine WK.regD 400 clsOf (by kernel_rfl) Try.ntmps153 (by kernel_rfl) (by kernel_rfl) ?_
      intro A hA Q hQ
      simp [hn, e]
      refine hQ _ _ ?_
      clear hQ hA
      repeat (first | refine WK.seq ?_ | refine WK.block ?_ | refine WK.inBlock ?_ | refine WK.skip ?_ | refine WK.label ?_ | refine WK.scope ?_ | refine WK.inScope ?_ | refine WK.exit rfl ?_)
      refine WK.ret Try.func153 (by simp (maxDischargeDepth := 120) [Try.results153, e2]) (by simp [e2])
    · have e := low64_small (n := n) (by omega) h
      repeat (first | refine WK.seq ?_ | refine WK.block ?_ | refine WK.inBlock ?_ | refine WK.skip ?_ | refine WK.label ?_ | refine WK.scope ?_ | refine WK.inScope ?_ | refine WK.exit rfl ?_)
      first | refine WK.reg 500 Try.ntmps153 (by kernel_rfl) ?_ | refine WK.regD 500 clsOf (by kernel_rfl) Try.ntmps153 (by kernel_rfl) (by kernel_rfl) ?_
      intro A hA Q hQ
      simp [hn, e]
      refine hQ _ _ ?_
      clear hQ hA
      repeat (first | refine WK.seq ?_ | refine WK.block ?_ | refine WK.inBlock ?_ | refine WK.skip ?_ | refine WK.label ?_ | refine WK.scope ?_ | refine WK.inScope ?_ | refine WK.exit rfl ?_)
      refine WK.ret Try.func153 (by simp (maxDischargeDepth := 120) [Try.results153]) (by simp)
theorem low_c (n : Int) : FnP Try.prog 105 [.int .i64 n] (.agg (lowW n).enc) := by
  have hc := clamp_le n
  have e : IntKind.i64.wrap (clamp n - 64) = clamp n - 64 := wrap_i64 (by omega) (by omega)
  refine FnP.intro Try.func105 rfl rfl fun G w => ?_
  repeat (first | refine WK.seq ?_ | refine WK.block ?_ | refine WK.inBlock ?_ | refine WK.skip ?_ | refine WK.label ?_ | refine WK.scope ?_ | refine WK.inScope ?_ | refine WK.exit rfl ?_)
  first | refine WK.reg 100 Try.ntmps105 (by kernel_rfl) ?_ | refine WK.regD 100 clsOf (by kernel_rfl) Try.ntmps105 (by kernel_rfl) (by kernel_rfl) ?_
  intro A hA Q hQ
  simp
  refine hQ _ _ ?_
  clear hQ hA
  repeat (first | refine WK.seq ?_ | refine WK.block ?_ | refine WK.inBlock ?_ | refine WK.skip ?_ | refine WK.label ?_ | refine WK.scope ?_ | refine WK.inScope ?_ | refine WK.exit rfl ?_)
  first | refine WK.reg 200 Try.ntmps105 (by kernel_rfl) ?_ | refine WK.regD 200 clsOf (by kernel_rfl) Try.ntmps105 (by kernel_rfl) (by kernel_rfl) ?_
  intro A hA Q hQ
  simp [clamp_eq]
  refine hQ _ _ ?_
  clear hQ hA
  repeat (first | refine WK.seq ?_ | refine WK.block ?_ | refine WK.inBlock ?_ | refine WK.skip ?_ | refine WK.label ?_ | refine WK.scope ?_ | refine WK.inScope ?_ | refine WK.exit rfl ?_)
  first | refine WK.reg 300 Try.ntmps105 (by kernel_rfl) ?_ | refine WK.regD 300 clsOf (by kernel_rfl) Try.ntmps105 (by kernel_rfl) (by kernel_rfl) ?_
  intro A hA Q hQ
  simp [e]
  refine RunQ.call rfl rfl rfl rfl (by rfl) (by simp (maxDischargeDepth := 120)) (low1_c (clamp n - 64)) (by simp) ?_
  refine RunQ.eval ?_
  simp
  refine RunQ.call rfl rfl rfl rfl (by rfl) (by simp (maxDischargeDepth := 120)) (low1_c (clamp n)) (by simp) ?_
  refine RunQ.eval ?_
  simp
  refine hQ _ _ ?_
  clear hQ hA
  repeat (first | refine WK.seq ?_ | refine WK.block ?_ | refine WK.inBlock ?_ | refine WK.skip ?_ | refine WK.label ?_ | refine WK.scope ?_ | refine WK.inScope ?_ | refine WK.exit rfl ?_)
  refine WK.ret Try.func105 (by simp (maxDischargeDepth := 120) [Try.results105, lowW, Wide.enc]) (by simp [lowW, Wide.enc])
theorem rbit_c (i : Nat) (h : i < 128) : FnP Try.prog 109 [.int .i64 i] (.agg (bitW i).enc) := by
  have h0 : ¬ ((i : Int) < 0) := by omega
  have h1 : ¬ (127 < (i : Int)) := by omega
  have h2 : decide ((i : Int) < 0) = false := decide_eq_false h0
  refine FnP.intro Try.func109 rfl rfl fun G w => ?_
  repeat (first | refine WK.seq ?_ | refine WK.block ?_ | refine WK.inBlock ?_ | refine WK.skip ?_ | refine WK.label ?_ | refine WK.scope ?_ | refine WK.inScope ?_ | refine WK.exit rfl ?_)
  first | refine WK.reg 100 Try.ntmps109 (by kernel_rfl) ?_ | refine WK.regD 100 clsOf (by kernel_rfl) Try.ntmps109 (by kernel_rfl) (by kernel_rfl) ?_
  intro A hA Q hQ
  simp
  refine hQ _ _ ?_
  clear hQ hA
  repeat (first | refine WK.seq ?_ | refine WK.block ?_ | refine WK.inBlock ?_ | refine WK.skip ?_ | refine WK.label ?_ | refine WK.scope ?_ | refine WK.inScope ?_ | refine WK.exit rfl ?_)
  first | refine WK.reg 200 Try.ntmps109 (by kernel_rfl) ?_ | refine WK.regD 200 clsOf (by kernel_rfl) Try.ntmps109 (by kernel_rfl) (by kernel_rfl) ?_
  intro A hA Q hQ
  have hg2 : (A[2]?).bind (·.dst) = some 6 := by rw [hA]; rfl
  simp [h0, h1, hg2]
  refine hQ _ _ ?_
  clear hQ hA
  repeat (first | refine WK.seq ?_ | refine WK.block ?_ | refine WK.inBlock ?_ | refine WK.skip ?_ | refine WK.label ?_ | refine WK.scope ?_ | refine WK.inScope ?_ | refine WK.exit rfl ?_)
  refine WK.cond2 rfl (fun h3 => ?_) (fun h3 => ?_)
  · simp [h0, h1] at h3
  repeat (first | refine WK.seq ?_ | refine WK.block ?_ | refine WK.inBlock ?_ | refine WK.skip ?_ | refine WK.label ?_ | refine WK.scope ?_ | refine WK.inScope ?_ | refine WK.exit rfl ?_)
  first | refine WK.reg 300 Try.ntmps109 (by kernel_rfl) ?_ | refine WK.regD 300 clsOf (by kernel_rfl) Try.ntmps109 (by kernel_rfl) (by kernel_rfl) ?_
  intro A hA Q hQ
  simp
  refine hQ _ _ ?_
  clear hQ hA
  repeat (first | refine WK.seq ?_ | refine WK.block ?_ | refine WK.inBlock ?_ | refine WK.skip ?_ | refine WK.label ?_ | refine WK.scope ?_ | refine WK.inScope ?_ | refine WK.exit rfl ?_)
  refine WK.cond2 rfl (fun h4 => ?_) (fun h4 => ?_)
  · simp at h4
    have h5 : i < 64 := by omega
    have e1 : IntKind.u64.wrap (i : Int) = i := by
      have := wrap_u64 (BitVec.ofNat 64 i)
      simp [uI] at this
      rw [show (i : Int) % 18446744073709551616 = i by omega] at this
      exact this
    have e2 := bit64 h5
    repeat (first | refine WK.seq ?_ | refine WK.block ?_ | refine WK.inBlock ?_ | refine WK.skip ?_ | refine WK.label ?_ | refine WK.scope ?_ | refine WK.inScope ?_ | refine WK.exit rfl ?_)
    first | refine WK.reg 400 Try.ntmps109 (by kernel_rfl) ?_ | refine WK.regD 400 clsOf (by kernel_rfl) Try.ntmps109 (by kernel_rfl) (by kernel_rfl) ?_
    intro A hA Q hQ
    simp [e1, h0, e2]
    refine hQ _ _ ?_
    clear hQ hA
    repeat (first | refine WK.seq ?_ | refine WK.block ?_ | refine WK.inBlock ?_ | refine WK.skip ?_ | refine WK.label ?_ | refine WK.scope ?_ | refine WK.inScope ?_ | refine WK.exit rfl ?_)
    refine WK.ret Try.func109 (by simp (maxDischargeDepth := 120) [Try.results109, bitW, h5, Wide.enc, uI_zero]) (by simp [bitW, h5, Wide.enc, uI_zero])
  · simp at h4
    have h5 : ¬ i < 64 := by omega
    obtain ⟨m, rfl⟩ : ∃ m, i = m + 64 := ⟨i - 64, by omega⟩
    have h6 : m < 64 := by omega
    have e0 : IntKind.i64.wrap (m : Int) = m := wrap_i64 (by omega) (by omega)
    have e1 : IntKind.u64.wrap (m : Int) = m := by
      have := wrap_u64 (BitVec.ofNat 64 m)
      simp [uI] at this
      rw [show (m : Int) % 18446744073709551616 = m by omega] at this
      exact this
    have e2 := bit64 h6
    have h7 : ¬ ((m : Int) < 0) := by omega
    repeat (first | refine WK.seq ?_ | refine WK.block ?_ | refine WK.inBlock ?_ | refine WK.skip ?_ | refine WK.label ?_ | refine WK.scope ?_ | refine WK.inScope ?_ | refine WK.exit rfl ?_)
    first | refine WK.reg 500 Try.ntmps109 (by kernel_rfl) ?_ | refine WK.regD 500 clsOf (by kernel_rfl) Try.ntmps109 (by kernel_rfl) (by kernel_rfl) ?_
    intro A hA Q hQ
    simp [e0, e1, h7, e2]
    refine hQ _ _ ?_
    clear hQ hA
    repeat (first | refine WK.seq ?_ | refine WK.block ?_ | refine WK.inBlock ?_ | refine WK.skip ?_ | refine WK.label ?_ | refine WK.scope ?_ | refine WK.inScope ?_ | refine WK.exit rfl ?_)
    refine WK.ret Try.func109 (by simp (maxDischargeDepth := 120) [Try.results109, bitW, h, h5, h6, Wide.enc, uI_zero]) (by simp [bitW, h, h5, h6, Wide.enc, uI_zero])
end Go.Proofs.Ytbncoeoamjcjjaa
end

section
set_option linter.unusedVariables false
set_option linter.unusedSimpArgs false
namespace Go.Proofs.Ytbncoeoamjcjjaa
open Go Go.AI Go.Proofs

theorem rlow2_c (n : Int) (hn : -10000 ≤ n ∧ n ≤ 10000) : FnP Try.prog 110 [.int .i64 n] (.agg (lowW n).enc) := by
  refine FnP.intro Try.func110 rfl rfl fun G w => ?_
  repeat (first | refine WK.seq ?_ | refine WK.block ?_ | refine WK.inBlock ?_ | refine WK.skip ?_ | refine WK.label ?_ | refine WK.scope ?_ | refine WK.inScope ?_ | refine WK.exit rfl ?_)
  first | refine WK.reg 100 Try.ntmps110 (by kernel_rfl) ?_ | refine WK.regD 100 clsOf (by kernel_rfl) Try.ntmps110 (by kernel_rfl) (by kernel_rfl) ?_
  intro A hA Q hQ
  simp
  refine hQ _ _ ?_
  clear hQ hA
  repeat (first | refine WK.seq ?_ | refine WK.block ?_ | refine WK.inBlock ?_ | refine WK.skip ?_ | refine WK.label ?_ | refine WK.scope ?_ | refine WK.inScope ?_ | refine WK.exit rfl ?_)
  first | refine WK.reg 200 Try.ntmps110 (by kernel_rfl) ?_ | refine WK.regD 200 clsOf (by kernel_rfl) Try.ntmps110 (by kernel_rfl) (by kernel_rfl) ?_
  intro A hA Q hQ
  simp
  refine hQ _ _ ?_
  clear hQ hA
  repeat (first | refine WK.seq ?_ | refine WK.block ?_ | refine WK.inBlock ?_ | refine WK.skip ?_ | refine WK.label ?_ | refine WK.scope ?_ | refine WK.inScope ?_ | refine WK.exit rfl ?_)
  first | refine WK.reg 300 Try.ntmps110 (by kernel_rfl) ?_ | refine WK.regD 300 clsOf (by kernel_rfl) Try.ntmps110 (by kernel_rfl) (by kernel_rfl) ?_
  intro A hA Q hQ
  simp
  refine hQ _ _ ?_
  clear hQ hA
  repeat (first | refine WK.seq ?_ | refine WK.block ?_ | refine WK.inBlock ?_ | refine WK.skip ?_ | refine WK.label ?_ | refine WK.scope ?_ | refine WK.inScope ?_ | refine WK.exit rfl ?_)
  refine WK.loopI (fun n => n) (fun i : Nat => (⟨(upd (upd (upd (upd J 0 (.int .i64 n)) 2 (.ptr 0 0)) 3 (.ptr 101 0)) 4 (.int .i64 i)), (upd (upd B0 0 (.var wideZ.enc)) 101 (.var (lowW i).enc)), 0⟩ : St)) (fun i => i ≤ 128 ∧ ((i : Int) ≤ n ∨ i = 0)) (fun i => 128 - i) (0) (by repeat (first | exact TmW.nil | refine TmW.upd ?_ (by simp (maxDischargeDepth := 120) [Wide.enc, wideZ, uI_zero, lowW_zero']))) (by repeat (first | exact BxW.nil | refine BxW.upd ?_ (by simp (maxDischargeDepth := 120) [Wide.enc, wideZ, uI_zero, lowW_zero']))) (by first | exact InjW.id | exact InjW.nil | exact InjW.one | exact InjW.two (by simp) | exact InjW.three (by simp) (by simp) (by simp)) (⟨by omega, .inr rfl⟩) (fun i hi IH => ?_)
  by_cases h0 : (i : Int) < n
  · repeat (first | refine WK.seq ?_ | refine WK.block ?_ | refine WK.inBlock ?_ | refine WK.skip ?_ | refine WK.label ?_ | refine WK.scope ?_ | refine WK.inScope ?_ | refine WK.exit rfl ?_)
    first | refine WK.reg 400 Try.ntmps110 (by kernel_rfl) ?_ | refine WK.regD 400 clsOf (by kernel_rfl) Try.ntmps110 (by kernel_rfl) (by kernel_rfl) ?_
    intro A hA Q hQ
    have hg3 : (A[3]?).bind (·.dst) = some 9 := by rw [hA]; rfl
    simp [h0, hg3]
    refine hQ _ _ ?_
    clear hQ hA
    repeat (first | refine WK.seq ?_ | refine WK.block ?_ | refine WK.inBlock ?_ | refine WK.skip ?_ | refine WK.label ?_ | refine WK.scope ?_ | refine WK.inScope ?_ | refine WK.exit rfl ?_)
    refine WK.cond2 rfl (fun h1 => ?_) (fun h1 => ?_)
    · simp at h1
      have h2 : i < 128 := by omega
      have h6 : IntKind.i64.wrap ((i : Int) + 1) = i + 1 := wrap_i64 (by omega) (by omega)
      repeat (first | refine WK.seq ?_ | refine WK.block ?_ | refine WK.inBlock ?_ | refine WK.skip ?_ | refine WK.label ?_ | refine WK.scope ?_ | refine WK.inScope ?_ | refine WK.exit rfl ?_)
      first | refine WK.reg 500 Try.ntmps110 (by kernel_rfl) ?_ | refine WK.regD 500 clsOf (by kernel_rfl) Try.ntmps110 (by kernel_rfl) (by kernel_rfl) ?_
      intro A hA Q hQ
      simp
      refine RunQ.call rfl rfl rfl rfl (by rfl) (by simp (maxDischargeDepth := 120)) (rbit_c i h2) (by simp) ?_
      refine RunQ.eval ?_
      simp
      refine RunQ.call rfl rfl rfl rfl (by rfl) (by simp (maxDischargeDepth := 120)) (ror_c (lowW i) (bitW i)) (by simp) ?_
      refine RunQ.eval ?_
      simp
      refine hQ _ _ ?_
      clear hQ hA
      repeat (first | refine WK.seq ?_ | refine WK.block ?_ | refine WK.inBlock ?_ | refine WK.skip ?_ | refine WK.label ?_ | refine WK.scope ?_ | refine WK.inScope ?_ | refine WK.exit rfl ?_)
      first | refine WK.reg 600 Try.ntmps110 (by kernel_rfl) ?_ | refine WK.regD 600 clsOf (by kernel_rfl) Try.ntmps110 (by kernel_rfl) (by kernel_rfl) ?_
      intro A hA Q hQ
      simp [h6]
      refine hQ _ _ ?_
      clear hQ hA
      repeat (first | refine WK.seq ?_ | refine WK.block ?_ | refine WK.inBlock ?_ | refine WK.skip ?_ | refine WK.label ?_ | refine WK.scope ?_ | refine WK.inScope ?_ | refine WK.exit rfl ?_)
      refine WK.next (fun n => n) (IH (i + 1) (⟨by omega, .inl (by omega)⟩) (by first | omega | (dsimp only; omega))) (by repeat (first | exact TmW.nil | refine TmW.upd ?_ (by simp (maxDischargeDepth := 120) [lowW_step h2]))) (by repeat (first | exact BxW.nil | refine BxW.upd ?_ (by simp (maxDischargeDepth := 120) [lowW_step h2]))) (by first | exact InjW.id | exact InjW.nil | exact InjW.one | exact InjW.two (by simp) | exact InjW.three (by simp) (by simp) (by simp))
    · simp at h1
      have e : lowW n = lowW i := by
        unfold lowW; rw [show clamp n = clamp i by rw [clamp_id (n := i) (by omega) (by omega)]; unfold clamp; rw [if_neg (show ¬ n < 0 by omega)]; split <;> omega]
      repeat (first | refine WK.seq ?_ | refine WK.block ?_ | refine WK.inBlock ?_ | refine WK.skip ?_ | refine WK.label ?_ | refine WK.scope ?_ | refine WK.inScope ?_ | refine WK.exit rfl ?_)
      first | refine WK.reg 700 Try.ntmps110 (by kernel_rfl) ?_ | refine WK.regD 700 clsOf (by kernel_rfl) Try.ntmps110 (by kernel_rfl) (by kernel_rfl) ?_
      intro A hA Q hQ
      simp
      refine hQ _ _ ?_
      clear hQ hA
      repeat (first | refine WK.seq ?_ | refine WK.block ?_ | refine WK.inBlock ?_ | refine WK.skip ?_ | refine WK.label ?_ | refine WK.scope ?_ | refine WK.inScope ?_ | refine WK.exit rfl ?_)
      refine WK.ret Try.func110 (by simp (maxDischargeDepth := 120) [Try.results110, e]) (by simp [e])
  · repeat (first | refine WK.seq ?_ | refine WK.block ?_ | refine WK.inBlock ?_ | refine WK.skip ?_ | refine WK.label ?_ | refine WK.scope ?_ | refine WK.inScope ?_ | refine WK.exit rfl ?_)
    first | refine WK.reg 800 Try.ntmps110 (by kernel_rfl) ?_ | refine WK.regD 800 clsOf (by kernel_rfl) Try.ntmps110 (by kernel_rfl) (by kernel_rfl) ?_
    intro A hA Q hQ
    have hg3 : (A[3]?).bind (·.dst) = some 9 := by rw [hA]; rfl
    simp [h0, hg3]
    refine hQ _ _ ?_
    clear hQ hA
    repeat (first | refine WK.seq ?_ | refine WK.block ?_ | refine WK.inBlock ?_ | refine WK.skip ?_ | refine WK.label ?_ | refine WK.scope ?_ | refine WK.inScope ?_ | refine WK.exit rfl ?_)
    refine WK.cond2 rfl (fun h1 => ?_) (fun h1 => ?_)
    · simp at h1
    have e : lowW n = lowW i := by
      unfold lowW; rw [show clamp n = clamp i by rw [clamp_id (n := i) (by omega) (by omega)]; unfold clamp; split <;> (try split) <;> omega]
    repeat (first | refine WK.seq ?_ | refine WK.block ?_ | refine WK.inBlock ?_ | refine WK.skip ?_ | refine WK.label ?_ | refine WK.scope ?_ | refine WK.inScope ?_ | refine WK.exit rfl ?_)
    first | refine WK.reg 900 Try.ntmps110 (by kernel_rfl) ?_ | refine WK.regD 900 clsOf (by kernel_rfl) Try.ntmps110 (by kernel_rfl) (by kernel_rfl) ?_
    intro A hA Q hQ
    simp
    refine hQ _ _ ?_
    clear hQ hA
    repeat (first | refine WK.seq ?_ | refine WK.block ?_ | refine WK.inBlock ?_ | refine WK.skip ?_ | refine WK.label ?_ | refine WK.scope ?_ | refine WK.inScope ?_ | refine WK.exit rfl ?_)
    refine WK.ret Try.func110 (by simp (maxDischargeDepth := 120) [Try.results110, e]) (by simp [e])
theorem fBits_le (f : Int) : -10000 ≤ fBits f ∧ fBits f ≤ 10000 := by
  unfold fBits fRow
  split
  · rename_i h
    obtain ⟨n, rfl⟩ : ∃ n : Nat, f = n := ⟨f.toNat, by omega⟩
    have h2 : n < 24 := by omega
    have : ∀ n : Nat, n < 24 → -10000 ≤ (nth fRows (n : Int).toNat).2.1 ∧ (nth fRows (n : Int).toNat).2.1 ≤ 10000 := by decide
    exact this n h2
  · simp
theorem otern_c (o : Oxm) : FnP Try.prog 102 [.agg o.enc] (.agg o.tern.enc) := by
  refine FnP.intro Try.func102 rfl rfl fun G w => ?_
  repeat (first | refine WK.seq ?_ | refine WK.block ?_ | refine WK.inBlock ?_ | refine WK.skip ?_ | refine WK.label ?_ | refine WK.scope ?_ | refine WK.inScope ?_ | refine WK.exit rfl ?_)
  first | refine WK.reg 100 Try.ntmps102 (by kernel_rfl) ?_ | refine WK.regD 100 clsOf (by kernel_rfl) Try.ntmps102 (by kernel_rfl) (by kernel_rfl) ?_
  intro A hA Q hQ
  simp
  refine hQ _ _ ?_
  clear hQ hA
  repeat (first | refine WK.seq ?_ | refine WK.block ?_ | refine WK.inBlock ?_ | refine WK.skip ?_ | refine WK.label ?_ | refine WK.scope ?_ | refine WK.inScope ?_ | refine WK.exit rfl ?_)
  first | refine WK.reg 200 Try.ntmps102 (by kernel_rfl) ?_ | refine WK.regD 200 clsOf (by kernel_rfl) Try.ntmps102 (by kernel_rfl) (by kernel_rfl) ?_
  intro A hA Q hQ
  simp [Oxm.enc]
  refine RunQ.call rfl rfl rfl rfl (by rfl) (by simp (maxDischargeDepth := 120)) (fright_c o.field) (by simp) ?_
  refine RunQ.eval ?_
  simp
  refine hQ _ _ ?_
  clear hQ hA
  repeat (first | refine WK.seq ?_ | refine WK.block ?_ | refine WK.inBlock ?_ | refine WK.skip ?_ | refine WK.label ?_ | refine WK.scope ?_ | refine WK.inScope ?_ | refine WK.exit rfl ?_)
  refine WK.cond2 rfl (fun h => ?_) (fun h => ?_)
  · try simp at h
    repeat (first | refine WK.seq ?_ | refine WK.block ?_ | refine WK.inBlock ?_ | refine WK.skip ?_ | refine WK.label ?_ | refine WK.scope ?_ | refine WK.inScope ?_ | refine WK.exit rfl ?_)
    first | refine WK.reg 300 Try.ntmps102 (by kernel_rfl) ?_ | refine WK.regD 300 clsOf (by kernel_rfl) Try.ntmps102 (by kernel_rfl) (by kernel_rfl) ?_
    intro A hA Q hQ
    simp
    refine hQ _ _ ?_
    clear hQ hA
    repeat (first | refine WK.seq ?_ | refine WK.block ?_ | refine WK.inBlock ?_ | refine WK.skip ?_ | refine WK.label ?_ | refine WK.scope ?_ | refine WK.inScope ?_ | refine WK.exit rfl ?_)
    refine WK.ret Try.func102 (by simp (maxDischargeDepth := 120) [Try.results102, Oxm.tern, h, Tern.enc, ternZ, wideZ, uI_zero]) (by simp [Oxm.tern, h, Tern.enc, ternZ, wideZ, uI_zero])
  · try simp at h
    repeat (first | refine WK.seq ?_ | refine WK.block ?_ | refine WK.inBlock ?_ | refine WK.skip ?_ | refine WK.label ?_ | refine WK.scope ?_ | refine WK.inScope ?_ | refine WK.exit rfl ?_)
    first | refine WK.reg 400 Try.ntmps102 (by kernel_rfl) ?_ | refine WK.regD 400 clsOf (by kernel_rfl) Try.ntmps102 (by kernel_rfl) (by kernel_rfl) ?_
    intro A hA Q hQ
    simp [Oxm.enc]
    refine hQ _ _ ?_
    clear hQ hA
    repeat (first | refine WK.seq ?_ | refine WK.block ?_ | refine WK.inBlock ?_ | refine WK.skip ?_ | refine WK.label ?_ | refine WK.scope ?_ | refine WK.inScope ?_ | refine WK.exit rfl ?_)
    refine WK.cond2 rfl (fun h2 => ?_) (fun h2 => ?_)
    · try simp at h2
      repeat (first | refine WK.seq ?_ | refine WK.block ?_ | refine WK.inBlock ?_ | refine WK.skip ?_ | refine WK.label ?_ | refine WK.scope ?_ | refine WK.inScope ?_ | refine WK.exit rfl ?_)
      first | refine WK.reg 500 Try.ntmps102 (by kernel_rfl) ?_ | refine WK.regD 500 clsOf (by kernel_rfl) Try.ntmps102 (by kernel_rfl) (by kernel_rfl) ?_
      intro A hA Q hQ
      simp [Oxm.enc]
      refine hQ _ _ ?_
      clear hQ hA
      repeat (first | refine WK.seq ?_ | refine WK.block ?_ | refine WK.inBlock ?_ | refine WK.skip ?_ | refine WK.label ?_ | refine WK.scope ?_ | refine WK.inScope ?_ | refine WK.exit rfl ?_)
      refine WK.ret Try.func102 (by simp (maxDischargeDepth := 120) [Try.results102, Oxm.tern, h, h2, Tern.enc]) (by simp [Oxm.tern, h, h2, Tern.enc])
    · try simp at h2
      repeat (first | refine WK.seq ?_ | refine WK.block ?_ | refine WK.inBlock ?_ | refine WK.skip ?_ | refine WK.label ?_ | refine WK.scope ?_ | refine WK.inScope ?_ | refine WK.exit rfl ?_)
      first | refine WK.reg 600 Try.ntmps102 (by kernel_rfl) ?_ | refine WK.regD 600 clsOf (by kernel_rfl) Try.ntmps102 (by kernel_rfl) (by kernel_rfl) ?_
      intro A hA Q hQ
      simp [Oxm.enc]
      refine RunQ.call rfl rfl rfl rfl (by rfl) (by simp (maxDischargeDepth := 120)) (fbits_c o.field) (by simp) ?_
      refine RunQ.eval ?_
      simp
      refine RunQ.call rfl rfl rfl rfl (by rfl) (by simp (maxDischargeDepth := 120) [Wide.enc]) (low_c (fBits o.field)) (by simp [Wide.enc]) ?_
      refine RunQ.eval ?_
      simp [Wide.enc]
      refine hQ _ _ ?_
      clear hQ hA
      repeat (first | refine WK.seq ?_ | refine WK.block ?_ | refine WK.inBlock ?_ | refine WK.skip ?_ | refine WK.label ?_ | refine WK.scope ?_ | refine WK.inScope ?_ | refine WK.exit rfl ?_)
      refine WK.ret Try.func102 (by simp (maxDischargeDepth := 120) [Try.results102, Oxm.tern, h, h2, Tern.enc]) (by simp [Oxm.tern, h, h2, Tern.enc])
theorem rotern_c (o : Oxm) : FnP Try.prog 106 [.agg o.enc] (.agg o.tern.enc) := by
  refine FnP.intro Try.func106 rfl rfl fun G w => ?_
  repeat (first | refine WK.seq ?_ | refine WK.block ?_ | refine WK.inBlock ?_ | refine WK.skip ?_ | refine WK.label ?_ | refine WK.scope ?_ | refine WK.inScope ?_ | refine WK.exit rfl ?_)
  first | refine WK.reg 100 Try.ntmps106 (by kernel_rfl) ?_ | refine WK.regD 100 clsOf (by kernel_rfl) Try.ntmps106 (by kernel_rfl) (by kernel_rfl) ?_
  intro A hA Q hQ
  simp
  refine hQ _ _ ?_
  clear hQ hA
  repeat (first | refine WK.seq ?_ | refine WK.block ?_ | refine WK.inBlock ?_ | refine WK.skip ?_ | refine WK.label ?_ | refine WK.scope ?_ | refine WK.inScope ?_ | refine WK.exit rfl ?_)
  first | refine WK.reg 200 Try.ntmps106 (by kernel_rfl) ?_ | refine WK.regD 200 clsOf (by kernel_rfl) Try.ntmps106 (by kernel_rfl) (by kernel_rfl) ?_
  intro A hA Q hQ
  simp [Oxm.enc]
  refine RunQ.call rfl rfl rfl rfl (by rfl) (by simp (maxDischargeDepth := 120)) (rfright_c o.field) (by simp) ?_
  refine RunQ.eval ?_
  simp
  refine hQ _ _ ?_
  clear hQ hA
  repeat (first | refine WK.seq ?_ | refine WK.block ?_ | refine WK.inBlock ?_ | refine WK.skip ?_ | refine WK.label ?_ | refine WK.scope ?_ | refine WK.inScope ?_ | refine WK.exit rfl ?_)
  refine WK.cond2 rfl (fun h => ?_) (fun h => ?_)
  · try simp at h
    repeat (first | refine WK.seq ?_ | refine WK.block ?_ | refine WK.inBlock ?_ | refine WK.skip ?_ | refine WK.label ?_ | refine WK.scope ?_ | refine WK.inScope ?_ | refine WK.exit rfl ?_)
    first | refine WK.reg 300 Try.ntmps106 (by kernel_rfl) ?_ | refine WK.regD 300 clsOf (by kernel_rfl) Try.ntmps106 (by kernel_rfl) (by kernel_rfl) ?_
    intro A hA Q hQ
    simp
    refine hQ _ _ ?_
    clear hQ hA
    repeat (first | refine WK.seq ?_ | refine WK.block ?_ | refine WK.inBlock ?_ | refine WK.skip ?_ | refine WK.label ?_ | refine WK.scope ?_ | refine WK.inScope ?_ | refine WK.exit rfl ?_)
    refine WK.ret Try.func106 (by simp (maxDischargeDepth := 120) [Try.results106, Oxm.tern, h, Tern.enc, ternZ, wideZ, uI_zero]) (by simp [Oxm.tern, h, Tern.enc, ternZ, wideZ, uI_zero])
  · try simp at h
    repeat (first | refine WK.seq ?_ | refine WK.block ?_ | refine WK.inBlock ?_ | refine WK.skip ?_ | refine WK.label ?_ | refine WK.scope ?_ | refine WK.inScope ?_ | refine WK.exit rfl ?_)
    first | refine WK.reg 400 Try.ntmps106 (by kernel_rfl) ?_ | refine WK.regD 400 clsOf (by kernel_rfl) Try.ntmps106 (by kernel_rfl) (by kernel_rfl) ?_
    intro A hA Q hQ
    simp [Oxm.enc]
    refine hQ _ _ ?_
    clear hQ hA
    repeat (first | refine WK.seq ?_ | refine WK.block ?_ | refine WK.inBlock ?_ | refine WK.skip ?_ | refine WK.label ?_ | refine WK.scope ?_ | refine WK.inScope ?_ | refine WK.exit rfl ?_)
    refine WK.cond2 rfl (fun h2 => ?_) (fun h2 => ?_)
    · try simp at h2
      repeat (first | refine WK.seq ?_ | refine WK.block ?_ | refine WK.inBlock ?_ | refine WK.skip ?_ | refine WK.label ?_ | refine WK.scope ?_ | refine WK.inScope ?_ | refine WK.exit rfl ?_)
      first | refine WK.reg 500 Try.ntmps106 (by kernel_rfl) ?_ | refine WK.regD 500 clsOf (by kernel_rfl) Try.ntmps106 (by kernel_rfl) (by kernel_rfl) ?_
      intro A hA Q hQ
      simp [Oxm.enc]
      refine hQ _ _ ?_
      clear hQ hA
      repeat (first | refine WK.seq ?_ | refine WK.block ?_ | refine WK.inBlock ?_ | refine WK.skip ?_ | refine WK.label ?_ | refine WK.scope ?_ | refine WK.inScope ?_ | refine WK.exit rfl ?_)
      refine WK.ret Try.func106 (by simp (maxDischargeDepth := 120) [Try.results106, Oxm.tern, h, h2, Tern.enc]) (by simp [Oxm.tern, h, h2, Tern.enc])
    · try simp at h2
      repeat (first | refine WK.seq ?_ | refine WK.block ?_ | refine WK.inBlock ?_ | refine WK.skip ?_ | refine WK.label ?_ | refine WK.scope ?_ | refine WK.inScope ?_ | refine WK.exit rfl ?_)
      first | refine WK.reg 600 Try.ntmps106 (by kernel_rfl) ?_ | refine WK.regD 600 clsOf (by kernel_rfl) Try.ntmps106 (by kernel_rfl) (by kernel_rfl) ?_
      intro A hA Q hQ
      simp [Oxm.enc]
      refine RunQ.call rfl rfl rfl rfl (by rfl) (by simp (maxDischargeDepth := 120)) (rfbits_c o.field) (by simp) ?_
      refine RunQ.eval ?_
      simp
      refine RunQ.call rfl rfl rfl rfl (by rfl) (by simp (maxDischargeDepth := 120) [Wide.enc]) (rlow2_c (fBits o.field) (fBits_le _)) (by simp [Wide.enc]) ?_
      refine RunQ.eval ?_
      simp [Wide.enc]
      refine hQ _ _ ?_
      clear hQ hA
      repeat (first | refine WK.seq ?_ | refine WK.block ?_ | refine WK.inBlock ?_ | refine WK.skip ?_ | refine WK.label ?_ | refine WK.scope ?_ | refine WK.inScope ?_ | refine WK.exit rfl ?_)
      refine WK.ret Try.func106 (by simp (maxDischargeDepth := 120) [Try.results106, Oxm.tern, h, h2, Tern.enc]) (by simp [Oxm.tern, h, h2, Tern.enc])
end Go.Proofs.Ytbncoeoamjcjjaa
end

section
set_option linter.unusedVariables false
set_option linter.unusedSimpArgs false
namespace Go.Proofs.Ytbncoeoamjcjjaa
open Go Go.AI Go.Proofs

def eqBy {α : Type} [Inhabited α] (p : α → α → Bool) (l m : List α) : Bool := l.length == m.length && (List.range l.length).all fun i => p (nth l i) (nth m i)

def Inst.same (a b : Inst) : Bool := a.kind == b.kind && a.table == b.table && a.value == b.value && a.mask == b.mask && eqBy (· == ·) a.acts b.acts
end Go.Proofs.Ytbncoeoamjcjjaa
end

section
set_option linter.unusedVariables false
set_option linter.unusedSimpArgs false
namespace Go.Proofs.Ytbncoeoamjcjjaa
open Go Go.AI Go.Proofs

/-- the first place of a thing that is asked for, or -1 -/
def idxI {α : Type} (p : α → Bool) (l : List α) : Int := match l.findIdx? p with | some i => i | none => -1
theorem idxI_some {α : Type} [Inhabited α] {p : α → Bool} {l : List α} {i : Nat} (h : i < l.length) (hp : p (nth l i) = true) (hn : ∀ j, j < i → p (nth l j) = false) : idxI p l = i := by
  unfold idxI
  have : l.findIdx? p = some i := by
    rw [List.findIdx?_eq_some_iff_getElem]
    refine ⟨h, by rw [← nth_eq h]; exact hp, fun j hj => ?_⟩
    rw [← nth_eq (by omega)]; simp [hn j hj]
  rw [this]
theorem idxI_none {α : Type} [Inhabited α] {p : α → Bool} {l : List α} (hn : ∀ j, j < l.length → p (nth l j) = false) : idxI p l = -1 := by
  unfold idxI
  have : l.findIdx? p = none := by
    rw [List.findIdx?_eq_none_iff]
    intro x hx
    obtain ⟨i, hi, rfl⟩ := mem_nth hx
    exact hn i hi
  rw [this]
theorem idxI_ge {α : Type} (p : α → Bool) (l : List α) : decide (idxI p l ≥ 0) = l.any p := by
  unfold idxI
  cases h : l.findIdx? p with
  | none =>
    rw [List.findIdx?_eq_none_iff] at h
    have : l.any p = false := by rw [List.any_eq_false]; intro x hx; simp [h x hx]
    simp [this]
  | some i =>
    rw [List.findIdx?_eq_some_iff_getElem] at h
    obtain ⟨hi, hp, _⟩ := h
    have : l.any p = true := List.any_eq_true.2 ⟨_, List.getElem_mem hi, hp⟩
    simp [this]
def actsPlain (l : List Action) : Bool := decide (l.length ≤ 12)
def instsPlain (l : List Inst) : Bool := decide (l.length ≤ 8) && l.all fun i => actsPlain i.acts
def Flow.plain (f : Flow) : Bool := decide (f.mat.length ≤ 30) && instsPlain f.insts
def FlowMod.plain (m : FlowMod) : Bool := decide (m.mat.length ≤ 30) && instsPlain m.insts
end Go.Proofs.Ytbncoeoamjcjjaa
end

section
set_option linter.unusedVariables false
set_option linter.unusedSimpArgs false
namespace Go.Proofs.Ytbncoeoamjcjjaa
open Go Go.AI Go.Proofs

theorem appAct : AppOk Try.prog 36 30 11 88 := ⟨by simp, by simp, by simp, by simp, by simp, by simp, by omega, by omega⟩
/-- what is taken of the actions of a kind -/
def ofA (k : Int) (g : Action → Int) (l : List Action) : List Int := (l.filter fun a => a.kind == k).map g
end Go.Proofs.Ytbncoeoamjcjjaa
end

section
set_option linter.unusedVariables false
set_option linter.unusedSimpArgs false
namespace Go.Proofs.Ytbncoeoamjcjjaa
open Go Go.AI Go.Proofs

def Inst.goes (i : Inst) : Bool := i.kind == 3 || i.kind == 4
/-- what the instructions with actions are asked for, one behind the other -/
def allI {α : Type} (g : List Action → List α) (l : List Inst) : List α := (l.filter Inst.goes).flatMap fun i => g i.acts
end Go.Proofs.Ytbncoeoamjcjjaa
end

section
set_option linter.unusedVariables false
set_option linter.unusedSimpArgs false
namespace Go.Proofs.Ytbncoeoamjcjjaa
open Go Go.AI Go.Proofs

structure IOk (l : List Inst) : Prop where
  len : l.length ≤ 1000
  acts : ∀ x, x ∈ l → x.acts.length ≤ 1000000
structure FOk (f : Flow) : Prop where
  mat : f.mat.length ≤ 1000000
  insts : IOk f.insts
def Flow.same (a b : Flow) : Bool := a.cookie == b.cookie && ((a.prio == b.prio && (a.idle == b.idle && (a.hard == b.hard && a.flags == b.flags))) && (eqBy (fun x y => x == y) a.mat b.mat && eqBy Inst.same a.insts b.insts))
@[simp] theorem eqK_place (p q : Int) (c d : Cube) : eqK (repl 97 false) (.int .i64 p :: encC c) (.int .i64 q :: encC d) = some (p == q && cubeEq c d) := by
  rw [show repl 97 false = false :: repl 96 false from rfl]
  simp only [eqK, eqK_cube, if_true]
end Go.Proofs.Ytbncoeoamjcjjaa
end

section
set_option linter.unusedVariables false
set_option linter.unusedSimpArgs false
namespace Go.Proofs.Ytbncoeoamjcjjaa
open Go Go.AI Go.Proofs

def Flow.goPorts (f : Flow) : List Int := allI (ofA 0 Action.port) f.insts
def Flow.goGroups (f : Flow) : List Int := allI (ofA 22 Action.group) f.insts
end Go.Proofs.Ytbncoeoamjcjjaa
end

section
set_option linter.unusedVariables false
set_option linter.unusedSimpArgs false
namespace Go.Proofs.Ytbncoeoamjcjjaa
open Go Go.AI Go.Proofs

structure FPl (f : Flow) : Prop where
  ok : FOk f
  acts : (allI id f.insts).length ≤ 1000000
end Go.Proofs.Ytbncoeoamjcjjaa
end

section
set_option linter.unusedVariables false
set_option linter.unusedSimpArgs false
namespace Go.Proofs.Ytbncoeoamjcjjaa
open Go Go.AI Go.Proofs

/-- whether a number has so many bytes -/
def numOk (n : Int) (s : Nat) : Bool := decide (0 ≤ n) && decide (n < 256 ^ s)
/-- the last `s` bytes of a number, the first one highest -/
def beN (n : Int) (s : Nat) : List (BitVec 8) := (List.range s).map fun i => BitVec.ofInt 8 (n / 2 ^ (8 * (s - 1 - i)))
theorem beN_len (n : Int) (s : Nat) : (beN n s).length = s := by simp [beN]
def putN (b : List (BitVec 8)) (n : Int) (s : Nat) : List (BitVec 8) := if numOk n s then b ++ beN n s else b
end Go.Proofs.Ytbncoeoamjcjjaa
end

section
set_option linter.unusedVariables false
set_option linter.unusedSimpArgs false
namespace Go.Proofs.Ytbncoeoamjcjjaa
open Go Go.AI Go.Proofs Go.Proofs.Ytbncoeoamjcjjaa
theorem rdvAction : RdV Try.prog 30 (fun a => ∃ x, a = .agg (Action.enc x)) := rdV_agg (.inl ⟨_, Try.underlying30⟩) (fun _ _ _ => rdAction)
theorem rdvActions : RdV Try.prog 36 (fun a => ∃ l : List Action, a = .sl false l.length (l.flatMap Action.enc)) := rdV_slice Try.underlying36 (by kernel_rfl) (by omega) Action.len (fun _ _ _ => rdAction)
theorem allP3 {p q r : AV → Prop} {xs : List AV} (h : AllP [p, q, r] xs) : ∃ x y z, xs = [x, y, z] ∧ p x ∧ q y ∧ r z := by
  match xs, h with
  | [x, y, z], ⟨h0, h1, h2, _⟩ => exact ⟨x, y, z, rfl, h0, h1, h2⟩
def zeroAction : Array Value := #[.int .i64 0, .int .i64 0, .int .i64 0, .int .i64 0, .int .i64 0, .int .i64 0, .bool false, .int .u64 0, .int .u64 0, .int .u64 0, .int .u64 0]
end Go.Proofs.Ytbncoeoamjcjjaa
end

section
set_option linter.unusedVariables false
set_option linter.unusedSimpArgs false
namespace Go.Proofs.Ytbncoeoamjcjjaa
open Go Go.AI Go.Proofs

def valN (l : List (BitVec 8)) : Nat := l.foldl (fun n x => n * 256 + x.toNat) 0
theorem valN_snoc (l : List (BitVec 8)) (x : BitVec 8) : valN (l ++ [x]) = valN l * 256 + x.toNat := by simp [valN]
theorem valN_lt : ∀ (k : Nat) (l : List (BitVec 8)), l.length = k → valN l < 256 ^ k
  | 0, l, h => by rw [List.eq_nil_of_length_eq_zero h]; decide
  | k + 1, l, h => by
    have hne : l ≠ [] := by intro e; subst e; simp at h
    rw [← List.dropLast_concat_getLast hne, valN_snoc]
    have := valN_lt k l.dropLast (by rw [List.length_dropLast]; omega)
    have := (l.getLast hne).isLt
    rw [Nat.pow_succ]
    omega
/-- what is got: the number and what is wrong -/
def getN (b : List (BitVec 8)) (p s : Nat) : Int × Int := if p + s ≤ b.length then (valN ((b.drop p).take s), 0) else (0, 3)
end Go.Proofs.Ytbncoeoamjcjjaa
end

section
set_option linter.unusedVariables false
set_option linter.unusedSimpArgs false
namespace Go.Proofs.Ytbncoeoamjcjjaa
open Go Go.AI Go.Proofs

def fID (f : Int) : Int := (fRow f).1
def fMasks (f : Int) : Bool := (fRow f).2.2
def fSize (f : Int) : Nat := ((fBits f).toNat + 7) / 8
theorem fRow_ok (f : Int) : (-1 ≤ (fRow f).1 ∧ (fRow f).1 ≤ 34) ∧ 0 ≤ (fRow f).2.1 ∧ (fRow f).2.1 ≤ 128 := by
  unfold fRow
  split
  · have h : f.toNat < fRows.length := by show f.toNat < 24; omega
    have : ∀ r, r ∈ fRows → (-1 ≤ r.1 ∧ r.1 ≤ 34) ∧ 0 ≤ r.2.1 ∧ r.2.1 ≤ 128 := by decide
    exact this _ (nth_mem h)
  · decide
theorem fSize_le (f : Int) : fSize f ≤ 16 := by
  have := fRow_ok f
  unfold fSize fBits; omega
/-- the first field of a number -/
def fIndexN (id : Int) (n : Nat) : Option Nat := (List.range n).find? fun f => (nth fRows f).1 == id
def fIndex (id : Int) : Int × Bool := match fIndexN id 24 with | some f => (f, true) | none => (0, false)
theorem fRow_nat (i : Nat) (h : i < 24) : fRow i = nth fRows i := by unfold fRow; rw [if_pos (by omega)]; rfl
end Go.Proofs.Ytbncoeoamjcjjaa
end

section
set_option linter.unusedVariables false
set_option linter.unusedSimpArgs false
namespace Go.Proofs.Ytbncoeoamjcjjaa
open Go Go.AI Go.Proofs

/-- eight bits of a number -/
def hb (x : BitVec 64) (k : Nat) : BitVec 8 := (x >>> k).setWidth 8
def wBytes (a : Wide) : List (BitVec 8) := (List.range 16).map fun j => if j < 8 then hb a.hi (56 - 8 * j) else hb a.lo (56 - 8 * (j - 8))
def wPut (b : List (BitVec 8)) (a : Wide) (s : Nat) : List (BitVec 8) := b ++ (wBytes a).drop (16 - s)
theorem wBytes_len (a : Wide) : (wBytes a).length = 16 := by simp [wBytes]
theorem wPut_len (b : List (BitVec 8)) (a : Wide) (s : Nat) (h : s ≤ 16) : (wPut b a s).length = b.length + s := by simp [wPut, wBytes_len]; omega
end Go.Proofs.Ytbncoeoamjcjjaa
end

section
set_option linter.unusedVariables false
set_option linter.unusedSimpArgs false
namespace Go.Proofs.Ytbncoeoamjcjjaa
open Go Go.AI Go.Proofs

def wStep (a : Wide) (x : BitVec 8) : Wide := ⟨(a.hi <<< 8) ||| (a.lo >>> 56), (a.lo <<< 8) ||| x.setWidth 64⟩
def wVal (l : List (BitVec 8)) : Wide := l.foldl wStep wideZ
theorem wVal_snoc (l : List (BitVec 8)) (x : BitVec 8) : wVal (l ++ [x]) = wStep (wVal l) x := by simp [wVal]
def wGet (b : List (BitVec 8)) (s : Nat) : Wide × Bool := if s ≤ b.length then (wVal (b.take s), true) else (wideZ, false)
end Go.Proofs.Ytbncoeoamjcjjaa
end

section
set_option linter.unusedVariables false
set_option linter.unusedSimpArgs false
namespace Go.Proofs.Ytbncoeoamjcjjaa
open Go Go.AI Go.Proofs

def Oxm.beyond (o : Oxm) (w : Wide) : Bool := !(w.less (lowW (fBits o.field))).zero
def Oxm.form (o : Oxm) : Int := if Oxm.beyond o o.value then 7 else if !o.masked then 0 else if Oxm.beyond o o.mask || o.mask.zero then 8 else if !(o.value.less o.mask).zero then 5 else 0
def Oxm.right (o : Oxm) : Bool := !(!fRight o.field || ((o.masked && !fMasks o.field) || (!o.masked && !o.mask.zero))) && (Oxm.form o) == 0
end Go.Proofs.Ytbncoeoamjcjjaa
end

section
set_option linter.unusedVariables false
set_option linter.unusedSimpArgs false
namespace Go.Proofs.Ytbncoeoamjcjjaa
open Go Go.AI Go.Proofs

/-- what is behind a part's head -/
def oBody (o : Oxm) : List (BitVec 8) := if o.masked then wPut (wPut [] o.value (fSize o.field)) o.mask (fSize o.field) else wPut [] o.value (fSize o.field)
def oNum (o : Oxm) : Int := if o.masked then fID o.field * 2 + 1 else fID o.field * 2
def oHead (o : Oxm) : List (BitVec 8) := putN (putN (putN [] 32768 2) (oNum o) 1) (oBody o).length 1
def oEnc (o : Oxm) : List (BitVec 8) × Int := if Oxm.right o then (oHead o ++ oBody o, 0) else ([], 1)
theorem oBody_len (o : Oxm) : (oBody o).length = if o.masked then fSize o.field + fSize o.field else fSize o.field := by
  have := fSize_le o.field
  unfold oBody
  split
  · rw [wPut_len _ _ _ this, wPut_len _ _ _ this]; simp
  · rw [wPut_len _ _ _ this]; simp
end Go.Proofs.Ytbncoeoamjcjjaa
end

section
set_option linter.unusedVariables false
set_option linter.unusedSimpArgs false
namespace Go.Proofs.Ytbncoeoamjcjjaa
open Go Go.AI Go.Proofs

def bAt (b : List (BitVec 8)) (i : Nat) : Nat := (nth b i).toNat
def hField (b : List (BitVec 8)) : Int × Bool := fIndex (bAt b 2 / 2 : Nat)
def hMasked (b : List (BitVec 8)) : Bool := bAt b 2 % 2 == 1
def hWant (b : List (BitVec 8)) : Nat := if hMasked b then fSize (hField b).1 * 2 else fSize (hField b).1
/-- what is wrong with a part's head; 0 if nothing is -/
def hCode (b : List (BitVec 8)) : Int :=
  if b.length < 4 then 1 else if b.length < 4 + bAt b 3 then 1
  else if bAt b 0 != 128 || (bAt b 1 != 0 || !(hField b).2) then 6
  else if hMasked b && !fMasks (hField b).1 then 8
  else if bAt b 3 != hWant b then 1 else 0
theorem bAt_lt (b : List (BitVec 8)) (i : Nat) : bAt b i < 256 := (nth b i).isLt
end Go.Proofs.Ytbncoeoamjcjjaa
end

section
set_option linter.unusedVariables false
set_option linter.unusedSimpArgs false
namespace Go.Proofs.Ytbncoeoamjcjjaa
open Go Go.AI Go.Proofs

def oxm0 : Oxm := ⟨0, false, wideZ, wideZ⟩
/-- the part that bytes are, if their head is right -/
def oRead (b : List (BitVec 8)) : Oxm := ⟨(hField b).1, hMasked b, (wGet (b.drop 4) (fSize (hField b).1)).1,
  if hMasked b then (wGet (b.drop (4 + fSize (hField b).1)) (fSize (hField b).1)).1 else wideZ⟩
def oDec (b : List (BitVec 8)) : Oxm × Int × Int :=
  if hCode b = 0 then (if Oxm.form (oRead b) = 0 then (oRead b, 4 + bAt b 3, 0) else (oxm0, 0, Oxm.form (oRead b))) else (oxm0, 0, hCode b)
end Go.Proofs.Ytbncoeoamjcjjaa
end

section
set_option linter.unusedVariables false
set_option linter.unusedSimpArgs false
namespace Go.Proofs.Ytbncoeoamjcjjaa
open Go Go.AI Go.Proofs
attribute [local irreducible] FnP FnO FnB FnT FnSeq WK RunQ RunQW RunX RunXW

def act0 : Action := ⟨0, 0, 0, 0, 0, oxm0⟩
def aSets (f : Int) : Bool := fRight f && (f != 0 && f != 1)
def aGoes (p : Int) : Bool := (decide (0 < p) && decide (p ≤ 4294967040)) || p == 4294967293
def aMost (a : Action) : Bool := decide (0 ≤ a.max) && (decide (a.max ≤ 65535) && (a.max == 0 || a.port == 4294967293))
/-- what an action has but for what is of no use in its kind -/
def Action.bare (a : Action) : Action := if a.kind = 0 then ⟨0, a.port, a.max, 0, 0, oxm0⟩ else if a.kind = 22 then ⟨22, 0, 0, a.group, 0, oxm0⟩ else if a.kind = 17 then ⟨17, 0, 0, 0, a.ether, oxm0⟩
  else if a.kind = 25 then ⟨25, 0, 0, 0, 0, a.oxm⟩ else ⟨a.kind, 0, 0, 0, 0, oxm0⟩
def Action.fine (a : Action) : Bool := if a.kind = 0 then aGoes a.port && aMost a else if a.kind = 22 then decide (0 ≤ a.group) && decide (a.group ≤ 4294967040) else if a.kind = 17 then a.ether == 33024 || a.ether == 34984
  else if a.kind = 18 then true else if a.kind = 25 then Oxm.right a.oxm && (!a.oxm.masked && aSets a.oxm.field) else false
def Action.right (a : Action) : Bool := Action.fine a && a == Action.bare a
end Go.Proofs.Ytbncoeoamjcjjaa
end

section
set_option linter.unusedVariables false
set_option linter.unusedSimpArgs false
namespace Go.Proofs.Ytbncoeoamjcjjaa
open Go Go.AI Go.Proofs
attribute [local irreducible] FnP FnO FnB FnT FnSeq WK RunQ RunQW RunX RunXW

def aBody (a : Action) : List (BitVec 8) := if a.kind = 0 then putN (putN [] a.port 4) a.max 2 else if a.kind = 22 then putN [] a.group 4 else if a.kind = 17 then putN [] a.ether 2 else if a.kind = 25 then (oEnc a.oxm).1 else []
end Go.Proofs.Ytbncoeoamjcjjaa
end

section
set_option linter.unusedVariables false
set_option linter.unusedSimpArgs false
namespace Go.Proofs.Ytbncoeoamjcjjaa
open Go Go.AI Go.Proofs
attribute [local irreducible] FnP FnO FnB FnT FnSeq WK RunQ RunQW RunX RunXW

def aLen (n : Nat) : Nat := if 8 < (4 + n + 7) / 8 * 8 then (4 + n + 7) / 8 * 8 else 8
def aPad (a : Action) : List (BitVec 8) := aBody a ++ List.replicate (aLen (aBody a).length - 4 - (aBody a).length) 0#8
def aEnc (a : Action) : List (BitVec 8) × Int := if Action.right a = true then (putN (putN [] a.kind 2) (aLen (aBody a).length : Nat) 2 ++ aPad a, 0) else ([], 1)
end Go.Proofs.Ytbncoeoamjcjjaa
end

section
set_option linter.unusedVariables false
set_option linter.unusedSimpArgs false
namespace Go.Proofs.Ytbncoeoamjcjjaa
open Go Go.AI Go.Proofs
attribute [local irreducible] FnP FnO FnB FnT FnSeq WK RunQ RunQW RunX RunXW

def allZ (b : List (BitVec 8)) : Bool := b.all fun x => x == 0#8
end Go.Proofs.Ytbncoeoamjcjjaa
end

section
set_option linter.unusedVariables false
set_option linter.unusedSimpArgs false
namespace Go.Proofs.Ytbncoeoamjcjjaa
open Go Go.AI Go.Proofs
attribute [local irreducible] FnP FnO FnB FnT FnSeq WK RunQ RunQW RunX RunXW

def aBad (c : Int) : Action × Int × Option Int := (act0, 0, some c)
def aLength (k : Int) : Nat × Nat := if k = 0 then (16, 10) else if k = 22 then (8, 8) else if k = 17 then (8, 6) else if k = 18 then (8, 4) else (0, 0)
def aOf (k : Int) (b : List (BitVec 8)) : Action := if k = 0 then ⟨0, (getN b 4 4).1, (getN b 8 2).1, 0, 0, oxm0⟩ else if k = 22 then ⟨22, 0, 0, (getN b 4 4).1, 0, oxm0⟩ else if k = 17 then ⟨17, 0, 0, 0, (getN b 4 2).1, oxm0⟩ else ⟨k, 0, 0, 0, 0, oxm0⟩
def aPlain (k : Int) (b : List (BitVec 8)) : Action × Int × Option Int :=
  if k = 0 ∧ aGoes (getN b 4 4).1 = false then aBad 4 else if Action.right (aOf k b) = true then (aOf k b, b.length, none) else aBad (if k = 22 then 9 else 5)
end Go.Proofs.Ytbncoeoamjcjjaa
end

section
set_option linter.unusedVariables false
set_option linter.unusedSimpArgs false
namespace Go.Proofs.Ytbncoeoamjcjjaa
open Go Go.AI Go.Proofs
attribute [local irreducible] FnP FnO FnB FnT FnSeq WK RunQ RunQW RunX RunXW

/-- how many bytes a part's reading takes -/
def oLen (b : List (BitVec 8)) : Nat := (oDec b).2.1.toNat
def aSetD (b : List (BitVec 8)) : Action × Int × Option Int :=
  if (oDec (b.drop 4)).2.2 = 1 then aBad 14 else if (oDec (b.drop 4)).2.2 = 6 then aBad 13 else if (oDec (b.drop 4)).2.2 = 0 then
    (if b.length = (4 + oLen (b.drop 4) + 7) / 8 * 8 then (if allZ (b.drop (4 + oLen (b.drop 4))) = true then (if aSets (oDec (b.drop 4)).1.field = true then
      (if (oDec (b.drop 4)).1.masked = true then aBad 15 else (⟨25, 0, 0, 0, 0, (oDec (b.drop 4)).1⟩, (b.length : Int), none)) else aBad 13) else aBad 5) else aBad 1) else aBad 15
end Go.Proofs.Ytbncoeoamjcjjaa
end

section
set_option linter.unusedVariables false
set_option linter.unusedSimpArgs false
namespace Go.Proofs.Ytbncoeoamjcjjaa
open Go Go.AI Go.Proofs
attribute [local irreducible] FnP FnO FnB FnT FnSeq WK RunQ RunQW RunX RunXW

/-- how many bytes an action says it has -/
def aN (b : List (BitVec 8)) : Nat := valN ((b.drop 2).take 2)
def aK (b : List (BitVec 8)) : Nat := valN ((b.drop 0).take 2)
theorem aN_lt (b : List (BitVec 8)) (h : 8 ≤ b.length) : aN b < 65536 := by
  have := valN_lt 2 ((b.drop 2).take 2) (by simp; omega)
  exact this
def aDec (b : List (BitVec 8)) : Action × Int × Option Int :=
  if b.length < 8 then aBad 1 else if aN b < 8 ∨ ¬ aN b % 8 = 0 ∨ b.length < aN b then aBad 1 else
  if aK b = 25 then aSetD (b.take (aN b)) else if (aLength (aK b)).1 = 0 then aBad 0 else if ¬ aN b = (aLength (aK b)).1 then aBad 1 else
  if allZ ((b.take (aN b)).drop (aLength (aK b)).2) = true then aPlain (aK b) (b.take (aN b)) else aBad 5
end Go.Proofs.Ytbncoeoamjcjjaa
end

section
set_option linter.unusedVariables false
set_option linter.unusedSimpArgs false
namespace Go.Proofs.Ytbncoeoamjcjjaa
open Go Go.AI Go.Proofs
attribute [local irreducible] FnP FnO FnB FnT FnSeq WK RunQ RunQW RunX RunXW

def A12 : Action := ⟨0, 4294967293, 128, 0, 0, oxm0⟩
end Go.Proofs.Ytbncoeoamjcjjaa
end

section
set_option linter.unusedVariables false
set_option linter.unusedSimpArgs false
namespace Go.Proofs.Ytbncoeoamjcjjaa
open Go Go.AI Go.Proofs

theorem beN_snoc (n : Int) (x : BitVec 8) (s : Nat) : beN (n * 256 + x.toNat) (s + 1) = beN n s ++ [x] := by
  have hx := x.isLt
  unfold beN
  rw [List.range_succ, List.map_append]
  congr 1
  · refine List.map_congr_left fun i hi => ?_
    rw [List.mem_range] at hi
    congr 1
    have e : (2 : Int) ^ (8 * (s + 1 - 1 - i)) = 256 * 2 ^ (8 * (s - 1 - i)) := by
      rw [show 8 * (s + 1 - 1 - i) = 8 + 8 * (s - 1 - i) by omega, Int.pow_add]; rfl
    rw [e, ← Int.ediv_ediv_of_nonneg (by decide)]
    congr 1; omega
  · simp only [List.map_cons, List.map_nil, Nat.add_sub_cancel, Nat.sub_self, Nat.mul_zero, Int.pow_zero, Int.ediv_one]
    congr 1
    apply BitVec.eq_of_toNat_eq
    rw [BitVec.toNat_ofInt]; omega
theorem beN_valN : ∀ (s : Nat) (l : List (BitVec 8)), l.length = s → beN (valN l) s = l
  | 0, l, h => by rw [List.eq_nil_of_length_eq_zero h]; rfl
  | s + 1, l, h => by
    have hne : l ≠ [] := by intro e; subst e; simp at h
    have h1 : valN l = valN l.dropLast * 256 + (l.getLast hne).toNat := by
      rw [← valN_snoc, List.dropLast_concat_getLast hne]
    rw [h1]
    have := beN_snoc (valN l.dropLast) (l.getLast hne) s
    rw [show ((valN l.dropLast * 256 + (l.getLast hne).toNat : Nat) : Int) = (valN l.dropLast : Int) * 256 + ((l.getLast hne).toNat : Int) by omega, this,
      beN_valN s l.dropLast (by rw [List.length_dropLast]; omega), List.dropLast_concat_getLast hne]
theorem numOk_iff (n : Int) (s : Nat) : numOk n s = true ↔ 0 ≤ n ∧ n < 256 ^ s := by unfold numOk; simp
theorem numOk_valN {l : List (BitVec 8)} {s : Nat} (h : l.length = s) : numOk (valN l) s = true := by
  rw [numOk_iff]
  have := valN_lt s l h
  refine ⟨by omega, ?_⟩
  have h2 : ((256 ^ s : Nat) : Int) = (256 : Int) ^ s := by rw [Int.natCast_pow]; rfl
  omega
theorem putN_valN {b l : List (BitVec 8)} {s : Nat} (h : l.length = s) : putN b (valN l) s = b ++ l := by
  unfold putN; rw [numOk_valN h, if_pos rfl, beN_valN s l h]
theorem beN_at {n : Int} {s i : Nat} (h : i < (beN n s).length) : (beN n s)[i] = BitVec.ofInt 8 (n / 2 ^ (8 * (s - 1 - i))) := by simp [beN]
theorem beN_drop (n : Int) (s t : Nat) (h : s ≤ t) : (beN n t).drop (t - s) = beN n s := by
  refine List.ext_getElem (by simp [beN_len]; omega) fun i h1 h2 => ?_
  rw [beN_len] at h2
  rw [List.getElem_drop, beN_at, beN_at, show t - 1 - (t - s + i) = s - 1 - i by omega]
/-- a wide number as one number -/
def wN (a : Wide) : Nat := a.hi.toNat * 18446744073709551616 + a.lo.toNat
theorem hb_toNat (x : BitVec 64) (k : Nat) : (hb x k).toNat = x.toNat / 2 ^ k % 256 := by
  unfold hb; rw [BitVec.toNat_setWidth, BitVec.toNat_ushiftRight, Nat.shiftRight_eq_div_pow]
theorem wBytes_beN (a : Wide) : wBytes a = beN (wN a) 16 := by
  have h1 := a.hi.isLt; have h2 := a.lo.isLt
  unfold wBytes beN
  refine List.map_congr_left fun j hj => ?_
  rw [List.mem_range] at hj
  apply BitVec.eq_of_toNat_eq
  rw [BitVec.toNat_ofInt]
  have h16 : j = 0 ∨ j = 1 ∨ j = 2 ∨ j = 3 ∨ j = 4 ∨ j = 5 ∨ j = 6 ∨ j = 7 ∨ j = 8 ∨ j = 9 ∨ j = 10 ∨ j = 11 ∨ j = 12 ∨ j = 13 ∨ j = 14 ∨ j = 15 := by omega
  unfold wN
  rcases h16 with rfl | rfl | rfl | rfl | rfl | rfl | rfl | rfl | rfl | rfl | rfl | rfl | rfl | rfl | rfl | rfl <;>
  · simp only [Nat.reduceLT, if_true, if_false, Nat.reduceMul, Nat.reduceSub, hb_toNat, Nat.reducePow, Int.reducePow]
    omega
theorem wStep_wN {a : Wide} (x : BitVec 8) (h : wN a < 1329227995784915872903807060280344576) : wN (wStep a x) = wN a * 256 + x.toNat := by
  obtain ⟨ah, al⟩ := a
  have h1 := ah.isLt; have h2 := al.isLt; have h3 := x.isLt
  unfold wN at h
  simp only at h
  unfold wStep wN
  simp only [BitVec.toNat_or, BitVec.toNat_shiftLeft, BitVec.toNat_ushiftRight, BitVec.toNat_setWidth]
  have e1 : x.toNat % 2 ^ 64 = x.toNat := by omega
  have e2 : ah.toNat <<< 8 % 2 ^ 64 = (ah.toNat) <<< 8 := by rw [Nat.shiftLeft_eq]; omega
  have e3 : al.toNat <<< 8 % 2 ^ 64 = (al.toNat % 72057594037927936) <<< 8 := by rw [Nat.shiftLeft_eq, Nat.shiftLeft_eq]; omega
  rw [e1, e2, e3, ← Nat.shiftLeft_add_eq_or_of_lt (i := 8) (b := al.toNat >>> 56) (by rw [Nat.shiftRight_eq_div_pow]; omega), ← Nat.shiftLeft_add_eq_or_of_lt (i := 8) (b := x.toNat) h3,
    Nat.shiftLeft_eq, Nat.shiftLeft_eq, Nat.shiftRight_eq_div_pow]
  omega
set_option maxRecDepth 100000 in
theorem wVal_wN : ∀ (s : Nat) (l : List (BitVec 8)), l.length = s → s ≤ 16 → wN (wVal l) = valN l
  | 0, l, h, _ => by rw [List.eq_nil_of_length_eq_zero h]; rfl
  | s + 1, l, h, hs => by
    have hne : l ≠ [] := by intro e; subst e; simp at h
    have hd : l.dropLast.length = s := by rw [List.length_dropLast]; omega
    have ih := wVal_wN s l.dropLast hd (by omega)
    have hlt := valN_lt s l.dropLast hd
    have h15 : 256 ^ s ≤ 1329227995784915872903807060280344576 := by
      have e15 : 256 ^ 15 = 1329227995784915872903807060280344576 := by rfl
      rw [← e15]; exact Nat.pow_le_pow_right (by decide) (by omega)
    have hlt2 : wN (wVal l.dropLast) < 1329227995784915872903807060280344576 := by rw [ih]; exact Nat.lt_of_lt_of_le hlt h15
    rw [← List.dropLast_concat_getLast hne, wVal_snoc, valN_snoc, wStep_wN _ hlt2, ih]
theorem wPut_beN (b : List (BitVec 8)) (a : Wide) (s : Nat) (h : s ≤ 16) : wPut b a s = b ++ beN (wN a) s := by
  unfold wPut; rw [wBytes_beN, beN_drop _ s 16 h]
theorem wPut_wGet (b p : List (BitVec 8)) (s : Nat) (h : s ≤ 16) (hb : s ≤ b.length) : wPut p (wGet b s).1 s = p ++ b.take s := by
  have hl : (b.take s).length = s := by rw [List.length_take]; omega
  rw [wPut_beN _ _ _ h]
  unfold wGet
  rw [if_pos hb]
  simp only
  rw [wVal_wN s _ hl h, beN_valN s _ hl]
end Go.Proofs.Ytbncoeoamjcjjaa
end

section
set_option linter.unusedVariables false
set_option linter.unusedSimpArgs false
namespace Go.Proofs.Ytbncoeoamjcjjaa
open Go Go.AI Go.Proofs

theorem fIndex_back {id : Int} (h : (fIndex id).2 = true) : fID (fIndex id).1 = id ∧ fRight (fIndex id).1 = true := by
  unfold fIndex at h ⊢
  cases hf : fIndexN id 24 with
  | none => rw [hf] at h; cases h
  | some f =>
    unfold fIndexN at hf
    have h1 := List.find?_some hf
    have h2 := List.mem_of_find?_eq_some hf
    rw [List.mem_range] at h2
    simp only [beq_iff_eq] at h1
    refine ⟨?_, ?_⟩
    · show fID (f : Int) = id
      unfold fID; rw [fRow_nat f h2]; exact h1
    · unfold fRight; simp; omega
theorem putN_one {b : List (BitVec 8)} {n : Int} (h0 : 0 ≤ n) (h : n < 256) : putN b n 1 = b ++ [BitVec.ofInt 8 n] := by
  unfold putN
  rw [if_pos (by rw [numOk_iff]; omega)]
  congr 1
  show [BitVec.ofInt 8 (n / 2 ^ (8 * (1 - 1 - 0)))] = _
  rw [show 8 * (1 - 1 - 0) = 0 from rfl, Int.pow_zero, Int.ediv_one]
theorem fID_range {f : Int} (h : fRight f = true) : 0 ≤ fID f ∧ fID f ≤ 34 := by
  unfold fRight at h
  rw [Bool.and_eq_true, decide_eq_true_eq, decide_eq_true_eq] at h
  unfold fID fRow
  rw [if_pos ⟨h.1, h.2⟩]
  have hl : f.toNat < fRows.length := by show f.toNat < 24; omega
  have : ∀ r, r ∈ fRows → 0 ≤ r.1 ∧ r.1 ≤ 34 := by decide
  exact this _ (nth_mem hl)
theorem oHead_eq {o : Oxm} (h : fRight o.field = true) : oHead o = [128#8, 0#8, BitVec.ofInt 8 (oNum o), BitVec.ofInt 8 (oBody o).length] := by
  have hr := fID_range h
  have hn : 0 ≤ oNum o ∧ oNum o < 256 := by unfold oNum; split <;> omega
  have hb := oBody_len o
  have hs := fSize_le o.field
  have hb2 : (oBody o).length ≤ 32 := by rw [hb]; split <;> omega
  unfold oHead
  rw [putN_one (n := ((oBody o).length : Int)) (by omega) (by omega), putN_one hn.1 hn.2]
  rfl
theorem toNat_ofInt8 {n : Int} (h0 : 0 ≤ n) (h : n < 256) : (BitVec.ofInt 8 n).toNat = n.toNat := by
  rw [BitVec.toNat_ofInt]; omega
theorem ofInt8_nat (x : BitVec 8) : BitVec.ofInt 8 (x.toNat : Int) = x := by
  apply BitVec.eq_of_toNat_eq; have := x.isLt; rw [toNat_ofInt8 (by omega) (by omega)]; omega
theorem oRight_of {o : Oxm} (h1 : fRight o.field = true) (h2 : o.masked = true → fMasks o.field = true) (h3 : o.masked = false → o.mask = wideZ) (h4 : Oxm.form o = 0) : Oxm.right o = true := by
  unfold Oxm.right
  rw [h1, h4]
  cases hm : o.masked
  · rw [h3 hm]; rfl
  · rw [h2 hm]; rfl
theorem oDec_back {b : List (BitVec 8)} {o : Oxm} {n : Int} (h : oDec b = (o, n, 0)) : Oxm.right o = true ∧ ∃ k : Nat, n = (k : Int) ∧ 4 ≤ k ∧ k ≤ b.length ∧ oEnc o = (b.take k, 0) := by
  unfold oDec at h
  split at h
  case isFalse hc => simp only [Prod.mk.injEq] at h; exact absurd h.2.2 hc
  rename_i hc
  split at h
  case isFalse hfm => simp only [Prod.mk.injEq] at h; exact absurd h.2.2 hfm
  rename_i hfm
  simp only [Prod.mk.injEq, and_true] at h
  obtain ⟨rfl, rfl⟩ := h
  have l2 := bAt_lt b 2
  have l3 := bAt_lt b 3
  unfold hCode at hc
  split at hc
  · cases hc
  rename_i c1
  split at hc
  · cases hc
  rename_i c2
  split at hc
  · cases hc
  rename_i c3
  split at hc
  · cases hc
  rename_i c4
  split at hc
  · cases hc
  rename_i c5
  simp only [Bool.or_eq_true, bne_iff_ne, ne_eq, Bool.not_eq_true', not_or, Decidable.not_not, Bool.not_eq_false, Bool.and_eq_true, not_and] at c3 c4 c5
  obtain ⟨b0, b1, hF2⟩ := c3
  have hfb := fIndex_back (id := ((bAt b 2 / 2 : Nat) : Int)) hF2
  have hff : (oRead b).field = (hField b).1 := rfl
  have hfm2 : (oRead b).masked = hMasked b := rfl
  have hr : Oxm.right (oRead b) = true := oRight_of hfb.2 (fun hm => c4 hm) (fun hm => by
    have hm' : hMasked b = false := hm
    unfold oRead; simp only [hm']; rfl) hfm
  refine ⟨hr, 4 + bAt b 3, by omega, by omega, by omega, ?_⟩
  have hs := fSize_le (hField b).1
  have hbl := oBody_len (oRead b)
  have hlen : (oBody (oRead b)).length = bAt b 3 := by
    rw [hbl, hff, hfm2, c5]; unfold hWant; split
    · omega
    · rfl
  have hnum : oNum (oRead b) = (bAt b 2 : Int) := by
    have e1 : fID (hField b).1 = ((bAt b 2 / 2 : Nat) : Int) := hfb.1
    unfold oNum; rw [hff, hfm2, e1]
    unfold hMasked
    split
    · rename_i hm; rw [beq_iff_eq] at hm; omega
    · rename_i hm; rw [beq_iff_eq] at hm; omega
  have hbody : oBody (oRead b) = (b.drop 4).take (bAt b 3) := by
    have hdl : (b.drop 4).length = b.length - 4 := List.length_drop
    unfold oBody
    rw [hff, hfm2]
    cases hm : hMasked b
    · have hw : bAt b 3 = fSize (hField b).1 := by rw [c5]; unfold hWant; rw [hm]; rfl
      show wPut [] (wGet (b.drop 4) (fSize (hField b).1)).1 (fSize (hField b).1) = _
      rw [wPut_wGet _ _ _ hs (by rw [hdl]; omega), List.nil_append, hw]
    · have hw : bAt b 3 = fSize (hField b).1 * 2 := by rw [c5]; unfold hWant; rw [hm]; rfl
      have ev : (oRead b).value = (wGet (b.drop 4) (fSize (hField b).1)).1 := rfl
      have em : (oRead b).mask = (wGet (b.drop (4 + fSize (hField b).1)) (fSize (hField b).1)).1 := by unfold oRead; rw [hm]; rfl
      rw [if_pos rfl, ev, em, wPut_wGet _ _ _ hs (by rw [List.length_drop]; omega), wPut_wGet _ _ _ hs (by rw [List.length_drop]; omega), List.nil_append, hw, ← List.drop_drop,
        show fSize (hField b).1 * 2 = fSize (hField b).1 + fSize (hField b).1 by omega, List.take_add]
  have hb4 : b.take 4 = [128#8, 0#8, nth b 2, nth b 3] := by
    match b, c1, b0, b1 with
    | x0 :: x1 :: x2 :: x3 :: r, _, b0, b1 =>
      have e0 : x0 = 128#8 := BitVec.eq_of_toNat_eq b0
      have e1 : x1 = 0#8 := BitVec.eq_of_toNat_eq b1
      rw [e0, e1]; rfl
    | [], c1, _, _ => simp at c1
    | [_], c1, _, _ => simp at c1
    | [_, _], c1, _, _ => simp at c1
    | [_, _, _], c1, _, _ => simp at c1
  unfold oEnc
  rw [if_pos hr, oHead_eq hfb.2, hnum, hlen, hbody, List.take_add, hb4]
  have e2 : BitVec.ofInt 8 (bAt b 2 : Int) = nth b 2 := ofInt8_nat _
  have e3 : BitVec.ofInt 8 (bAt b 3 : Int) = nth b 3 := ofInt8_nat _
  rw [e2, e3]
end Go.Proofs.Ytbncoeoamjcjjaa
end

section
set_option linter.unusedVariables false
set_option linter.unusedSimpArgs false
namespace Go.Proofs.Ytbncoeoamjcjjaa
open Go Go.AI Go.Proofs

theorem allZ_iff (l : List (BitVec 8)) : allZ l = true ↔ l = List.replicate l.length 0#8 := by
  unfold allZ
  rw [List.all_eq_true, List.eq_replicate_iff]
  simp
theorem getN_val {b : List (BitVec 8)} {p s : Nat} (h : p + s ≤ b.length) : getN b p s = ((valN ((b.drop p).take s) : Int), 0) := by unfold getN; rw [if_pos h]
theorem putN_two {b : List (BitVec 8)} {k n : Nat} (h8 : 4 ≤ b.length) (hk : valN ((b.drop 0).take 2) = k) (hn : valN ((b.drop 2).take 2) = n) : putN (putN [] (k : Int) 2) (n : Int) 2 = b.take 4 := by
  rw [← hk, ← hn, putN_valN (by simp; omega), putN_valN (by simp; omega), List.drop_zero, List.nil_append, show (4 : Nat) = 2 + 2 from rfl, List.take_add]
set_option maxHeartbeats 1000000 in
theorem aDec_back {b : List (BitVec 8)} {y : Action} {n : Int} (h : aDec b = (y, n, none)) : Action.right y = true ∧ ∃ k : Nat, n = (k : Int) ∧ 8 ≤ k ∧ k ≤ b.length ∧ k % 8 = 0 ∧ aEnc y = (b.take k, 0) := by
  rw [aDec] at h
  split at h
  · cases h
  rename_i h8
  split at h
  · cases h
  rename_i c1
  have hNb : aN b ≤ b.length := by omega
  have hNl : (b.take (aN b)).length = aN b := by rw [List.length_take]; omega
  have hN4 : valN (((b.take (aN b)).drop 2).take 2) = aN b := by
    unfold aN at c1 ⊢
    rw [List.drop_take, List.take_take, Nat.min_eq_left (by omega)]
  have hK4 : valN (((b.take (aN b)).drop 0).take 2) = aK b := by
    rw [List.drop_take, List.take_take, Nat.min_eq_left (by omega)]; rfl
  have hlt := aN_lt b (by omega)
  obtain ⟨B, hB⟩ : ∃ B, b.take (aN b) = B := ⟨_, rfl⟩
  obtain ⟨N, hN⟩ : ∃ N, aN b = N := ⟨_, rfl⟩
  obtain ⟨K, hK⟩ : ∃ K, aK b = K := ⟨_, rfl⟩
  rw [hB] at h hNl hN4 hK4
  rw [hN] at h hNl hN4 c1 hNb hlt
  rw [hK] at h hK4
  have hBb : B = b.take N := by rw [← hB, hN]
  have hhead := putN_two (b := B) (k := K) (n := N) (by omega) hK4 hN4
  have fin : ∀ (y : Action), Action.right y = true → y.kind = (K : Int) → (aBody y) ++ List.replicate (N - 4 - (aBody y).length) 0#8 = B.drop 4 → aLen (aBody y).length = N → aEnc y = (b.take N, 0) := by
    intro y hr hk hp hl
    unfold aEnc
    rw [if_pos hr, hk, hl, hhead]
    unfold aPad
    rw [hl, hp, List.take_append_drop, hBb]
  split at h
  · rename_i k25
    subst k25
    unfold aSetD at h
    split at h
    · cases h
    split at h
    · cases h
    split at h
    case isFalse => cases h
    rename_i o1 o6 o0
    split at h
    case isFalse => cases h
    rename_i hl
    split at h
    case isFalse => cases h
    rename_i hz
    split at h
    case isFalse => cases h
    rename_i hs
    split at h
    · cases h
    rename_i hm
    simp only [Prod.mk.injEq, and_true] at h
    obtain ⟨rfl, rfl⟩ := h
    obtain ⟨⟨oo, on, oc⟩, hD⟩ : ∃ D, oDec (B.drop 4) = D := ⟨_, rfl⟩
    rw [hD] at o0 hs hm ⊢
    simp only at o0 hs hm ⊢
    subst o0
    obtain ⟨hor, x, hx, hx4, hxl, hoe⟩ := oDec_back hD
    have hol : oLen (B.drop 4) = x := by unfold oLen; rw [hD]; simp only; omega
    rw [hol] at hl hz
    rw [List.length_drop] at hxl
    have hrr : Action.right ⟨25, 0, 0, 0, 0, oo⟩ = true := by
      have hm' : oo.masked = false := by simpa using hm
      unfold Action.right Action.fine Action.bare
      simp [hor, hm', hs]
    refine ⟨hrr, B.length, rfl, by omega, by omega, by omega, ?_⟩
    rw [hNl]
    have eb : aBody ⟨25, 0, 0, 0, 0, oo⟩ = (B.drop 4).take x := by show (oEnc oo).1 = _; rw [hoe]
    have ebl : (aBody ⟨25, 0, 0, 0, 0, oo⟩).length = x := by rw [eb, List.length_take, List.length_drop]; omega
    refine fin _ hrr rfl ?_ ?_
    · rw [ebl, eb]
      rw [allZ_iff, List.length_drop, hNl] at hz
      rw [show N - 4 - x = N - (4 + x) by omega, ← hz, ← List.drop_drop, List.take_append_drop]
    · rw [ebl]; unfold aLen; split <;> omega
  rename_i k25
  split at h
  · cases h
  rename_i w0
  split at h
  · cases h
  rename_i w1
  split at h
  case isFalse => cases h
  rename_i hz
  unfold aPlain at h
  split at h
  · cases h
  split at h
  case isFalse => cases h
  rename_i hr
  simp only [Prod.mk.injEq, and_true] at h
  obtain ⟨rfl, rfl⟩ := h
  refine ⟨hr, B.length, rfl, by omega, by omega, by omega, ?_⟩
  rw [hNl]
  have hw : N = (aLength (K : Int)).1 := by omega
  have hkk : K = 0 ∨ K = 22 ∨ K = 17 ∨ K = 18 := by
    unfold aLength at w0
    split at w0
    · omega
    split at w0
    · omega
    split at w0
    · omega
    split at w0
    · omega
    · exact absurd rfl w0
  rw [allZ_iff, List.length_drop, hNl] at hz
  rcases hkk with rfl | rfl | rfl | rfl
  · have hN16 : N = 16 := hw
    subst hN16
    have e1 : getN B 4 4 = ((valN ((B.drop 4).take 4) : Int), 0) := getN_val (by omega)
    have e2 : getN B 8 2 = ((valN ((B.drop 8).take 2) : Int), 0) := getN_val (by omega)
    have eb : aBody (aOf ((0 : Nat) : Int) B) = (B.drop 4).take 4 ++ (B.drop 8).take 2 := by
      show putN (putN [] (getN B 4 4).1 4) (getN B 8 2).1 2 = _
      rw [e1, e2, putN_valN (by simp; omega), putN_valN (by simp; omega), List.nil_append]
    have ebl : (aBody (aOf ((0 : Nat) : Int) B)).length = 6 := by rw [eb]; simp; omega
    refine fin _ hr rfl ?_ (by rw [ebl]; rfl)
    have hz' : B.drop 10 = List.replicate 6 0#8 := hz
    have h8 : B.drop 8 = (B.drop 4).drop 4 := by rw [List.drop_drop]
    have h10 : B.drop 10 = ((B.drop 4).drop 4).drop 2 := by rw [List.drop_drop, List.drop_drop]
    rw [ebl, eb]
    show _ ++ List.replicate 6 0#8 = _
    rw [← hz', h10, h8, List.append_assoc, List.take_append_drop, List.take_append_drop]
  · have hN16 : N = 8 := hw
    subst hN16
    have e1 : getN B 4 4 = ((valN ((B.drop 4).take 4) : Int), 0) := getN_val (by omega)
    have eb : aBody (aOf ((22 : Nat) : Int) B) = (B.drop 4).take 4 := by
      show putN [] (getN B 4 4).1 4 = _
      rw [e1, putN_valN (by simp; omega), List.nil_append]
    have ebl : (aBody (aOf ((22 : Nat) : Int) B)).length = 4 := by rw [eb]; simp; omega
    refine fin _ hr rfl ?_ (by rw [ebl]; rfl)
    rw [ebl, eb]
    show _ ++ [] = _
    rw [List.append_nil, List.take_of_length_le (by simp; omega)]
  · have hN16 : N = 8 := hw
    subst hN16
    have e1 : getN B 4 2 = ((valN ((B.drop 4).take 2) : Int), 0) := getN_val (by omega)
    have eb : aBody (aOf ((17 : Nat) : Int) B) = (B.drop 4).take 2 := by
      show putN [] (getN B 4 2).1 2 = _
      rw [e1, putN_valN (by simp; omega), List.nil_append]
    have ebl : (aBody (aOf ((17 : Nat) : Int) B)).length = 2 := by rw [eb]; simp; omega
    refine fin _ hr rfl ?_ (by rw [ebl]; rfl)
    have hz' : B.drop 6 = List.replicate 2 0#8 := hz
    have h10 : B.drop 6 = (B.drop 4).drop 2 := by rw [List.drop_drop]
    rw [ebl, eb]
    show _ ++ List.replicate 2 0#8 = _
    rw [← hz', h10, List.take_append_drop]
  · have hN16 : N = 8 := hw
    subst hN16
    have eb : aBody (aOf ((18 : Nat) : Int) B) = [] := rfl
    refine fin _ hr rfl ?_ (by rw [eb]; rfl)
    have hz' : B.drop 4 = List.replicate 4 0#8 := hz
    rw [eb, hz']; rfl
end Go.Proofs.Ytbncoeoamjcjjaa
end

section
set_option linter.unusedVariables false
set_option linter.unusedSimpArgs false
namespace Go.Proofs.Ytbncoeoamjcjjaa
open Go Go.AI Go.Proofs
attribute [local irreducible] FnP FnO FnB FnT FnSeq WK RunQ RunQW RunX RunXW

theorem act_load (l : List Action) (i : Nat) (h : i < l.length) : ((actL l).drop (i * 11)).take 11 = (nth l i).enc ∧ 11 ≤ l.length * 11 - i * 11 := ⟨act_sub l i h, by omega⟩
end Go.Proofs.Ytbncoeoamjcjjaa
end

section
set_option linter.unusedVariables false
set_option linter.unusedSimpArgs false
namespace Go.Proofs.Ytbncoeoamjcjjaa
open Go Go.AI Go.Proofs
attribute [local irreducible] FnP FnO FnB FnT FnSeq WK RunQ RunQW RunX RunXW

def acGlue (acc : List Action) (r : List Action × Option Int) : List Action × Option Int := match r.2 with | none => (acc ++ r.1, none) | some c => ([], some c)
def acDecF : Nat → List (BitVec 8) → List Action × Option Int
  | 0, _ => ([], none)
  | f + 1, b => if b.length = 0 then ([], none) else match (aDec b).2.2 with
    | some c => ([], some c)
    | none => acGlue [(aDec b).1] (acDecF f (b.drop (aDec b).2.1.toNat))
theorem acGlue_glue (a b : List Action) (r : List Action × Option Int) : acGlue a (acGlue b r) = acGlue (a ++ b) r := by
  obtain ⟨l, c⟩ := r
  cases c <;> simp [acGlue]
theorem acGlue_nil (r : List Action × Option Int) (h : ∀ c, r.2 = some c → r.1 = []) : acGlue [] r = r := by
  obtain ⟨l, c⟩ := r
  cases c with
  | none => simp [acGlue]
  | some c => simp only at h; rw [h c rfl]; rfl
theorem acDecF_bad : ∀ (f : Nat) (b : List (BitVec 8)) (c : Int), (acDecF f b).2 = some c → (acDecF f b).1 = []
  | 0, b, c, h => rfl
  | f + 1, b, c, h => by
    rw [acDecF] at h ⊢
    split
    · rfl
    rename_i h0
    rw [if_neg h0] at h
    cases hd : (aDec b).2.2 with
    | some c => rfl
    | none =>
      simp only [hd] at h ⊢
      cases hr : (acDecF f (b.drop (aDec b).2.1.toNat)).2 with
      | none => simp [acGlue, hr] at h
      | some c => simp [acGlue, hr]
structure AcAt (b : List (BitVec 8)) (x : Nat × Nat × List Action) : Prop where
  le : x.2.1 ≤ b.length
  fuel : b.length - x.2.1 ≤ x.1
  eq : acDecF b.length b = acGlue x.2.2 (acDecF x.1 (b.drop x.2.1))
  small : x.2.2.length * 8 ≤ x.2.1
theorem AcAt.start (b : List (BitVec 8)) : AcAt b (b.length, 0, []) := ⟨Nat.zero_le _, Nat.le_refl _, (acGlue_nil _ (acDecF_bad _ _)).symm, Nat.le_refl _⟩
theorem AcAt.next {b : List (BitVec 8)} {x : Nat × Nat × List Action} (h : AcAt b x) (hp : x.2.1 < b.length) {y : Action} {n : Int} (hd : aDec (b.drop x.2.1) = (y, n, none)) : ∃ k : Nat, n = k ∧ x.2.1 + k ≤ b.length ∧ 0 < k ∧
    AcAt b (x.1 - 1, x.2.1 + k, x.2.2 ++ [y]) := by
  obtain ⟨_, k, hk, h8, hkl, _, _⟩ := aDec_back hd
  rw [List.length_drop] at hkl
  have hf : ∃ f, x.1 = f + 1 := ⟨x.1 - 1, by have := h.fuel; omega⟩
  obtain ⟨f, hf⟩ := hf
  refine ⟨k, hk, by omega, by omega, ⟨by simp only; omega, by have := h.fuel; simp only; omega, ?_, by have := h.small; simp only [List.length_append, List.length_singleton]; omega⟩⟩
  rw [h.eq, hf, acDecF, if_neg (by rw [List.length_drop]; omega), hd]
  simp only [Nat.add_sub_cancel]
  rw [acGlue_glue, hk, Int.toNat_natCast, List.drop_drop]
end Go.Proofs.Ytbncoeoamjcjjaa
end
