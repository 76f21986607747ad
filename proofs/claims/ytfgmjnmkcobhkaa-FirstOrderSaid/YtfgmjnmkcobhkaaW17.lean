/- The laws of which flows a change takes: what they answer. -/
import Derived.Test.YtfgmjnmkcobhkaaW16
set_option linter.all false
set_option linter.unnecessarySimpa false
set_option linter.unusedVariables false
set_option linter.unusedSimpArgs false
namespace Go.Proofs.Ytfgmjnmkcobhkaa
open Go Go.AI Go.Proofs

def fP0 : Flow := ⟨6#64, 0, 0, 0, 0, [], []⟩
def fP1 : Flow := ⟨5#64, 0, 0, 0, 0, [⟨0, false, ⟨0#64, 1#64⟩, wideZ⟩], []⟩
def tP : List Flow := [fP0, fP1]
def mP : FlowMod := ⟨4#64, 4#64, 0, 3, 0, 0, 0, 0, 4294967295, 4294967295, 0, [], []⟩
def mZ : FlowMod := ⟨0#64, 0#64, 0, 0, 0, 0, 0, 0, 0, 0, 0, [], []⟩
theorem uI_2 : uI 2#64 = 2 := rfl
theorem uI_3 : uI 3#64 = 3 := rfl
theorem mZ_enc : mZ.enc = [.int .u64 0, .int .u64 0, .int .i64 0, .int .i64 0, .int .i64 0, .int .i64 0, .int .i64 0, .int .i64 0, .int .i64 0, .int .i64 0, .int .i64 0, .sl false 0 [], .sl false 0 []] := rfl
theorem uI_4 : uI 4#64 = 4 := rfl
theorem uI_5 : uI 5#64 = 5 := rfl
theorem uI_6 : uI 6#64 = 6 := rfl
theorem tP_len : tP.length = 2 := rfl
theorem tP_0 : (flowL tP).take 7 = fP0.enc := rfl
theorem plP : ∀ f, f ∈ tP → FPl f := by
  intro f hf
  simp only [tP, List.mem_cons, List.not_mem_nil, or_false] at hf
  rcases hf with rfl | rfl <;> exact plain_ok (by kernel_rfl)
theorem okP : FOk (FlowMod.flow mP) := (plain_ok (f := FlowMod.flow mP) (by kernel_rfl)).ok
theorem okZ : FOk (FlowMod.flow mZ) := (plain_ok (f := FlowMod.flow mZ) (by kernel_rfl)).ok
theorem kP1 : eqBy (fun x y => x == y) (took mP tP) [0, 1] = true := by kernel_rfl
theorem kP2 : eqBy (fun x y => x == y) (took mZ tP) [0] = true := by kernel_rfl
theorem kP3 : cookieOk fP0 2#64 3#64 = true := by kernel_rfl
theorem kP4 : Flow.out fP0 1 4294967295 = false := by kernel_rfl
theorem kP5 : FlowMod.takes mP fP0 = true := by kernel_rfl
theorem tk1 : (took mP tP).length ≤ 1000000 := of_decide_eq_true (by kernel_rfl)
theorem tk2 : (took mZ tP).length ≤ 1000000 := of_decide_eq_true (by kernel_rfl)
theorem intS_two (x y : Int) : intS [x, y] = .sl false 2 [.int .i64 x, .int .i64 y] := rfl
set_option maxHeartbeats 4000000 in
theorem awake22_c : FnP Try.prog 34 [] (.bool true) := by
  refine FnP.intro Try.func34 rfl rfl fun G w => ?_
  repeat (first | refine WK.seq ?_ | refine WK.block ?_ | refine WK.inBlock ?_ | refine WK.skip ?_ | refine WK.label ?_ | refine WK.scope ?_ | refine WK.inScope ?_ | refine WK.exit rfl ?_)
  first | refine WK.reg 100 Try.ntmps34 (by kernel_rfl) ?_ | refine WK.regD 100 clsOf (by kernel_rfl) Try.ntmps34 (by kernel_rfl) (by kernel_rfl) ?_
  intro A hA Q hQ
  simp
  refine hQ _ _ ?_
  clear hQ hA
  repeat (first | refine WK.seq ?_ | refine WK.block ?_ | refine WK.inBlock ?_ | refine WK.skip ?_ | refine WK.label ?_ | refine WK.scope ?_ | refine WK.inScope ?_ | refine WK.exit rfl ?_)
  first | refine WK.reg 200 Try.ntmps34 (by kernel_rfl) ?_ | refine WK.regD 200 clsOf (by kernel_rfl) Try.ntmps34 (by kernel_rfl) (by kernel_rfl) ?_
  intro A hA Q hQ
  simp
  refine hQ _ _ ?_
  clear hQ hA
  repeat (first | refine WK.seq ?_ | refine WK.block ?_ | refine WK.inBlock ?_ | refine WK.skip ?_ | refine WK.label ?_ | refine WK.scope ?_ | refine WK.inScope ?_ | refine WK.exit rfl ?_)
  first | refine WK.reg 300 Try.ntmps34 (by kernel_rfl) ?_ | refine WK.regD 300 clsOf (by kernel_rfl) Try.ntmps34 (by kernel_rfl) (by kernel_rfl) ?_
  intro A hA Q hQ
  simp
  refine hQ _ _ ?_
  clear hQ hA
  repeat (first | refine WK.seq ?_ | refine WK.block ?_ | refine WK.inBlock ?_ | refine WK.skip ?_ | refine WK.label ?_ | refine WK.scope ?_ | refine WK.inScope ?_ | refine WK.exit rfl ?_)
  refine WK.next (st' := (⟨(upd (upd J 1 (.sl false 2 (flowL tP))) 2 (.ptr 201 0)), (upd B0 201 (.var mP.enc)), 0⟩ : St)) (fun n => n) ?_ (by repeat (first | exact TmW.nil | refine TmW.upd ?_ (by simp (maxDischargeDepth := 120) [mP, FlowMod.enc, flowL, tP, fP0, fP1, Flow.enc, oxmL, Oxm.enc, instL, wideZ, uI_zero, uI_one, uI_4, uI_5, uI_6]))) (by repeat (first | exact BxW.nil | refine BxW.upd ?_ (by simp (maxDischargeDepth := 120) [mP, FlowMod.enc, flowL, tP, fP0, fP1, Flow.enc, oxmL, Oxm.enc, instL, wideZ, uI_zero, uI_one, uI_4, uI_5, uI_6]))) (by first | exact InjW.id | exact InjW.nil | exact InjW.one | exact InjW.two (by simp) | exact InjW.three (by simp) (by simp) (by simp))
  repeat (first | refine WK.seq ?_ | refine WK.block ?_ | refine WK.inBlock ?_ | refine WK.skip ?_ | refine WK.label ?_ | refine WK.scope ?_ | refine WK.inScope ?_ | refine WK.exit rfl ?_)
  first | refine WK.reg 400 Try.ntmps34 (by kernel_rfl) ?_ | refine WK.regD 400 clsOf (by kernel_rfl) Try.ntmps34 (by kernel_rfl) (by kernel_rfl) ?_
  intro A hA Q hQ
  have hg5 : (A[5]?).bind (·.dst) = some 15 := by rw [hA]; rfl
  have hg12 : (A[12]?).bind (·.dst) = some 22 := by rw [hA]; rfl
  have hg18 : (A[18]?).bind (·.dst) = some 28 := by rw [hA]; rfl
  have hg25 : (A[25]?).bind (·.dst) = some 35 := by rw [hA]; rfl
  have hg32 : (A[32]?).bind (·.dst) = some 42 := by rw [hA]; rfl
  simp [hg5, hg12, hg18, hg25, hg32]
  refine RunQ.call rfl rfl rfl rfl (by rfl) (by simp (maxDischargeDepth := 120) [hg5, flowS, tP_len]) (plist_c mP tP okP (by rw [tP_len]; omega) plP) (by simp [hg5, flowS, tP_len]) ?_
  refine RunQ.eval ?_
  simp [hg5, flowS, tP_len]
  refine RunQ.call rfl rfl rfl rfl (by rfl) (by simp (maxDischargeDepth := 120) [hg5, kP1, intS_two]) (iequal_c (took mP tP) [0, 1] tk1) (by simp [hg5, kP1, intS_two]) ?_
  refine RunQ.eval ?_
  simp [hg5, kP1, intS_two]
  refine RunQ.callG rfl rfl (by simp [hg5, hg12, flowS, tP_len, mZ_enc]) rfl (by rfl) (by simp (maxDischargeDepth := 120) [hg5, hg12, flowS, tP_len, mZ_enc]) (plist_c mZ tP okZ (by rw [tP_len]; omega) plP) (by simp [hg5, hg12, flowS, tP_len, mZ_enc]) ?_
  refine RunQ.eval ?_
  simp [hg5, hg12, flowS, tP_len, mZ_enc]
  refine RunQ.callG rfl rfl (by simp [hg5, hg12, kP2, intS_one, tP_len, tP_0]) rfl (by rfl) (by simp (maxDischargeDepth := 120) [hg5, hg12, kP2, intS_one, tP_len, tP_0]) (iequal_c (took mZ tP) [0] tk2) (by simp [hg5, hg12, kP2, intS_one, tP_len, tP_0]) ?_
  refine RunQ.eval ?_
  simp [hg5, hg12, kP2, intS_one, tP_len, tP_0]
  refine RunQ.callG rfl rfl (by simp [hg12, hg18, kP3, tP_len, tP_0, uI_2, uI_3]) rfl (by rfl) (by simp (maxDischargeDepth := 120) [hg12, hg18, kP3, tP_len, tP_0, uI_2, uI_3]) (cookie_c fP0 2#64 3#64) (by simp [hg12, hg18, kP3, tP_len, tP_0, uI_2, uI_3]) ?_
  refine RunQ.eval ?_
  simp [hg12, hg18, kP3, tP_len, tP_0, uI_2, uI_3]
  refine RunQ.callG rfl rfl (by simp [hg18, hg25, kP4, tP_len, tP_0]) rfl (by rfl) (by simp (maxDischargeDepth := 120) [hg18, hg25, kP4, tP_len, tP_0]) (out_c fP0 1 4294967295 (plP _ (by simp [tP]))) (by simp [hg18, hg25, kP4, tP_len, tP_0]) ?_
  refine RunQ.eval ?_
  simp [hg18, hg25, kP4, tP_len, tP_0]
  refine RunQ.callG rfl rfl (by simp [hg25, hg32, kP5]) rfl (by rfl) (by simp (maxDischargeDepth := 120) [hg25, hg32, kP5]) (takes_c fP0 mP (plP _ (by simp [tP])) okP) (by simp [hg25, hg32, kP5]) ?_
  refine RunQ.eval ?_
  simp [hg25, hg32, kP5]
  refine RunQ.callG rfl rfl (by simp [hg32, flowS, tP_len]) rfl (by rfl) (by simp (maxDischargeDepth := 120) [hg32, flowS, tP_len]) (pOf_c mP tP) (by simp [hg32, flowS, tP_len]) ?_
  refine RunQ.eval ?_
  simp [hg32, flowS, tP_len]
  refine hQ _ _ ?_
  clear hQ hA
  repeat (first | refine WK.seq ?_ | refine WK.block ?_ | refine WK.inBlock ?_ | refine WK.skip ?_ | refine WK.label ?_ | refine WK.scope ?_ | refine WK.inScope ?_ | refine WK.exit rfl ?_)
  refine WK.ret Try.func34 (by simp (maxDischargeDepth := 120) [Try.results34]) (by simp)
theorem pickFilters_c (f : Flow) (c m : BitVec 64) (p g : Int) : FnP Try.prog 7 [.agg f.enc, .int .u64 (uI c), .int .u64 (uI m), .int .i64 p, .int .i64 g] (.bool true) := by
  cases pf : Flow.plain f
  · refine FnP.intro Try.func7 rfl rfl fun G w => ?_
    repeat (first | refine WK.seq ?_ | refine WK.block ?_ | refine WK.inBlock ?_ | refine WK.skip ?_ | refine WK.label ?_ | refine WK.scope ?_ | refine WK.inScope ?_ | refine WK.exit rfl ?_)
    first | refine WK.reg 100 Try.ntmps7 (by kernel_rfl) ?_ | refine WK.regD 100 clsOf (by kernel_rfl) Try.ntmps7 (by kernel_rfl) (by kernel_rfl) ?_
    intro A hA Q hQ
    simp
    refine hQ _ _ ?_
    clear hQ hA
    repeat (first | refine WK.seq ?_ | refine WK.block ?_ | refine WK.inBlock ?_ | refine WK.skip ?_ | refine WK.label ?_ | refine WK.scope ?_ | refine WK.inScope ?_ | refine WK.exit rfl ?_)
    first | refine WK.reg 200 Try.ntmps7 (by kernel_rfl) ?_ | refine WK.regD 200 clsOf (by kernel_rfl) Try.ntmps7 (by kernel_rfl) (by kernel_rfl) ?_
    intro A hA Q hQ
    simp
    refine RunQ.call rfl rfl rfl rfl (by rfl) (by simp (maxDischargeDepth := 120) [pf]) (pFlow_c f) (by simp [pf]) ?_
    refine RunQ.eval ?_
    simp [pf]
    refine hQ _ _ ?_
    clear hQ hA
    repeat (first | refine WK.seq ?_ | refine WK.block ?_ | refine WK.inBlock ?_ | refine WK.skip ?_ | refine WK.label ?_ | refine WK.scope ?_ | refine WK.inScope ?_ | refine WK.exit rfl ?_)
    refine WK.cond2 rfl (fun h => ?_) (fun h => ?_)
    · repeat (first | refine WK.seq ?_ | refine WK.block ?_ | refine WK.inBlock ?_ | refine WK.skip ?_ | refine WK.label ?_ | refine WK.scope ?_ | refine WK.inScope ?_ | refine WK.exit rfl ?_)
      first | refine WK.reg 300 Try.ntmps7 (by kernel_rfl) ?_ | refine WK.regD 300 clsOf (by kernel_rfl) Try.ntmps7 (by kernel_rfl) (by kernel_rfl) ?_
      intro A hA Q hQ
      simp
      refine RunQ.call rfl rfl rfl rfl (by rfl) (by simp (maxDischargeDepth := 120)) (awake22_c) (by simp) ?_
      refine RunQ.eval ?_
      simp
      refine hQ _ _ ?_
      clear hQ hA
      repeat (first | refine WK.seq ?_ | refine WK.block ?_ | refine WK.inBlock ?_ | refine WK.skip ?_ | refine WK.label ?_ | refine WK.scope ?_ | refine WK.inScope ?_ | refine WK.exit rfl ?_)
      refine WK.ret Try.func7 (by simp (maxDischargeDepth := 120) [Try.results7]) (by simp)
    · cases h
  have hf := plain_ok pf
  refine FnP.intro Try.func7 rfl rfl fun G w => ?_
  repeat (first | refine WK.seq ?_ | refine WK.block ?_ | refine WK.inBlock ?_ | refine WK.skip ?_ | refine WK.label ?_ | refine WK.scope ?_ | refine WK.inScope ?_ | refine WK.exit rfl ?_)
  first | refine WK.reg 100 Try.ntmps7 (by kernel_rfl) ?_ | refine WK.regD 100 clsOf (by kernel_rfl) Try.ntmps7 (by kernel_rfl) (by kernel_rfl) ?_
  intro A hA Q hQ
  simp
  refine hQ _ _ ?_
  clear hQ hA
  repeat (first | refine WK.seq ?_ | refine WK.block ?_ | refine WK.inBlock ?_ | refine WK.skip ?_ | refine WK.label ?_ | refine WK.scope ?_ | refine WK.inScope ?_ | refine WK.exit rfl ?_)
  first | refine WK.reg 200 Try.ntmps7 (by kernel_rfl) ?_ | refine WK.regD 200 clsOf (by kernel_rfl) Try.ntmps7 (by kernel_rfl) (by kernel_rfl) ?_
  intro A hA Q hQ
  simp
  refine RunQ.call rfl rfl rfl rfl (by rfl) (by simp (maxDischargeDepth := 120) [pf]) (pFlow_c f) (by simp [pf]) ?_
  refine RunQ.eval ?_
  simp [pf]
  refine hQ _ _ ?_
  clear hQ hA
  repeat (first | refine WK.seq ?_ | refine WK.block ?_ | refine WK.inBlock ?_ | refine WK.skip ?_ | refine WK.label ?_ | refine WK.scope ?_ | refine WK.inScope ?_ | refine WK.exit rfl ?_)
  refine WK.cond2 rfl (fun h => ?_) (fun h => ?_)
  · cases h
  repeat (first | refine WK.seq ?_ | refine WK.block ?_ | refine WK.inBlock ?_ | refine WK.skip ?_ | refine WK.label ?_ | refine WK.scope ?_ | refine WK.inScope ?_ | refine WK.exit rfl ?_)
  first | refine WK.reg 300 Try.ntmps7 (by kernel_rfl) ?_ | refine WK.regD 300 clsOf (by kernel_rfl) Try.ntmps7 (by kernel_rfl) (by kernel_rfl) ?_
  intro A hA Q hQ
  have hg9 : (A[9]?).bind (·.dst) = some 24 := by rw [hA]; rfl
  have hg20 : (A[20]?).bind (·.dst) = some 35 := by rw [hA]; rfl
  simp [hg9, hg20]
  refine RunQ.call rfl rfl rfl rfl (by rfl) (by simp (maxDischargeDepth := 120)) (cookie_c f c m) (by simp) ?_
  refine RunQ.eval ?_
  simp
  refine RunQ.call rfl rfl rfl rfl (by rfl) (by simp (maxDischargeDepth := 120) [hg9]) (rcookie_c f c m) (by simp [hg9]) ?_
  refine RunQ.eval ?_
  simp [hg9]
  refine RunQ.callG rfl rfl (by simp [hg9]) rfl (by rfl) (by simp (maxDischargeDepth := 120) [hg9]) (out_c f p g hf) (by simp [hg9]) ?_
  refine RunQ.eval ?_
  simp [hg9]
  refine RunQ.callG rfl rfl (by simp [hg9, hg20]) rfl (by rfl) (by simp (maxDischargeDepth := 120) [hg9, hg20]) (rout_c f p g hf) (by simp [hg9, hg20]) ?_
  refine RunQ.eval ?_
  simp [hg9, hg20]
  refine RunQ.callG rfl rfl (by simp [hg20]) rfl (by rfl) (by simp (maxDischargeDepth := 120) [hg20]) (awake22_c) (by simp [hg20]) ?_
  refine RunQ.eval ?_
  simp [hg20]
  refine hQ _ _ ?_
  clear hQ hA
  repeat (first | refine WK.seq ?_ | refine WK.block ?_ | refine WK.inBlock ?_ | refine WK.skip ?_ | refine WK.label ?_ | refine WK.scope ?_ | refine WK.inScope ?_ | refine WK.exit rfl ?_)
  refine WK.ret Try.func7 (by simp (maxDischargeDepth := 120) [Try.results7]) (by simp)
theorem alike_within {a b : Flow} (h : Flow.alike a b = true) : cubeWithin (Flow.cube a) (Flow.cube b) = true := by
  unfold Flow.alike at h
  rw [Bool.and_eq_true] at h
  exact cubeWithin_of_eq h.2
def withCmd (m : FlowMod) (c : Int) : FlowMod := { m with command := c }
theorem withCmd_enc (m : FlowMod) (c : Int) : (withCmd m c).enc = [.int .u64 (uI m.cookie), .int .u64 (uI m.cookieMask), .int .i64 m.table, .int .i64 c, .int .i64 m.idle, .int .i64 m.hard, .int .i64 m.prio,
  .int .i64 m.buffer, .int .i64 m.outPort, .int .i64 m.outGroup, .int .i64 m.flags, .sl false m.mat.length (oxmL m.mat), .sl false m.insts.length (instL m.insts)] := rfl
theorem strict34 {f : Flow} {m : FlowMod} (h : FlowMod.takes (withCmd m 4) f = true) : FlowMod.takes (withCmd m 3) f = true := by
  have e1 : FlowMod.takes (withCmd m 4) f = (Flow.alike f (FlowMod.flow m) && (cookieOk f m.cookie m.cookieMask && Flow.out f m.outPort m.outGroup)) := rfl
  have e2 : FlowMod.takes (withCmd m 3) f = (cubeWithin (Flow.cube f) (Flow.cube (FlowMod.flow m)) && (cookieOk f m.cookie m.cookieMask && Flow.out f m.outPort m.outGroup)) := rfl
  rw [e1, Bool.and_eq_true] at h
  rw [e2, alike_within h.1, h.2]; rfl
theorem strict12 {f : Flow} {m : FlowMod} (h : FlowMod.takes (withCmd m 2) f = true) : FlowMod.takes (withCmd m 1) f = true := by
  have e1 : FlowMod.takes (withCmd m 2) f = (Flow.alike f (FlowMod.flow m) && cookieOk f m.cookie m.cookieMask) := rfl
  have e2 : FlowMod.takes (withCmd m 1) f = (cubeWithin (Flow.cube f) (Flow.cube (FlowMod.flow m)) && cookieOk f m.cookie m.cookieMask) := rfl
  rw [e1, Bool.and_eq_true] at h
  rw [e2, alike_within h.1, h.2]; rfl
/-- without a filter -/
def bare (m : FlowMod) : FlowMod := { m with cookieMask := 0#64, outPort := 4294967295, outGroup := 4294967295 }
theorem bare_out (f : Flow) : Flow.out f 4294967295 4294967295 = true := by unfold Flow.out someOk; simp
theorem bare_cookie (f : Flow) (c : BitVec 64) : cookieOk f c 0#64 = true := by unfold cookieOk; simp
theorem bare31 (f : Flow) (m : FlowMod) : FlowMod.takes (withCmd (bare m) 3) f = cubeWithin (Flow.cube f) (Flow.cube (FlowMod.flow m)) := by
  have e2 : FlowMod.takes (withCmd (bare m) 3) f = (cubeWithin (Flow.cube f) (Flow.cube (FlowMod.flow m)) && (cookieOk f m.cookie 0#64 && Flow.out f 4294967295 4294967295)) := rfl
  rw [e2, bare_out, bare_cookie]; simp
theorem bare1 (f : Flow) (m : FlowMod) : FlowMod.takes (withCmd (bare m) 1) f = cubeWithin (Flow.cube f) (Flow.cube (FlowMod.flow m)) := by
  have e2 : FlowMod.takes (withCmd (bare m) 1) f = (cubeWithin (Flow.cube f) (Flow.cube (FlowMod.flow m)) && cookieOk f m.cookie 0#64) := rfl
  rw [e2, bare_cookie]; simp
theorem bare_enc (m : FlowMod) (c : Int) : (withCmd (bare m) c).enc = [.int .u64 (uI m.cookie), .int .u64 0, .int .i64 m.table, .int .i64 c, .int .i64 m.idle, .int .i64 m.hard, .int .i64 m.prio,
  .int .i64 m.buffer, .int .i64 4294967295, .int .i64 4294967295, .int .i64 m.flags, .sl false m.mat.length (oxmL m.mat), .sl false m.insts.length (instL m.insts)] := rfl
set_option maxHeartbeats 4000000 in
theorem pickNarrow_c (f : Flow) (m : FlowMod) : FnP Try.prog 8 [.agg f.enc, .agg m.enc] (.bool true) := by
  cases pf : Flow.plain f
  · refine FnP.intro Try.func8 rfl rfl fun G w => ?_
    repeat (first | refine WK.seq ?_ | refine WK.block ?_ | refine WK.inBlock ?_ | refine WK.skip ?_ | refine WK.label ?_ | refine WK.scope ?_ | refine WK.inScope ?_ | refine WK.exit rfl ?_)
    first | refine WK.reg 100 Try.ntmps8 (by kernel_rfl) ?_ | refine WK.regD 100 clsOf (by kernel_rfl) Try.ntmps8 (by kernel_rfl) (by kernel_rfl) ?_
    intro A hA Q hQ
    simp
    refine hQ _ _ ?_
    clear hQ hA
    repeat (first | refine WK.seq ?_ | refine WK.block ?_ | refine WK.inBlock ?_ | refine WK.skip ?_ | refine WK.label ?_ | refine WK.scope ?_ | refine WK.inScope ?_ | refine WK.exit rfl ?_)
    first | refine WK.reg 200 Try.ntmps8 (by kernel_rfl) ?_ | refine WK.regD 200 clsOf (by kernel_rfl) Try.ntmps8 (by kernel_rfl) (by kernel_rfl) ?_
    intro A hA Q hQ
    have hg3 : (A[3]?).bind (·.dst) = some 10 := by rw [hA]; rfl
    simp [hg3]
    refine RunQ.call rfl rfl rfl rfl (by rfl) (by simp (maxDischargeDepth := 120) [pf, hg3]) (pFlow_c f) (by simp [pf, hg3]) ?_
    refine RunQ.eval ?_
    simp [pf, hg3]
    refine hQ _ _ ?_
    clear hQ hA
    repeat (first | refine WK.seq ?_ | refine WK.block ?_ | refine WK.inBlock ?_ | refine WK.skip ?_ | refine WK.label ?_ | refine WK.scope ?_ | refine WK.inScope ?_ | refine WK.exit rfl ?_)
    refine WK.cond2 rfl (fun h => ?_) (fun h => ?_)
    · repeat (first | refine WK.seq ?_ | refine WK.block ?_ | refine WK.inBlock ?_ | refine WK.skip ?_ | refine WK.label ?_ | refine WK.scope ?_ | refine WK.inScope ?_ | refine WK.exit rfl ?_)
      first | refine WK.reg 300 Try.ntmps8 (by kernel_rfl) ?_ | refine WK.regD 300 clsOf (by kernel_rfl) Try.ntmps8 (by kernel_rfl) (by kernel_rfl) ?_
      intro A hA Q hQ
      simp
      refine RunQ.call rfl rfl rfl rfl (by rfl) (by simp (maxDischargeDepth := 120)) (awake22_c) (by simp) ?_
      refine RunQ.eval ?_
      simp
      refine hQ _ _ ?_
      clear hQ hA
      repeat (first | refine WK.seq ?_ | refine WK.block ?_ | refine WK.inBlock ?_ | refine WK.skip ?_ | refine WK.label ?_ | refine WK.scope ?_ | refine WK.inScope ?_ | refine WK.exit rfl ?_)
      refine WK.ret Try.func8 (by simp (maxDischargeDepth := 120) [Try.results8]) (by simp)
    · cases h
  cases pm : FlowMod.plain m
  · refine FnP.intro Try.func8 rfl rfl fun G w => ?_
    repeat (first | refine WK.seq ?_ | refine WK.block ?_ | refine WK.inBlock ?_ | refine WK.skip ?_ | refine WK.label ?_ | refine WK.scope ?_ | refine WK.inScope ?_ | refine WK.exit rfl ?_)
    first | refine WK.reg 100 Try.ntmps8 (by kernel_rfl) ?_ | refine WK.regD 100 clsOf (by kernel_rfl) Try.ntmps8 (by kernel_rfl) (by kernel_rfl) ?_
    intro A hA Q hQ
    simp
    refine hQ _ _ ?_
    clear hQ hA
    repeat (first | refine WK.seq ?_ | refine WK.block ?_ | refine WK.inBlock ?_ | refine WK.skip ?_ | refine WK.label ?_ | refine WK.scope ?_ | refine WK.inScope ?_ | refine WK.exit rfl ?_)
    first | refine WK.reg 200 Try.ntmps8 (by kernel_rfl) ?_ | refine WK.regD 200 clsOf (by kernel_rfl) Try.ntmps8 (by kernel_rfl) (by kernel_rfl) ?_
    intro A hA Q hQ
    have hg3 : (A[3]?).bind (·.dst) = some 10 := by rw [hA]; rfl
    simp [hg3]
    refine RunQ.call rfl rfl rfl rfl (by rfl) (by simp (maxDischargeDepth := 120) [pf, hg3]) (pFlow_c f) (by simp [pf, hg3]) ?_
    refine RunQ.eval ?_
    simp [pf, hg3]
    refine RunQ.callG rfl rfl (by simp [pm, hg3]) rfl (by rfl) (by simp (maxDischargeDepth := 120) [pm, hg3]) (pMod_c m) (by simp [pm, hg3]) ?_
    refine RunQ.eval ?_
    simp [pm, hg3]
    refine hQ _ _ ?_
    clear hQ hA
    repeat (first | refine WK.seq ?_ | refine WK.block ?_ | refine WK.inBlock ?_ | refine WK.skip ?_ | refine WK.label ?_ | refine WK.scope ?_ | refine WK.inScope ?_ | refine WK.exit rfl ?_)
    refine WK.cond2 rfl (fun h => ?_) (fun h => ?_)
    · repeat (first | refine WK.seq ?_ | refine WK.block ?_ | refine WK.inBlock ?_ | refine WK.skip ?_ | refine WK.label ?_ | refine WK.scope ?_ | refine WK.inScope ?_ | refine WK.exit rfl ?_)
      first | refine WK.reg 300 Try.ntmps8 (by kernel_rfl) ?_ | refine WK.regD 300 clsOf (by kernel_rfl) Try.ntmps8 (by kernel_rfl) (by kernel_rfl) ?_
      intro A hA Q hQ
      simp
      refine RunQ.call rfl rfl rfl rfl (by rfl) (by simp (maxDischargeDepth := 120)) (awake22_c) (by simp) ?_
      refine RunQ.eval ?_
      simp
      refine hQ _ _ ?_
      clear hQ hA
      repeat (first | refine WK.seq ?_ | refine WK.block ?_ | refine WK.inBlock ?_ | refine WK.skip ?_ | refine WK.label ?_ | refine WK.scope ?_ | refine WK.inScope ?_ | refine WK.exit rfl ?_)
      refine WK.ret Try.func8 (by simp (maxDischargeDepth := 120) [Try.results8]) (by simp)
    · cases h
  have hf := plain_ok pf
  have hm : FOk (FlowMod.flow m) := (plain_ok (f := FlowMod.flow m) pm).ok
  have hm' : ∀ c, FOk (FlowMod.flow (withCmd m c)) := fun c => hm
  have hmb : ∀ c, FOk (FlowMod.flow (withCmd (bare m) c)) := fun c => hm
  refine FnP.intro Try.func8 rfl rfl fun G w => ?_
  repeat (first | refine WK.seq ?_ | refine WK.block ?_ | refine WK.inBlock ?_ | refine WK.skip ?_ | refine WK.label ?_ | refine WK.scope ?_ | refine WK.inScope ?_ | refine WK.exit rfl ?_)
  first | refine WK.reg 100 Try.ntmps8 (by kernel_rfl) ?_ | refine WK.regD 100 clsOf (by kernel_rfl) Try.ntmps8 (by kernel_rfl) (by kernel_rfl) ?_
  intro A hA Q hQ
  simp
  refine hQ _ _ ?_
  clear hQ hA
  repeat (first | refine WK.seq ?_ | refine WK.block ?_ | refine WK.inBlock ?_ | refine WK.skip ?_ | refine WK.label ?_ | refine WK.scope ?_ | refine WK.inScope ?_ | refine WK.exit rfl ?_)
  first | refine WK.reg 200 Try.ntmps8 (by kernel_rfl) ?_ | refine WK.regD 200 clsOf (by kernel_rfl) Try.ntmps8 (by kernel_rfl) (by kernel_rfl) ?_
  intro A hA Q hQ
  have hg3 : (A[3]?).bind (·.dst) = some 10 := by rw [hA]; rfl
  simp [hg3]
  refine RunQ.call rfl rfl rfl rfl (by rfl) (by simp (maxDischargeDepth := 120) [pf, hg3]) (pFlow_c f) (by simp [pf, hg3]) ?_
  refine RunQ.eval ?_
  simp [pf, hg3]
  refine RunQ.callG rfl rfl (by simp [pm, hg3]) rfl (by rfl) (by simp (maxDischargeDepth := 120) [pm, hg3]) (pMod_c m) (by simp [pm, hg3]) ?_
  refine RunQ.eval ?_
  simp [pm, hg3]
  refine hQ _ _ ?_
  clear hQ hA
  repeat (first | refine WK.seq ?_ | refine WK.block ?_ | refine WK.inBlock ?_ | refine WK.skip ?_ | refine WK.label ?_ | refine WK.scope ?_ | refine WK.inScope ?_ | refine WK.exit rfl ?_)
  refine WK.cond2 rfl (fun h => ?_) (fun h => ?_)
  · cases h
  repeat (first | refine WK.seq ?_ | refine WK.block ?_ | refine WK.inBlock ?_ | refine WK.skip ?_ | refine WK.label ?_ | refine WK.scope ?_ | refine WK.inScope ?_ | refine WK.exit rfl ?_)
  first | refine WK.reg 300 Try.ntmps8 (by kernel_rfl) ?_ | refine WK.regD 300 (clsM [(3, 1), (5, 202), (6, 203)]) (by kernel_rfl) Try.ntmps8 (by kernel_rfl) (by kernel_rfl) ?_
  intro A hA Q hQ
  simp
  refine hQ _ _ ?_
  clear hQ hA
  repeat (first | refine WK.seq ?_ | refine WK.block ?_ | refine WK.inBlock ?_ | refine WK.skip ?_ | refine WK.label ?_ | refine WK.scope ?_ | refine WK.inScope ?_ | refine WK.exit rfl ?_)
  first | refine WK.reg 400 Try.ntmps8 (by kernel_rfl) ?_ | refine WK.regD 400 clsOf (by kernel_rfl) Try.ntmps8 (by kernel_rfl) (by kernel_rfl) ?_
  intro A hA Q hQ
  simp [FlowMod.enc]
  refine hQ _ _ ?_
  clear hQ hA
  repeat (first | refine WK.seq ?_ | refine WK.block ?_ | refine WK.inBlock ?_ | refine WK.skip ?_ | refine WK.label ?_ | refine WK.scope ?_ | refine WK.inScope ?_ | refine WK.exit rfl ?_)
  apply WK.cut (⟨(upd (upd (upd (upd (upd J 2 (.ptr 0 0)) 3 (.ptr 1 0)) 5 (.ptr 202 0)) 6 (.ptr 203 0)) 28 (.bool false)), (upd (upd (upd (upd B0 0 (.var f.enc)) 1 (.var m.enc)) 202 (.var (withCmd m 4).enc)) 203 (.var (withCmd m 3).enc)), 0⟩ : St)
  · intro hcut
    cases k : FlowMod.takes (withCmd m 4) f
    · repeat (first | refine WK.seq ?_ | refine WK.block ?_ | refine WK.inBlock ?_ | refine WK.skip ?_ | refine WK.label ?_ | refine WK.scope ?_ | refine WK.inScope ?_ | refine WK.exit rfl ?_)
      first | refine WK.reg 500 Try.ntmps8 (by kernel_rfl) ?_ | refine WK.regD 500 clsOf (by kernel_rfl) Try.ntmps8 (by kernel_rfl) (by kernel_rfl) ?_
      intro A hA Q hQ
      have hg3 : (A[3]?).bind (·.dst) = some 23 := by rw [hA]; rfl
      simp [hg3]
      refine RunQ.call rfl rfl rfl rfl (by rfl) (by simp (maxDischargeDepth := 120) [k, hg3, withCmd_enc]) (takes_c f (withCmd m 4) hf (hm' 4)) (by simp [k, hg3, withCmd_enc]) ?_
      refine RunQ.eval ?_
      simp [k, hg3, withCmd_enc]
      refine hQ _ _ ?_
      clear hQ hA
      repeat (first | refine WK.seq ?_ | refine WK.block ?_ | refine WK.inBlock ?_ | refine WK.skip ?_ | refine WK.label ?_ | refine WK.scope ?_ | refine WK.inScope ?_ | refine WK.exit rfl ?_)
      refine WK.next (fun n => n) hcut (by repeat (first | exact TmW.nil | refine TmW.upd ?_ (by simp (maxDischargeDepth := 120) [withCmd_enc, FlowMod.enc.eq_1 m]))) (by repeat (first | exact BxW.nil | refine BxW.upd ?_ (by simp (maxDischargeDepth := 120) [withCmd_enc, FlowMod.enc.eq_1 m]))) (by first | exact InjW.id | exact InjW.nil | exact InjW.one | exact InjW.two (by simp) | exact InjW.three (by simp) (by simp) (by simp))
    · have k2 := strict34 k
      repeat (first | refine WK.seq ?_ | refine WK.block ?_ | refine WK.inBlock ?_ | refine WK.skip ?_ | refine WK.label ?_ | refine WK.scope ?_ | refine WK.inScope ?_ | refine WK.exit rfl ?_)
      first | refine WK.reg 600 Try.ntmps8 (by kernel_rfl) ?_ | refine WK.regD 600 clsOf (by kernel_rfl) Try.ntmps8 (by kernel_rfl) (by kernel_rfl) ?_
      intro A hA Q hQ
      have hg3 : (A[3]?).bind (·.dst) = some 23 := by rw [hA]; rfl
      simp [hg3]
      refine RunQ.call rfl rfl rfl rfl (by rfl) (by simp (maxDischargeDepth := 120) [k, hg3, withCmd_enc]) (takes_c f (withCmd m 4) hf (hm' 4)) (by simp [k, hg3, withCmd_enc]) ?_
      refine RunQ.eval ?_
      simp [k, hg3, withCmd_enc]
      refine RunQ.callG rfl rfl (by simp [k2, hg3, withCmd_enc]) rfl (by rfl) (by simp (maxDischargeDepth := 120) [k2, hg3, withCmd_enc]) (takes_c f (withCmd m 3) hf (hm' 3)) (by simp [k2, hg3, withCmd_enc]) ?_
      refine RunQ.eval ?_
      simp [k2, hg3, withCmd_enc]
      refine hQ _ _ ?_
      clear hQ hA
      repeat (first | refine WK.seq ?_ | refine WK.block ?_ | refine WK.inBlock ?_ | refine WK.skip ?_ | refine WK.label ?_ | refine WK.scope ?_ | refine WK.inScope ?_ | refine WK.exit rfl ?_)
      refine WK.next (fun n => n) hcut (by repeat (first | exact TmW.nil | refine TmW.upd ?_ (by simp (maxDischargeDepth := 120) [withCmd_enc, FlowMod.enc.eq_1 m]))) (by repeat (first | exact BxW.nil | refine BxW.upd ?_ (by simp (maxDischargeDepth := 120) [withCmd_enc, FlowMod.enc.eq_1 m]))) (by first | exact InjW.id | exact InjW.nil | exact InjW.one | exact InjW.two (by simp) | exact InjW.three (by simp) (by simp) (by simp))
  repeat (first | refine WK.seq ?_ | refine WK.block ?_ | refine WK.inBlock ?_ | refine WK.skip ?_ | refine WK.label ?_ | refine WK.scope ?_ | refine WK.inScope ?_ | refine WK.exit rfl ?_)
  refine WK.cond2 rfl (fun h => ?_) (fun h => ?_)
  · cases h
  repeat (first | refine WK.seq ?_ | refine WK.block ?_ | refine WK.inBlock ?_ | refine WK.skip ?_ | refine WK.label ?_ | refine WK.scope ?_ | refine WK.inScope ?_ | refine WK.exit rfl ?_)
  first | refine WK.reg 700 Try.ntmps8 (by kernel_rfl) ?_ | refine WK.regD 700 clsOf (by kernel_rfl) Try.ntmps8 (by kernel_rfl) (by kernel_rfl) ?_
  intro A hA Q hQ
  simp [withCmd_enc]
  refine hQ _ _ ?_
  clear hQ hA
  repeat (first | refine WK.seq ?_ | refine WK.block ?_ | refine WK.inBlock ?_ | refine WK.skip ?_ | refine WK.label ?_ | refine WK.scope ?_ | refine WK.inScope ?_ | refine WK.exit rfl ?_)
  apply WK.cut (⟨(upd (upd (upd (upd J 2 (.ptr 0 0)) 3 (.ptr 1 0)) 6 (.ptr 203 0)) 39 (.bool false)), (upd (upd (upd B0 0 (.var f.enc)) 1 (.var m.enc)) 203 (.var (withCmd m 1).enc)), 0⟩ : St)
  · intro hcut
    cases k : FlowMod.takes (withCmd m 2) f
    · repeat (first | refine WK.seq ?_ | refine WK.block ?_ | refine WK.inBlock ?_ | refine WK.skip ?_ | refine WK.label ?_ | refine WK.scope ?_ | refine WK.inScope ?_ | refine WK.exit rfl ?_)
      first | refine WK.reg 800 Try.ntmps8 (by kernel_rfl) ?_ | refine WK.regD 800 clsOf (by kernel_rfl) Try.ntmps8 (by kernel_rfl) (by kernel_rfl) ?_
      intro A hA Q hQ
      have hg3 : (A[3]?).bind (·.dst) = some 34 := by rw [hA]; rfl
      simp [hg3]
      refine RunQ.call rfl rfl rfl rfl (by rfl) (by simp (maxDischargeDepth := 120) [k, hg3, withCmd_enc]) (takes_c f (withCmd m 2) hf (hm' 2)) (by simp [k, hg3, withCmd_enc]) ?_
      refine RunQ.eval ?_
      simp [k, hg3, withCmd_enc]
      refine hQ _ _ ?_
      clear hQ hA
      repeat (first | refine WK.seq ?_ | refine WK.block ?_ | refine WK.inBlock ?_ | refine WK.skip ?_ | refine WK.label ?_ | refine WK.scope ?_ | refine WK.inScope ?_ | refine WK.exit rfl ?_)
      refine WK.next (fun n => n) hcut (by repeat (first | exact TmW.nil | refine TmW.upd ?_ (by simp (maxDischargeDepth := 120) [withCmd_enc, FlowMod.enc.eq_1 m]))) (by repeat (first | exact BxW.nil | refine BxW.upd ?_ (by simp (maxDischargeDepth := 120) [withCmd_enc, FlowMod.enc.eq_1 m]))) (by first | exact InjW.id | exact InjW.nil | exact InjW.one | exact InjW.two (by simp) | exact InjW.three (by simp) (by simp) (by simp))
    · have k2 := strict12 k
      repeat (first | refine WK.seq ?_ | refine WK.block ?_ | refine WK.inBlock ?_ | refine WK.skip ?_ | refine WK.label ?_ | refine WK.scope ?_ | refine WK.inScope ?_ | refine WK.exit rfl ?_)
      first | refine WK.reg 900 Try.ntmps8 (by kernel_rfl) ?_ | refine WK.regD 900 clsOf (by kernel_rfl) Try.ntmps8 (by kernel_rfl) (by kernel_rfl) ?_
      intro A hA Q hQ
      have hg3 : (A[3]?).bind (·.dst) = some 34 := by rw [hA]; rfl
      simp [hg3]
      refine RunQ.call rfl rfl rfl rfl (by rfl) (by simp (maxDischargeDepth := 120) [k, hg3, withCmd_enc]) (takes_c f (withCmd m 2) hf (hm' 2)) (by simp [k, hg3, withCmd_enc]) ?_
      refine RunQ.eval ?_
      simp [k, hg3, withCmd_enc]
      refine RunQ.callG rfl rfl (by simp [k2, hg3, withCmd_enc]) rfl (by rfl) (by simp (maxDischargeDepth := 120) [k2, hg3, withCmd_enc]) (takes_c f (withCmd m 1) hf (hm' 1)) (by simp [k2, hg3, withCmd_enc]) ?_
      refine RunQ.eval ?_
      simp [k2, hg3, withCmd_enc]
      refine hQ _ _ ?_
      clear hQ hA
      repeat (first | refine WK.seq ?_ | refine WK.block ?_ | refine WK.inBlock ?_ | refine WK.skip ?_ | refine WK.label ?_ | refine WK.scope ?_ | refine WK.inScope ?_ | refine WK.exit rfl ?_)
      refine WK.next (fun n => n) hcut (by repeat (first | exact TmW.nil | refine TmW.upd ?_ (by simp (maxDischargeDepth := 120) [withCmd_enc, FlowMod.enc.eq_1 m]))) (by repeat (first | exact BxW.nil | refine BxW.upd ?_ (by simp (maxDischargeDepth := 120) [withCmd_enc, FlowMod.enc.eq_1 m]))) (by first | exact InjW.id | exact InjW.nil | exact InjW.one | exact InjW.two (by simp) | exact InjW.three (by simp) (by simp) (by simp))
  repeat (first | refine WK.seq ?_ | refine WK.block ?_ | refine WK.inBlock ?_ | refine WK.skip ?_ | refine WK.label ?_ | refine WK.scope ?_ | refine WK.inScope ?_ | refine WK.exit rfl ?_)
  refine WK.cond2 rfl (fun h => ?_) (fun h => ?_)
  · cases h
  repeat (first | refine WK.seq ?_ | refine WK.block ?_ | refine WK.inBlock ?_ | refine WK.skip ?_ | refine WK.label ?_ | refine WK.scope ?_ | refine WK.inScope ?_ | refine WK.exit rfl ?_)
  first | refine WK.reg 1000 Try.ntmps8 (by kernel_rfl) ?_ | refine WK.regD 1000 clsOf (by kernel_rfl) Try.ntmps8 (by kernel_rfl) (by kernel_rfl) ?_
  intro A hA Q hQ
  simp [FlowMod.enc, uI_zero]
  refine hQ _ _ ?_
  clear hQ hA
  repeat (first | refine WK.seq ?_ | refine WK.block ?_ | refine WK.inBlock ?_ | refine WK.skip ?_ | refine WK.label ?_ | refine WK.scope ?_ | refine WK.inScope ?_ | refine WK.exit rfl ?_)
  first | refine WK.reg 1100 Try.ntmps8 (by kernel_rfl) ?_ | refine WK.regD 1100 clsOf (by kernel_rfl) Try.ntmps8 (by kernel_rfl) (by kernel_rfl) ?_
  intro A hA Q hQ
  simp
  refine hQ _ _ ?_
  clear hQ hA
  repeat (first | refine WK.seq ?_ | refine WK.block ?_ | refine WK.inBlock ?_ | refine WK.skip ?_ | refine WK.label ?_ | refine WK.scope ?_ | refine WK.inScope ?_ | refine WK.exit rfl ?_)
  first | refine WK.reg 1200 Try.ntmps8 (by kernel_rfl) ?_ | refine WK.regD 1200 clsOf (by kernel_rfl) Try.ntmps8 (by kernel_rfl) (by kernel_rfl) ?_
  intro A hA Q hQ
  simp
  refine hQ _ _ ?_
  clear hQ hA
  repeat (first | refine WK.seq ?_ | refine WK.block ?_ | refine WK.inBlock ?_ | refine WK.skip ?_ | refine WK.label ?_ | refine WK.scope ?_ | refine WK.inScope ?_ | refine WK.exit rfl ?_)
  refine WK.next (st' := (⟨(upd (upd (upd J 2 (.ptr 0 0)) 3 (.ptr 1 0)) 6 (.ptr 203 0)), (upd (upd (upd B0 0 (.var f.enc)) 1 (.var (withCmd (bare m) 3).enc)) 203 (.var (withCmd (bare m) 1).enc)), 0⟩ : St)) (fun n => n) ?_ (by repeat (first | exact TmW.nil | refine TmW.upd ?_ (by simp (maxDischargeDepth := 120) [bare_enc]))) (by repeat (first | exact BxW.nil | refine BxW.upd ?_ (by simp (maxDischargeDepth := 120) [bare_enc]))) (by first | exact InjW.id | exact InjW.nil | exact InjW.one | exact InjW.two (by simp) | exact InjW.three (by simp) (by simp) (by simp))
  have e1 := bare31 f m
  have e2 := bare1 f m
  have e3 : FlowMod.flow (withCmd (bare m) 3) = FlowMod.flow m := rfl
  cases k : Flow.alike f (FlowMod.flow m)
  · repeat (first | refine WK.seq ?_ | refine WK.block ?_ | refine WK.inBlock ?_ | refine WK.skip ?_ | refine WK.label ?_ | refine WK.scope ?_ | refine WK.inScope ?_ | refine WK.exit rfl ?_)
    first | refine WK.reg 1300 Try.ntmps8 (by kernel_rfl) ?_ | refine WK.regD 1300 clsOf (by kernel_rfl) Try.ntmps8 (by kernel_rfl) (by kernel_rfl) ?_
    intro A hA Q hQ
    have hg7 : (A[7]?).bind (·.dst) = some 53 := by rw [hA]; rfl
    have hg13 : (A[13]?).bind (·.dst) = some 59 := by rw [hA]; rfl
    have hg19 : (A[19]?).bind (·.dst) = some 65 := by rw [hA]; rfl
    simp [hg7, hg13, hg19]
    refine RunQ.call rfl rfl rfl rfl (by rfl) (by simp (maxDischargeDepth := 120) [e1]) (takes_c f (withCmd (bare m) 3) hf (hmb 3)) (by simp [e1]) ?_
    refine RunQ.eval ?_
    simp [e1]
    refine RunQ.call rfl rfl rfl rfl (by rfl) (by simp (maxDischargeDepth := 120) [e2, hg7]) (takes_c f (withCmd (bare m) 1) hf (hmb 1)) (by simp [e2, hg7]) ?_
    refine RunQ.eval ?_
    simp [e2, hg7]
    refine RunQ.callG rfl rfl (by simp [hg7, e3]) rfl (by rfl) (by simp (maxDischargeDepth := 120) [hg7, e3]) (of2_c (withCmd (bare m) 3) (hmb 3)) (by simp [hg7, e3]) ?_
    refine RunQ.eval ?_
    simp [hg7, e3]
    refine RunQ.callG rfl rfl (by simp [hg7, hg13, hg19, k]) rfl (by rfl) (by simp (maxDischargeDepth := 120) [hg7, hg13, hg19, k]) (alike_c f (FlowMod.flow m) hf.ok hm) (by simp [hg7, hg13, hg19, k]) ?_
    refine RunQ.eval ?_
    simp [hg7, hg13, hg19, k]
    refine RunQ.callG rfl rfl (by simp [hg19]) rfl (by rfl) (by simp (maxDischargeDepth := 120) [hg19]) (awake22_c) (by simp [hg19]) ?_
    refine RunQ.eval ?_
    simp [hg19]
    refine hQ _ _ ?_
    clear hQ hA
    repeat (first | refine WK.seq ?_ | refine WK.block ?_ | refine WK.inBlock ?_ | refine WK.skip ?_ | refine WK.label ?_ | refine WK.scope ?_ | refine WK.inScope ?_ | refine WK.exit rfl ?_)
    refine WK.ret Try.func8 (by simp (maxDischargeDepth := 120) [Try.results8]) (by simp)
  · have k2 := alike_within k
    repeat (first | refine WK.seq ?_ | refine WK.block ?_ | refine WK.inBlock ?_ | refine WK.skip ?_ | refine WK.label ?_ | refine WK.scope ?_ | refine WK.inScope ?_ | refine WK.exit rfl ?_)
    first | refine WK.reg 1400 Try.ntmps8 (by kernel_rfl) ?_ | refine WK.regD 1400 clsOf (by kernel_rfl) Try.ntmps8 (by kernel_rfl) (by kernel_rfl) ?_
    intro A hA Q hQ
    have hg7 : (A[7]?).bind (·.dst) = some 53 := by rw [hA]; rfl
    have hg13 : (A[13]?).bind (·.dst) = some 59 := by rw [hA]; rfl
    have hg19 : (A[19]?).bind (·.dst) = some 65 := by rw [hA]; rfl
    simp [hg7, hg13, hg19]
    refine RunQ.call rfl rfl rfl rfl (by rfl) (by simp (maxDischargeDepth := 120) [e1]) (takes_c f (withCmd (bare m) 3) hf (hmb 3)) (by simp [e1]) ?_
    refine RunQ.eval ?_
    simp [e1]
    refine RunQ.call rfl rfl rfl rfl (by rfl) (by simp (maxDischargeDepth := 120) [e2, hg7]) (takes_c f (withCmd (bare m) 1) hf (hmb 1)) (by simp [e2, hg7]) ?_
    refine RunQ.eval ?_
    simp [e2, hg7]
    refine RunQ.callG rfl rfl (by simp [hg7, e3]) rfl (by rfl) (by simp (maxDischargeDepth := 120) [hg7, e3]) (of2_c (withCmd (bare m) 3) (hmb 3)) (by simp [hg7, e3]) ?_
    refine RunQ.eval ?_
    simp [hg7, e3]
    refine RunQ.callG rfl rfl (by simp [hg7, hg13, hg19, k]) rfl (by rfl) (by simp (maxDischargeDepth := 120) [hg7, hg13, hg19, k]) (alike_c f (FlowMod.flow m) hf.ok hm) (by simp [hg7, hg13, hg19, k]) ?_
    refine RunQ.eval ?_
    simp [hg7, hg13, hg19, k]
    refine RunQ.callG rfl rfl (by simp [e1, k2, hg7, hg13, hg19]) rfl (by rfl) (by simp (maxDischargeDepth := 120) [e1, k2, hg7, hg13, hg19]) (takes_c f (withCmd (bare m) 3) hf (hmb 3)) (by simp [e1, k2, hg7, hg13, hg19]) ?_
    refine RunQ.eval ?_
    simp [e1, k2, hg7, hg13, hg19]
    refine RunQ.callG rfl rfl (by simp [hg19]) rfl (by rfl) (by simp (maxDischargeDepth := 120) [hg19]) (awake22_c) (by simp [hg19]) ?_
    refine RunQ.eval ?_
    simp [hg19]
    refine hQ _ _ ?_
    clear hQ hA
    repeat (first | refine WK.seq ?_ | refine WK.block ?_ | refine WK.inBlock ?_ | refine WK.skip ?_ | refine WK.label ?_ | refine WK.scope ?_ | refine WK.inScope ?_ | refine WK.exit rfl ?_)
    refine WK.ret Try.func8 (by simp (maxDischargeDepth := 120) [Try.results8]) (by simp)
end Go.Proofs.Ytfgmjnmkcobhkaa
