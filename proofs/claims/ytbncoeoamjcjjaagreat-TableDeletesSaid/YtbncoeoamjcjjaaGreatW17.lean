/- The laws of which flows a change takes: what they answer. -/
import Derived.Test.YtbncoeoamjcjjaaGreatW16
set_option linter.all false
set_option linter.unnecessarySimpa false
set_option linter.unusedVariables false
set_option linter.unusedSimpArgs false
namespace Go.Proofs.YtbncoeoamjcjjaaGreat
open Go Go.AI Go.Proofs

def fP0 : Flow := ⟨6#64, 0, 0, 0, 0, [], []⟩
def fP1 : Flow := ⟨5#64, 0, 0, 0, 0, [⟨0, false, ⟨0#64, 1#64⟩, wideZ⟩], []⟩
def tP : List Flow := [fP0, fP1]
def mP : FlowMod := ⟨4#64, 4#64, 0, 3, 0, 0, 0, 0, 4294967295, 4294967295, 0, [], []⟩
def mZ : FlowMod := ⟨0#64, 0#64, 0, 0, 0, 0, 0, 0, 0, 0, 0, [], []⟩
theorem uI_2 : uI 2#64 = 2 := rfl
theorem uI_3 : uI 3#64 = 3 := rfl
theorem mZ_enc : mZ.enc = [.int .u64 0, .int .u64 0, .int .i64 0, .int .i64 0, .int .i64 0, .int .i64 0, .int .i64 0, .int .i64 0, .int .i64 0, .int .i64 0, .int .i64 0, .sl false 0 [], .sl false 0 []] := rfl
theorem uI_4 : uI 4#64 = 4 := rfl
theorem uI_5 : uI 5#64 = 5 := rfl
theorem uI_6 : uI 6#64 = 6 := rfl
theorem tP_len : tP.length = 2 := rfl
theorem tP_0 : (flowL tP).take 7 = fP0.enc := rfl
theorem plP : ∀ f, f ∈ tP → FPl f := by
  intro f hf
  simp only [tP, List.mem_cons, List.not_mem_nil, or_false] at hf
  rcases hf with rfl | rfl <;> exact plain_ok (by kernel_rfl)
theorem okP : FOk (FlowMod.flow mP) := (plain_ok (f := FlowMod.flow mP) (by kernel_rfl)).ok
theorem okZ : FOk (FlowMod.flow mZ) := (plain_ok (f := FlowMod.flow mZ) (by kernel_rfl)).ok
theorem kP1 : eqBy (fun x y => x == y) (took mP tP) [0, 1] = true := by kernel_rfl
theorem kP2 : eqBy (fun x y => x == y) (took mZ tP) [0] = true := by kernel_rfl
theorem kP3 : cookieOk fP0 2#64 3#64 = true := by kernel_rfl
theorem kP4 : Flow.out fP0 1 4294967295 = false := by kernel_rfl
theorem kP5 : FlowMod.takes mP fP0 = true := by kernel_rfl
theorem tk1 : (took mP tP).length ≤ 1000000 := of_decide_eq_true (by kernel_rfl)
theorem tk2 : (took mZ tP).length ≤ 1000000 := of_decide_eq_true (by kernel_rfl)
theorem intS_two (x y : Int) : intS [x, y] = .sl false 2 [.int .i64 x, .int .i64 y] := rfl
theorem alike_within {a b : Flow} (h : Flow.alike a b = true) : cubeWithin (Flow.cube a) (Flow.cube b) = true := by
  unfold Flow.alike at h
  rw [Bool.and_eq_true] at h
  exact cubeWithin_of_eq h.2
def withCmd (m : FlowMod) (c : Int) : FlowMod := { m with command := c }
theorem withCmd_enc (m : FlowMod) (c : Int) : (withCmd m c).enc = [.int .u64 (uI m.cookie), .int .u64 (uI m.cookieMask), .int .i64 m.table, .int .i64 c, .int .i64 m.idle, .int .i64 m.hard, .int .i64 m.prio,
  .int .i64 m.buffer, .int .i64 m.outPort, .int .i64 m.outGroup, .int .i64 m.flags, .sl false m.mat.length (oxmL m.mat), .sl false m.insts.length (instL m.insts)] := rfl
theorem strict34 {f : Flow} {m : FlowMod} (h : FlowMod.takes (withCmd m 4) f = true) : FlowMod.takes (withCmd m 3) f = true := by
  have e1 : FlowMod.takes (withCmd m 4) f = (Flow.alike f (FlowMod.flow m) && (cookieOk f m.cookie m.cookieMask && Flow.out f m.outPort m.outGroup)) := rfl
  have e2 : FlowMod.takes (withCmd m 3) f = (cubeWithin (Flow.cube f) (Flow.cube (FlowMod.flow m)) && (cookieOk f m.cookie m.cookieMask && Flow.out f m.outPort m.outGroup)) := rfl
  rw [e1, Bool.and_eq_true] at h
  rw [e2, alike_within h.1, h.2]; rfl
theorem strict12 {f : Flow} {m : FlowMod} (h : FlowMod.takes (withCmd m 2) f = true) : FlowMod.takes (withCmd m 1) f = true := by
  have e1 : FlowMod.takes (withCmd m 2) f = (Flow.alike f (FlowMod.flow m) && cookieOk f m.cookie m.cookieMask) := rfl
  have e2 : FlowMod.takes (withCmd m 1) f = (cubeWithin (Flow.cube f) (Flow.cube (FlowMod.flow m)) && cookieOk f m.cookie m.cookieMask) := rfl
  rw [e1, Bool.and_eq_true] at h
  rw [e2, alike_within h.1, h.2]; rfl
/-- without a filter -/
def bare (m : FlowMod) : FlowMod := { m with cookieMask := 0#64, outPort := 4294967295, outGroup := 4294967295 }
theorem bare_out (f : Flow) : Flow.out f 4294967295 4294967295 = true := by unfold Flow.out someOk; simp
theorem bare_cookie (f : Flow) (c : BitVec 64) : cookieOk f c 0#64 = true := by unfold cookieOk; simp
theorem bare31 (f : Flow) (m : FlowMod) : FlowMod.takes (withCmd (bare m) 3) f = cubeWithin (Flow.cube f) (Flow.cube (FlowMod.flow m)) := by
  have e2 : FlowMod.takes (withCmd (bare m) 3) f = (cubeWithin (Flow.cube f) (Flow.cube (FlowMod.flow m)) && (cookieOk f m.cookie 0#64 && Flow.out f 4294967295 4294967295)) := rfl
  rw [e2, bare_out, bare_cookie]; simp
theorem bare1 (f : Flow) (m : FlowMod) : FlowMod.takes (withCmd (bare m) 1) f = cubeWithin (Flow.cube f) (Flow.cube (FlowMod.flow m)) := by
  have e2 : FlowMod.takes (withCmd (bare m) 1) f = (cubeWithin (Flow.cube f) (Flow.cube (FlowMod.flow m)) && cookieOk f m.cookie 0#64) := rfl
  rw [e2, bare_cookie]; simp
theorem bare_enc (m : FlowMod) (c : Int) : (withCmd (bare m) c).enc = [.int .u64 (uI m.cookie), .int .u64 0, .int .i64 m.table, .int .i64 c, .int .i64 m.idle, .int .i64 m.hard, .int .i64 m.prio,
  .int .i64 m.buffer, .int .i64 4294967295, .int .i64 4294967295, .int .i64 m.flags, .sl false m.mat.length (oxmL m.mat), .sl false m.insts.length (instL m.insts)] := rfl
end Go.Proofs.YtbncoeoamjcjjaaGreat
