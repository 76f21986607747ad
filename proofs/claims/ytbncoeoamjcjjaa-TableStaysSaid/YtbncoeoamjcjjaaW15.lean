/- What a change asks of a flow; the places of those that it takes, one after the other, and in a list. -/
import Derived.Test.YtbncoeoamjcjjaaW14
import Derived.Test.YtbncoeoamjcjjaaD3
set_option linter.all false
set_option linter.unnecessarySimpa false
set_option linter.unusedVariables false
set_option linter.unusedSimpArgs false
namespace Go.Proofs.Ytbncoeoamjcjjaa
open Go Go.AI Go.Proofs

def Flow.out (f : Flow) (p g : Int) : Bool := someOk p 4294967295 (Flow.goPorts f) && someOk g 4294967295 (Flow.goGroups f)
theorem out_c (f : Flow) (p g : Int) (hf : FPl f) : FnP Try.prog 210 [.agg f.enc, .int .i64 p, .int .i64 g] (.bool (Flow.out f p g)) := by
  cases k : someOk p 4294967295 (Flow.goPorts f)
  · refine FnP.intro Try.func210 rfl rfl fun G w => ?_
    repeat (first | refine WK.seq ?_ | refine WK.block ?_ | refine WK.inBlock ?_ | refine WK.skip ?_ | refine WK.label ?_ | refine WK.scope ?_ | refine WK.inScope ?_ | refine WK.exit rfl ?_)
    first | refine WK.reg 100 Try.ntmps210 (by kernel_rfl) ?_ | refine WK.regD 100 clsOf (by kernel_rfl) Try.ntmps210 (by kernel_rfl) (by kernel_rfl) ?_
    intro A hA Q hQ
    simp
    refine hQ _ _ ?_
    clear hQ hA
    repeat (first | refine WK.seq ?_ | refine WK.block ?_ | refine WK.inBlock ?_ | refine WK.skip ?_ | refine WK.label ?_ | refine WK.scope ?_ | refine WK.inScope ?_ | refine WK.exit rfl ?_)
    first | refine WK.reg 200 Try.ntmps210 (by kernel_rfl) ?_ | refine WK.regD 200 clsOf (by kernel_rfl) Try.ntmps210 (by kernel_rfl) (by kernel_rfl) ?_
    intro A hA Q hQ
    have hg4 : (A[4]?).bind (·.dst) = some 11 := by rw [hA]; rfl
    simp [hg4]
    refine RunQ.call rfl rfl rfl rfl (by rfl) (by simp (maxDischargeDepth := 120) [hg4]) (fPorts_c f hf.ok) (by simp [hg4]) ?_
    refine RunQ.eval ?_
    simp [hg4]
    refine RunQ.call rfl rfl rfl rfl (by rfl) (by simp (maxDischargeDepth := 120) [hg4, k]) (some_c p 4294967295 (Flow.goPorts f) (goPorts_le hf)) (by simp [hg4, k]) ?_
    refine RunQ.eval ?_
    simp [hg4, k]
    refine hQ _ _ ?_
    clear hQ hA
    repeat (first | refine WK.seq ?_ | refine WK.block ?_ | refine WK.inBlock ?_ | refine WK.skip ?_ | refine WK.label ?_ | refine WK.scope ?_ | refine WK.inScope ?_ | refine WK.exit rfl ?_)
    refine WK.ret Try.func210 (by simp (maxDischargeDepth := 120) [Try.results210, Flow.out, k]) (by simp [Flow.out, k])
  · refine FnP.intro Try.func210 rfl rfl fun G w => ?_
    repeat (first | refine WK.seq ?_ | refine WK.block ?_ | refine WK.inBlock ?_ | refine WK.skip ?_ | refine WK.label ?_ | refine WK.scope ?_ | refine WK.inScope ?_ | refine WK.exit rfl ?_)
    first | refine WK.reg 100 Try.ntmps210 (by kernel_rfl) ?_ | refine WK.regD 100 clsOf (by kernel_rfl) Try.ntmps210 (by kernel_rfl) (by kernel_rfl) ?_
    intro A hA Q hQ
    simp
    refine hQ _ _ ?_
    clear hQ hA
    repeat (first | refine WK.seq ?_ | refine WK.block ?_ | refine WK.inBlock ?_ | refine WK.skip ?_ | refine WK.label ?_ | refine WK.scope ?_ | refine WK.inScope ?_ | refine WK.exit rfl ?_)
    first | refine WK.reg 200 Try.ntmps210 (by kernel_rfl) ?_ | refine WK.regD 200 clsOf (by kernel_rfl) Try.ntmps210 (by kernel_rfl) (by kernel_rfl) ?_
    intro A hA Q hQ
    have hg4 : (A[4]?).bind (·.dst) = some 11 := by rw [hA]; rfl
    simp [hg4]
    refine RunQ.call rfl rfl rfl rfl (by rfl) (by simp (maxDischargeDepth := 120) [hg4]) (fPorts_c f hf.ok) (by simp [hg4]) ?_
    refine RunQ.eval ?_
    simp [hg4]
    refine RunQ.call rfl rfl rfl rfl (by rfl) (by simp (maxDischargeDepth := 120) [hg4, k]) (some_c p 4294967295 (Flow.goPorts f) (goPorts_le hf)) (by simp [hg4, k]) ?_
    refine RunQ.eval ?_
    simp [hg4, k]
    refine RunQ.callG rfl rfl (by simp [hg4]) rfl (by rfl) (by simp (maxDischargeDepth := 120) [hg4]) (fGroups_c f hf.ok) (by simp [hg4]) ?_
    refine RunQ.eval ?_
    simp [hg4]
    refine RunQ.callG rfl rfl (by simp [hg4]) rfl (by rfl) (by simp (maxDischargeDepth := 120) [hg4]) (some_c g 4294967295 (Flow.goGroups f) (goGroups_le hf)) (by simp [hg4]) ?_
    refine RunQ.eval ?_
    simp [hg4]
    refine hQ _ _ ?_
    clear hQ hA
    repeat (first | refine WK.seq ?_ | refine WK.block ?_ | refine WK.inBlock ?_ | refine WK.skip ?_ | refine WK.label ?_ | refine WK.scope ?_ | refine WK.inScope ?_ | refine WK.exit rfl ?_)
    refine WK.ret Try.func210 (by simp (maxDischargeDepth := 120) [Try.results210, Flow.out, k]) (by simp [Flow.out, k])
theorem cookie_ref (f : Flow) (c m : BitVec 64) : (((f.cookie ^^^ c) &&& m) == 0#64) = cookieOk f c m := by
  rw [Bool.eq_iff_iff]
  unfold cookieOk
  rw [beq_iff_eq, beq_iff_eq, b_unlike]
  constructor
  · intro h
    apply BitVec.eq_of_getLsbD_eq
    intro i hi
    have := h i
    simp only [BitVec.getLsbD_and]
    cases hm : m.getLsbD i
    · simp
    · simp [this hm]
  · intro h i hi
    have := congrArg (fun x => x.getLsbD i) h
    simpa [BitVec.getLsbD_and, hi] using this
theorem alikeT (g : Flow) (hg : FOk g) : Tst (.fn 204 [.iptr g.enc]) (fun f => Flow.alike f g) := by
  refine ⟨_, _, rfl, by simp, fun f hf => ?_⟩
  refine FnP.intro Try.func204 rfl rfl fun G w => ?_
  repeat (first | refine WK.seq ?_ | refine WK.block ?_ | refine WK.inBlock ?_ | refine WK.skip ?_ | refine WK.label ?_ | refine WK.scope ?_ | refine WK.inScope ?_ | refine WK.exit rfl ?_)
  first | refine WK.reg 100 Try.ntmps204 (by kernel_rfl) ?_ | refine WK.regD 100 clsOf (by kernel_rfl) Try.ntmps204 (by kernel_rfl) (by kernel_rfl) ?_
  intro A hA Q hQ
  simp
  refine hQ _ _ ?_
  clear hQ hA
  repeat (first | refine WK.seq ?_ | refine WK.block ?_ | refine WK.inBlock ?_ | refine WK.skip ?_ | refine WK.label ?_ | refine WK.scope ?_ | refine WK.inScope ?_ | refine WK.exit rfl ?_)
  first | refine WK.reg 200 Try.ntmps204 (by kernel_rfl) ?_ | refine WK.regD 200 clsOf (by kernel_rfl) Try.ntmps204 (by kernel_rfl) (by kernel_rfl) ?_
  intro A hA Q hQ
  simp
  refine RunQ.call rfl rfl rfl rfl (by rfl) (by simp (maxDischargeDepth := 120)) (alike_c f g hf.ok hg) (by simp) ?_
  refine RunQ.eval ?_
  simp
  refine hQ _ _ ?_
  clear hQ hA
  repeat (first | refine WK.seq ?_ | refine WK.block ?_ | refine WK.inBlock ?_ | refine WK.skip ?_ | refine WK.label ?_ | refine WK.scope ?_ | refine WK.inScope ?_ | refine WK.exit rfl ?_)
  refine WK.ret Try.func204 (by simp (maxDischargeDepth := 120) [Try.results204]) (by simp)
theorem coversT (c : Cube) : Tst (.fn 205 [.iptr (encC c)]) (fun f => cubeWithin (Flow.cube f) c) := by
  refine ⟨_, _, rfl, by simp, fun f hf => ?_⟩
  refine FnP.intro Try.func205 rfl rfl fun G w => ?_
  repeat (first | refine WK.seq ?_ | refine WK.block ?_ | refine WK.inBlock ?_ | refine WK.skip ?_ | refine WK.label ?_ | refine WK.scope ?_ | refine WK.inScope ?_ | refine WK.exit rfl ?_)
  first | refine WK.reg 100 Try.ntmps205 (by kernel_rfl) ?_ | refine WK.regD 100 clsOf (by kernel_rfl) Try.ntmps205 (by kernel_rfl) (by kernel_rfl) ?_
  intro A hA Q hQ
  simp
  refine hQ _ _ ?_
  clear hQ hA
  repeat (first | refine WK.seq ?_ | refine WK.block ?_ | refine WK.inBlock ?_ | refine WK.skip ?_ | refine WK.label ?_ | refine WK.scope ?_ | refine WK.inScope ?_ | refine WK.exit rfl ?_)
  first | refine WK.reg 200 Try.ntmps205 (by kernel_rfl) ?_ | refine WK.regD 200 clsOf (by kernel_rfl) Try.ntmps205 (by kernel_rfl) (by kernel_rfl) ?_
  intro A hA Q hQ
  simp
  refine RunQ.call rfl rfl rfl rfl (by rfl) (by simp (maxDischargeDepth := 120)) (covers_c c f hf.ok) (by simp) ?_
  refine RunQ.eval ?_
  simp
  refine hQ _ _ ?_
  clear hQ hA
  repeat (first | refine WK.seq ?_ | refine WK.block ?_ | refine WK.inBlock ?_ | refine WK.skip ?_ | refine WK.label ?_ | refine WK.scope ?_ | refine WK.inScope ?_ | refine WK.exit rfl ?_)
  refine WK.ret Try.func205 (by simp (maxDischargeDepth := 120) [Try.results205]) (by simp)
theorem cookieT (m : FlowMod) : Tst (.fn 207 [.iptr m.enc]) (fun f => cookieOk f m.cookie m.cookieMask) := by
  refine ⟨_, _, rfl, by simp, fun f hf => ?_⟩
  refine FnP.intro Try.func207 rfl rfl fun G w => ?_
  repeat (first | refine WK.seq ?_ | refine WK.block ?_ | refine WK.inBlock ?_ | refine WK.skip ?_ | refine WK.label ?_ | refine WK.scope ?_ | refine WK.inScope ?_ | refine WK.exit rfl ?_)
  first | refine WK.reg 100 Try.ntmps207 (by kernel_rfl) ?_ | refine WK.regD 100 clsOf (by kernel_rfl) Try.ntmps207 (by kernel_rfl) (by kernel_rfl) ?_
  intro A hA Q hQ
  simp
  refine hQ _ _ ?_
  clear hQ hA
  repeat (first | refine WK.seq ?_ | refine WK.block ?_ | refine WK.inBlock ?_ | refine WK.skip ?_ | refine WK.label ?_ | refine WK.scope ?_ | refine WK.inScope ?_ | refine WK.exit rfl ?_)
  first | refine WK.reg 200 Try.ntmps207 (by kernel_rfl) ?_ | refine WK.regD 200 clsOf (by kernel_rfl) Try.ntmps207 (by kernel_rfl) (by kernel_rfl) ?_
  intro A hA Q hQ
  simp [FlowMod.enc]
  refine RunQ.call rfl rfl rfl rfl (by rfl) (by simp (maxDischargeDepth := 120) [FlowMod.enc]) (cookie_c f m.cookie m.cookieMask) (by simp [FlowMod.enc]) ?_
  refine RunQ.eval ?_
  simp [FlowMod.enc]
  refine hQ _ _ ?_
  clear hQ hA
  repeat (first | refine WK.seq ?_ | refine WK.block ?_ | refine WK.inBlock ?_ | refine WK.skip ?_ | refine WK.label ?_ | refine WK.scope ?_ | refine WK.inScope ?_ | refine WK.exit rfl ?_)
  refine WK.ret Try.func207 (by simp (maxDischargeDepth := 120) [Try.results207]) (by simp)
theorem outT (m : FlowMod) : Tst (.fn 209 [.iptr m.enc]) (fun f => Flow.out f m.outPort m.outGroup) := by
  refine ⟨_, _, rfl, by simp, fun f hf => ?_⟩
  refine FnP.intro Try.func209 rfl rfl fun G w => ?_
  repeat (first | refine WK.seq ?_ | refine WK.block ?_ | refine WK.inBlock ?_ | refine WK.skip ?_ | refine WK.label ?_ | refine WK.scope ?_ | refine WK.inScope ?_ | refine WK.exit rfl ?_)
  first | refine WK.reg 100 Try.ntmps209 (by kernel_rfl) ?_ | refine WK.regD 100 clsOf (by kernel_rfl) Try.ntmps209 (by kernel_rfl) (by kernel_rfl) ?_
  intro A hA Q hQ
  simp
  refine hQ _ _ ?_
  clear hQ hA
  repeat (first | refine WK.seq ?_ | refine WK.block ?_ | refine WK.inBlock ?_ | refine WK.skip ?_ | refine WK.label ?_ | refine WK.scope ?_ | refine WK.inScope ?_ | refine WK.exit rfl ?_)
  first | refine WK.reg 200 Try.ntmps209 (by kernel_rfl) ?_ | refine WK.regD 200 clsOf (by kernel_rfl) Try.ntmps209 (by kernel_rfl) (by kernel_rfl) ?_
  intro A hA Q hQ
  simp [FlowMod.enc]
  refine RunQ.call rfl rfl rfl rfl (by rfl) (by simp (maxDischargeDepth := 120) [FlowMod.enc]) (out_c f m.outPort m.outGroup hf) (by simp [FlowMod.enc]) ?_
  refine RunQ.eval ?_
  simp [FlowMod.enc]
  refine hQ _ _ ?_
  clear hQ hA
  repeat (first | refine WK.seq ?_ | refine WK.block ?_ | refine WK.inBlock ?_ | refine WK.skip ?_ | refine WK.label ?_ | refine WK.scope ?_ | refine WK.inScope ?_ | refine WK.exit rfl ?_)
  refine WK.ret Try.func209 (by simp (maxDischargeDepth := 120) [Try.results209]) (by simp)
theorem noneT : Tst (.fn 212 []) (fun f => false) := by
  refine ⟨_, _, rfl, by simp, fun f hf => ?_⟩
  refine FnP.intro Try.func212 rfl rfl fun G w => ?_
  repeat (first | refine WK.seq ?_ | refine WK.block ?_ | refine WK.inBlock ?_ | refine WK.skip ?_ | refine WK.label ?_ | refine WK.scope ?_ | refine WK.inScope ?_ | refine WK.exit rfl ?_)
  first | refine WK.reg 100 Try.ntmps212 (by kernel_rfl) ?_ | refine WK.regD 100 clsOf (by kernel_rfl) Try.ntmps212 (by kernel_rfl) (by kernel_rfl) ?_
  intro A hA Q hQ
  simp
  refine hQ _ _ ?_
  clear hQ hA
  repeat (first | refine WK.seq ?_ | refine WK.block ?_ | refine WK.inBlock ?_ | refine WK.skip ?_ | refine WK.label ?_ | refine WK.scope ?_ | refine WK.inScope ?_ | refine WK.exit rfl ?_)
  first | refine WK.reg 200 Try.ntmps212 (by kernel_rfl) ?_ | refine WK.regD 200 clsOf (by kernel_rfl) Try.ntmps212 (by kernel_rfl) (by kernel_rfl) ?_
  intro A hA Q hQ
  simp
  refine hQ _ _ ?_
  clear hQ hA
  repeat (first | refine WK.seq ?_ | refine WK.block ?_ | refine WK.inBlock ?_ | refine WK.skip ?_ | refine WK.label ?_ | refine WK.scope ?_ | refine WK.inScope ?_ | refine WK.exit rfl ?_)
  refine WK.ret Try.func212 (by simp (maxDischargeDepth := 120) [Try.results212]) (by simp)
def aV (m : FlowMod) : AV := .fn 204 [.iptr (FlowMod.flow m).enc]
def cV (m : FlowMod) : AV := .fn 205 [.iptr (encC (Flow.cube (FlowMod.flow m)))]
def kV (m : FlowMod) : AV := .fn 207 [.iptr m.enc]
def oV (m : FlowMod) : AV := .fn 209 [.iptr m.enc]
def asksV (m : FlowMod) : AV :=
  if m.command == 0 then aV m else if m.command == 1 then andV [cV m, kV m] else if m.command == 2 then andV [aV m, kV m]
  else if m.command == 3 then andV [cV m, kV m, oV m] else if m.command == 4 then andV [aV m, kV m, oV m] else .fn 212 []
def FlowMod.takes (m : FlowMod) (f : Flow) : Bool :=
  if m.command == 0 then Flow.alike f (FlowMod.flow m)
  else if m.command == 1 then cubeWithin (Flow.cube f) (Flow.cube (FlowMod.flow m)) && cookieOk f m.cookie m.cookieMask
  else if m.command == 2 then Flow.alike f (FlowMod.flow m) && cookieOk f m.cookie m.cookieMask
  else if m.command == 3 then cubeWithin (Flow.cube f) (Flow.cube (FlowMod.flow m)) && (cookieOk f m.cookie m.cookieMask && Flow.out f m.outPort m.outGroup)
  else if m.command == 4 then Flow.alike f (FlowMod.flow m) && (cookieOk f m.cookie m.cookieMask && Flow.out f m.outPort m.outGroup)
  else false
theorem Tst.congr {x : AV} {p q : Flow → Bool} (h : Tst x p) (e : ∀ f, p f = q f) : Tst x q := by
  have : p = q := funext e
  rw [← this]; exact h
theorem and2 {x y : AV} {p q : Flow → Bool} (hx : Tst x p) (hy : Tst y q) (hc : ClL [x, y] = true) : Tst (andV [x, y]) (fun f => p f && q f) := by
  refine (and_t [x, y] (fun i => if i = 0 then p else q) (by simp) hc fun i z hz => ?_).congr fun f => ?_
  · match i, hz with
    | 0, hz => simp at hz; subst hz; exact hx
    | 1, hz => simp at hz; subst hz; exact hy
    | i + 2, hz => simp at hz
  · simp [List.range_succ]
theorem and3 {x y z : AV} {p q r : Flow → Bool} (hx : Tst x p) (hy : Tst y q) (hz : Tst z r) (hc : ClL [x, y, z] = true) : Tst (andV [x, y, z]) (fun f => p f && (q f && r f)) := by
  refine (and_t [x, y, z] (fun i => if i = 0 then p else if i = 1 then q else r) (by simp) hc fun i u hu => ?_).congr fun f => ?_
  · match i, hu with
    | 0, hu => simp at hu; subst hu; exact hx
    | 1, hu => simp at hu; subst hu; exact hy
    | 2, hu => simp at hu; subst hu; exact hz
    | i + 3, hu => simp at hu
  · simp [List.range_succ, Bool.and_assoc]
theorem asks_t (m : FlowMod) (hm : FOk (FlowMod.flow m)) : Tst (asksV m) (FlowMod.takes m) := by
  have a := alikeT (FlowMod.flow m) hm
  have c := coversT (Flow.cube (FlowMod.flow m))
  have k := cookieT m
  have o := outT m
  unfold asksV FlowMod.takes
  by_cases h0 : (m.command == 0) = true
  · simp only [h0, if_true]; exact a
  by_cases h1 : (m.command == 1) = true
  · simp only [h0, h1, if_true, if_false]; exact and2 c k (by simp [cV, kV])
  by_cases h2 : (m.command == 2) = true
  · simp only [h0, h1, h2, if_true, if_false]; exact and2 a k (by simp [aV, kV])
  by_cases h3 : (m.command == 3) = true
  · simp only [h0, h1, h2, h3, if_true, if_false]; exact and3 c k o (by simp [cV, kV, oV])
  by_cases h4 : (m.command == 4) = true
  · simp only [h0, h1, h2, h3, h4, if_true, if_false]; exact and3 a k o (by simp [aV, kV, oV])
  simp only [h0, h1, h2, h3, h4, if_false]; exact noneT
set_option maxHeartbeats 2000000 in
theorem asks_c (m : FlowMod) (hm : FOk (FlowMod.flow m)) : FnP Try.prog 181 [.agg m.enc] (asksV m) := by
  refine FnP.intro Try.func181 rfl rfl fun G w => ?_
  repeat (first | refine WK.seq ?_ | refine WK.block ?_ | refine WK.inBlock ?_ | refine WK.skip ?_ | refine WK.label ?_ | refine WK.scope ?_ | refine WK.inScope ?_ | refine WK.exit rfl ?_)
  first | refine WK.reg 100 Try.ntmps181 (by kernel_rfl) ?_ | refine WK.regD 100 clsOf (by kernel_rfl) Try.ntmps181 (by kernel_rfl) (by kernel_rfl) ?_
  intro A hA Q hQ
  simp
  refine hQ _ _ ?_
  clear hQ hA
  repeat (first | refine WK.seq ?_ | refine WK.block ?_ | refine WK.inBlock ?_ | refine WK.skip ?_ | refine WK.label ?_ | refine WK.scope ?_ | refine WK.inScope ?_ | refine WK.exit rfl ?_)
  first | refine WK.reg 200 Try.ntmps181 (by kernel_rfl) ?_ | refine WK.regD 200 clsOf (by kernel_rfl) Try.ntmps181 (by kernel_rfl) (by kernel_rfl) ?_
  intro A hA Q hQ
  simp
  refine RunQ.call rfl rfl rfl rfl (by rfl) (by simp (maxDischargeDepth := 120)) (of2_c m hm) (by simp) ?_
  refine RunQ.eval ?_
  simp
  refine hQ _ _ ?_
  clear hQ hA
  repeat (first | refine WK.seq ?_ | refine WK.block ?_ | refine WK.inBlock ?_ | refine WK.skip ?_ | refine WK.label ?_ | refine WK.scope ?_ | refine WK.inScope ?_ | refine WK.exit rfl ?_)
  first | refine WK.reg 300 Try.ntmps181 (by kernel_rfl) ?_ | refine WK.regD 300 clsOf (by kernel_rfl) Try.ntmps181 (by kernel_rfl) (by kernel_rfl) ?_
  intro A hA Q hQ
  simp
  refine RunQ.call rfl rfl rfl rfl (by rfl) (by simp (maxDischargeDepth := 120)) (fcube_c (FlowMod.flow m) hm.mat) (by simp) ?_
  refine RunQ.eval ?_
  simp
  refine hQ _ _ ?_
  clear hQ hA
  repeat (first | refine WK.seq ?_ | refine WK.block ?_ | refine WK.inBlock ?_ | refine WK.skip ?_ | refine WK.label ?_ | refine WK.scope ?_ | refine WK.inScope ?_ | refine WK.exit rfl ?_)
  refine WK.ghost (Ghost.frzVar 1 rfl rfl) ?_
  refine WK.ghost (Ghost.frzVar 3 rfl rfl) ?_
  refine WK.ghost (Ghost.frzVar 4 rfl rfl) ?_
  repeat (first | refine WK.seq ?_ | refine WK.block ?_ | refine WK.inBlock ?_ | refine WK.skip ?_ | refine WK.label ?_ | refine WK.scope ?_ | refine WK.inScope ?_ | refine WK.exit rfl ?_)
  first | refine WK.reg 400 Try.ntmps181 (by kernel_rfl) ?_ | refine WK.regD 400 clsOf (by kernel_rfl) Try.ntmps181 (by kernel_rfl) (by kernel_rfl) ?_
  intro A hA Q hQ
  simp
  refine hQ _ _ ?_
  clear hQ hA
  repeat (first | refine WK.seq ?_ | refine WK.block ?_ | refine WK.inBlock ?_ | refine WK.skip ?_ | refine WK.label ?_ | refine WK.scope ?_ | refine WK.inScope ?_ | refine WK.exit rfl ?_)
  first | refine WK.reg 500 Try.ntmps181 (by kernel_rfl) ?_ | refine WK.regD 500 clsOf (by kernel_rfl) Try.ntmps181 (by kernel_rfl) (by kernel_rfl) ?_
  intro A hA Q hQ
  simp
  refine hQ _ _ ?_
  clear hQ hA
  repeat (first | refine WK.seq ?_ | refine WK.block ?_ | refine WK.inBlock ?_ | refine WK.skip ?_ | refine WK.label ?_ | refine WK.scope ?_ | refine WK.inScope ?_ | refine WK.exit rfl ?_)
  first | refine WK.reg 600 Try.ntmps181 (by kernel_rfl) ?_ | refine WK.regD 600 clsOf (by kernel_rfl) Try.ntmps181 (by kernel_rfl) (by kernel_rfl) ?_
  intro A hA Q hQ
  simp
  refine hQ _ _ ?_
  clear hQ hA
  repeat (first | refine WK.seq ?_ | refine WK.block ?_ | refine WK.inBlock ?_ | refine WK.skip ?_ | refine WK.label ?_ | refine WK.scope ?_ | refine WK.inScope ?_ | refine WK.exit rfl ?_)
  first | refine WK.reg 700 Try.ntmps181 (by kernel_rfl) ?_ | refine WK.regD 700 clsOf (by kernel_rfl) Try.ntmps181 (by kernel_rfl) (by kernel_rfl) ?_
  intro A hA Q hQ
  simp
  refine hQ _ _ ?_
  clear hQ hA
  repeat (first | refine WK.seq ?_ | refine WK.block ?_ | refine WK.inBlock ?_ | refine WK.skip ?_ | refine WK.label ?_ | refine WK.scope ?_ | refine WK.inScope ?_ | refine WK.exit rfl ?_)
  first | refine WK.reg 800 Try.ntmps181 (by kernel_rfl) ?_ | refine WK.regD 800 clsOf (by kernel_rfl) Try.ntmps181 (by kernel_rfl) (by kernel_rfl) ?_
  intro A hA Q hQ
  simp [FlowMod.enc]
  refine hQ _ _ ?_
  clear hQ hA
  repeat (first | refine WK.seq ?_ | refine WK.block ?_ | refine WK.inBlock ?_ | refine WK.skip ?_ | refine WK.label ?_ | refine WK.scope ?_ | refine WK.inScope ?_ | refine WK.exit rfl ?_)
  first | refine WK.reg 900 Try.ntmps181 (by kernel_rfl) ?_ | refine WK.regD 900 clsOf (by kernel_rfl) Try.ntmps181 (by kernel_rfl) (by kernel_rfl) ?_
  intro A hA Q hQ
  simp
  refine hQ _ _ ?_
  clear hQ hA
  repeat (first | refine WK.seq ?_ | refine WK.block ?_ | refine WK.inBlock ?_ | refine WK.skip ?_ | refine WK.label ?_ | refine WK.scope ?_ | refine WK.inScope ?_ | refine WK.exit rfl ?_)
  refine WK.cond2 rfl (fun h0 => ?_) (fun h0 => ?_)
  · repeat (first | refine WK.seq ?_ | refine WK.block ?_ | refine WK.inBlock ?_ | refine WK.skip ?_ | refine WK.label ?_ | refine WK.scope ?_ | refine WK.inScope ?_ | refine WK.exit rfl ?_)
    first | refine WK.reg 1000 Try.ntmps181 (by kernel_rfl) ?_ | refine WK.regD 1000 clsOf (by kernel_rfl) Try.ntmps181 (by kernel_rfl) (by kernel_rfl) ?_
    intro A hA Q hQ
    simp
    refine hQ _ _ ?_
    clear hQ hA
    repeat (first | refine WK.seq ?_ | refine WK.block ?_ | refine WK.inBlock ?_ | refine WK.skip ?_ | refine WK.label ?_ | refine WK.scope ?_ | refine WK.inScope ?_ | refine WK.exit rfl ?_)
    refine WK.ret Try.func181 (by simp (maxDischargeDepth := 120) [Try.results181, asksV, h0, aV]) (by simp [asksV, h0, aV])
  repeat (first | refine WK.seq ?_ | refine WK.block ?_ | refine WK.inBlock ?_ | refine WK.skip ?_ | refine WK.label ?_ | refine WK.scope ?_ | refine WK.inScope ?_ | refine WK.exit rfl ?_)
  first | refine WK.reg 1100 Try.ntmps181 (by kernel_rfl) ?_ | refine WK.regD 1100 clsOf (by kernel_rfl) Try.ntmps181 (by kernel_rfl) (by kernel_rfl) ?_
  intro A hA Q hQ
  simp
  refine hQ _ _ ?_
  clear hQ hA
  repeat (first | refine WK.seq ?_ | refine WK.block ?_ | refine WK.inBlock ?_ | refine WK.skip ?_ | refine WK.label ?_ | refine WK.scope ?_ | refine WK.inScope ?_ | refine WK.exit rfl ?_)
  refine WK.cond2 rfl (fun h1 => ?_) (fun h1 => ?_)
  · repeat (first | refine WK.seq ?_ | refine WK.block ?_ | refine WK.inBlock ?_ | refine WK.skip ?_ | refine WK.label ?_ | refine WK.scope ?_ | refine WK.inScope ?_ | refine WK.exit rfl ?_)
    first | refine WK.reg 1200 Try.ntmps181 (by kernel_rfl) ?_ | refine WK.regD 1200 clsOf (by kernel_rfl) Try.ntmps181 (by kernel_rfl) (by kernel_rfl) ?_
    intro A hA Q hQ
    simp
    refine RunQ.call rfl rfl rfl rfl (by rfl) (by simp (maxDischargeDepth := 120) [cV, kV, FlowMod.enc]) (andL_c [cV m, kV m] (by simp [cV, kV])) (by simp [cV, kV, FlowMod.enc]) ?_
    refine RunQ.eval ?_
    simp [cV, kV, FlowMod.enc]
    refine hQ _ _ ?_
    clear hQ hA
    repeat (first | refine WK.seq ?_ | refine WK.block ?_ | refine WK.inBlock ?_ | refine WK.skip ?_ | refine WK.label ?_ | refine WK.scope ?_ | refine WK.inScope ?_ | refine WK.exit rfl ?_)
    refine WK.ret Try.func181 (by simp (maxDischargeDepth := 120) [Try.results181, asksV, h0, h1, andV, cV, kV, FlowMod.enc]) (by simp [asksV, h0, h1, andV, cV, kV, FlowMod.enc])
  repeat (first | refine WK.seq ?_ | refine WK.block ?_ | refine WK.inBlock ?_ | refine WK.skip ?_ | refine WK.label ?_ | refine WK.scope ?_ | refine WK.inScope ?_ | refine WK.exit rfl ?_)
  first | refine WK.reg 1300 Try.ntmps181 (by kernel_rfl) ?_ | refine WK.regD 1300 clsOf (by kernel_rfl) Try.ntmps181 (by kernel_rfl) (by kernel_rfl) ?_
  intro A hA Q hQ
  simp
  refine hQ _ _ ?_
  clear hQ hA
  repeat (first | refine WK.seq ?_ | refine WK.block ?_ | refine WK.inBlock ?_ | refine WK.skip ?_ | refine WK.label ?_ | refine WK.scope ?_ | refine WK.inScope ?_ | refine WK.exit rfl ?_)
  refine WK.cond2 rfl (fun h2 => ?_) (fun h2 => ?_)
  · repeat (first | refine WK.seq ?_ | refine WK.block ?_ | refine WK.inBlock ?_ | refine WK.skip ?_ | refine WK.label ?_ | refine WK.scope ?_ | refine WK.inScope ?_ | refine WK.exit rfl ?_)
    first | refine WK.reg 1400 Try.ntmps181 (by kernel_rfl) ?_ | refine WK.regD 1400 clsOf (by kernel_rfl) Try.ntmps181 (by kernel_rfl) (by kernel_rfl) ?_
    intro A hA Q hQ
    simp
    refine RunQ.call rfl rfl rfl rfl (by rfl) (by simp (maxDischargeDepth := 120) [aV, kV, FlowMod.enc]) (andL_c [aV m, kV m] (by simp [aV, kV])) (by simp [aV, kV, FlowMod.enc]) ?_
    refine RunQ.eval ?_
    simp [aV, kV, FlowMod.enc]
    refine hQ _ _ ?_
    clear hQ hA
    repeat (first | refine WK.seq ?_ | refine WK.block ?_ | refine WK.inBlock ?_ | refine WK.skip ?_ | refine WK.label ?_ | refine WK.scope ?_ | refine WK.inScope ?_ | refine WK.exit rfl ?_)
    refine WK.ret Try.func181 (by simp (maxDischargeDepth := 120) [Try.results181, asksV, h0, h1, h2, andV, aV, kV, FlowMod.enc]) (by simp [asksV, h0, h1, h2, andV, aV, kV, FlowMod.enc])
  repeat (first | refine WK.seq ?_ | refine WK.block ?_ | refine WK.inBlock ?_ | refine WK.skip ?_ | refine WK.label ?_ | refine WK.scope ?_ | refine WK.inScope ?_ | refine WK.exit rfl ?_)
  first | refine WK.reg 1500 Try.ntmps181 (by kernel_rfl) ?_ | refine WK.regD 1500 clsOf (by kernel_rfl) Try.ntmps181 (by kernel_rfl) (by kernel_rfl) ?_
  intro A hA Q hQ
  simp
  refine hQ _ _ ?_
  clear hQ hA
  repeat (first | refine WK.seq ?_ | refine WK.block ?_ | refine WK.inBlock ?_ | refine WK.skip ?_ | refine WK.label ?_ | refine WK.scope ?_ | refine WK.inScope ?_ | refine WK.exit rfl ?_)
  refine WK.cond2 rfl (fun h3 => ?_) (fun h3 => ?_)
  · repeat (first | refine WK.seq ?_ | refine WK.block ?_ | refine WK.inBlock ?_ | refine WK.skip ?_ | refine WK.label ?_ | refine WK.scope ?_ | refine WK.inScope ?_ | refine WK.exit rfl ?_)
    first | refine WK.reg 1600 Try.ntmps181 (by kernel_rfl) ?_ | refine WK.regD 1600 clsOf (by kernel_rfl) Try.ntmps181 (by kernel_rfl) (by kernel_rfl) ?_
    intro A hA Q hQ
    simp
    refine RunQ.call rfl rfl rfl rfl (by rfl) (by simp (maxDischargeDepth := 120) [cV, kV, oV, FlowMod.enc]) (andL_c [cV m, kV m, oV m] (by simp [cV, kV, oV])) (by simp [cV, kV, oV, FlowMod.enc]) ?_
    refine RunQ.eval ?_
    simp [cV, kV, oV, FlowMod.enc]
    refine hQ _ _ ?_
    clear hQ hA
    repeat (first | refine WK.seq ?_ | refine WK.block ?_ | refine WK.inBlock ?_ | refine WK.skip ?_ | refine WK.label ?_ | refine WK.scope ?_ | refine WK.inScope ?_ | refine WK.exit rfl ?_)
    refine WK.ret Try.func181 (by simp (maxDischargeDepth := 120) [Try.results181, asksV, h0, h1, h2, h3, andV, cV, kV, oV, FlowMod.enc]) (by simp [asksV, h0, h1, h2, h3, andV, cV, kV, oV, FlowMod.enc])
  repeat (first | refine WK.seq ?_ | refine WK.block ?_ | refine WK.inBlock ?_ | refine WK.skip ?_ | refine WK.label ?_ | refine WK.scope ?_ | refine WK.inScope ?_ | refine WK.exit rfl ?_)
  first | refine WK.reg 1700 Try.ntmps181 (by kernel_rfl) ?_ | refine WK.regD 1700 clsOf (by kernel_rfl) Try.ntmps181 (by kernel_rfl) (by kernel_rfl) ?_
  intro A hA Q hQ
  simp
  refine hQ _ _ ?_
  clear hQ hA
  repeat (first | refine WK.seq ?_ | refine WK.block ?_ | refine WK.inBlock ?_ | refine WK.skip ?_ | refine WK.label ?_ | refine WK.scope ?_ | refine WK.inScope ?_ | refine WK.exit rfl ?_)
  refine WK.cond2 rfl (fun h4 => ?_) (fun h4 => ?_)
  · repeat (first | refine WK.seq ?_ | refine WK.block ?_ | refine WK.inBlock ?_ | refine WK.skip ?_ | refine WK.label ?_ | refine WK.scope ?_ | refine WK.inScope ?_ | refine WK.exit rfl ?_)
    first | refine WK.reg 1800 Try.ntmps181 (by kernel_rfl) ?_ | refine WK.regD 1800 clsOf (by kernel_rfl) Try.ntmps181 (by kernel_rfl) (by kernel_rfl) ?_
    intro A hA Q hQ
    simp
    refine RunQ.call rfl rfl rfl rfl (by rfl) (by simp (maxDischargeDepth := 120) [aV, kV, oV, FlowMod.enc]) (andL_c [aV m, kV m, oV m] (by simp [aV, kV, oV])) (by simp [aV, kV, oV, FlowMod.enc]) ?_
    refine RunQ.eval ?_
    simp [aV, kV, oV, FlowMod.enc]
    refine hQ _ _ ?_
    clear hQ hA
    repeat (first | refine WK.seq ?_ | refine WK.block ?_ | refine WK.inBlock ?_ | refine WK.skip ?_ | refine WK.label ?_ | refine WK.scope ?_ | refine WK.inScope ?_ | refine WK.exit rfl ?_)
    refine WK.ret Try.func181 (by simp (maxDischargeDepth := 120) [Try.results181, asksV, h0, h1, h2, h3, h4, andV, aV, kV, oV, FlowMod.enc]) (by simp [asksV, h0, h1, h2, h3, h4, andV, aV, kV, oV, FlowMod.enc])
  repeat (first | refine WK.seq ?_ | refine WK.block ?_ | refine WK.inBlock ?_ | refine WK.skip ?_ | refine WK.label ?_ | refine WK.scope ?_ | refine WK.inScope ?_ | refine WK.exit rfl ?_)
  first | refine WK.reg 1900 Try.ntmps181 (by kernel_rfl) ?_ | refine WK.regD 1900 clsOf (by kernel_rfl) Try.ntmps181 (by kernel_rfl) (by kernel_rfl) ?_
  intro A hA Q hQ
  simp
  refine hQ _ _ ?_
  clear hQ hA
  repeat (first | refine WK.seq ?_ | refine WK.block ?_ | refine WK.inBlock ?_ | refine WK.skip ?_ | refine WK.label ?_ | refine WK.scope ?_ | refine WK.inScope ?_ | refine WK.exit rfl ?_)
  refine WK.ret Try.func181 (by simp (maxDischargeDepth := 120) [Try.results181, asksV, h0, h1, h2, h3, h4]) (by simp [asksV, h0, h1, h2, h3, h4])
end Go.Proofs.Ytbncoeoamjcjjaa
