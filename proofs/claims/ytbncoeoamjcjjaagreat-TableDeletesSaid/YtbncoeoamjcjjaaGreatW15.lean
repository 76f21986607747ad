/- What a change asks of a flow; the places of those that it takes, one after the other, and in a list. -/
import Derived.Test.YtbncoeoamjcjjaaGreatW14
import Derived.Test.YtbncoeoamjcjjaaGreatD3
set_option linter.all false
set_option linter.unnecessarySimpa false
set_option linter.unusedVariables false
set_option linter.unusedSimpArgs false
namespace Go.Proofs.YtbncoeoamjcjjaaGreat
open Go Go.AI Go.Proofs

def Flow.out (f : Flow) (p g : Int) : Bool := someOk p 4294967295 (Flow.goPorts f) && someOk g 4294967295 (Flow.goGroups f)
theorem out_c (f : Flow) (p g : Int) (hf : FPl f) : FnP Tryz.prog 104 [.agg f.enc, .int .i64 p, .int .i64 g] (.bool (Flow.out f p g)) := by
  cases k : someOk p 4294967295 (Flow.goPorts f)
  · refine FnP.intro Tryz.func104 rfl rfl fun G w => ?_
    repeat (first | refine WK.seq ?_ | refine WK.block ?_ | refine WK.inBlock ?_ | refine WK.skip ?_ | refine WK.label ?_ | refine WK.scope ?_ | refine WK.inScope ?_ | refine WK.exit rfl ?_)
    first | refine WK.reg 100 Tryz.ntmps104 (by kernel_rfl) ?_ | refine WK.regD 100 clsOf (by kernel_rfl) Tryz.ntmps104 (by kernel_rfl) (by kernel_rfl) ?_
    intro A hA Q hQ
    simp
    refine hQ _ _ ?_
    clear hQ hA
    repeat (first | refine WK.seq ?_ | refine WK.block ?_ | refine WK.inBlock ?_ | refine WK.skip ?_ | refine WK.label ?_ | refine WK.scope ?_ | refine WK.inScope ?_ | refine WK.exit rfl ?_)
    first | refine WK.reg 200 Tryz.ntmps104 (by kernel_rfl) ?_ | refine WK.regD 200 clsOf (by kernel_rfl) Tryz.ntmps104 (by kernel_rfl) (by kernel_rfl) ?_
    intro A hA Q hQ
    have hg4 : (A[4]?).bind (·.dst) = some 11 := by rw [hA]; rfl
    simp [hg4]
    refine RunQ.call rfl rfl rfl rfl (by rfl) (by simp (maxDischargeDepth := 120) [hg4]) (fPorts_c f hf.ok) (by simp [hg4]) ?_
    refine RunQ.eval ?_
    simp [hg4]
    refine RunQ.call rfl rfl rfl rfl (by rfl) (by simp (maxDischargeDepth := 120) [hg4, k]) (some_c p 4294967295 (Flow.goPorts f) (goPorts_le hf)) (by simp [hg4, k]) ?_
    refine RunQ.eval ?_
    simp [hg4, k]
    refine hQ _ _ ?_
    clear hQ hA
    repeat (first | refine WK.seq ?_ | refine WK.block ?_ | refine WK.inBlock ?_ | refine WK.skip ?_ | refine WK.label ?_ | refine WK.scope ?_ | refine WK.inScope ?_ | refine WK.exit rfl ?_)
    refine WK.ret Tryz.func104 (by simp (maxDischargeDepth := 120) [Tryz.results104, Flow.out, k]) (by simp [Flow.out, k])
  · refine FnP.intro Tryz.func104 rfl rfl fun G w => ?_
    repeat (first | refine WK.seq ?_ | refine WK.block ?_ | refine WK.inBlock ?_ | refine WK.skip ?_ | refine WK.label ?_ | refine WK.scope ?_ | refine WK.inScope ?_ | refine WK.exit rfl ?_)
    first | refine WK.reg 100 Tryz.ntmps104 (by kernel_rfl) ?_ | refine WK.regD 100 clsOf (by kernel_rfl) Tryz.ntmps104 (by kernel_rfl) (by kernel_rfl) ?_
    intro A hA Q hQ
    simp
    refine hQ _ _ ?_
    clear hQ hA
    repeat (first | refine WK.seq ?_ | refine WK.block ?_ | refine WK.inBlock ?_ | refine WK.skip ?_ | refine WK.label ?_ | refine WK.scope ?_ | refine WK.inScope ?_ | refine WK.exit rfl ?_)
    first | refine WK.reg 200 Tryz.ntmps104 (by kernel_rfl) ?_ | refine WK.regD 200 clsOf (by kernel_rfl) Tryz.ntmps104 (by kernel_rfl) (by kernel_rfl) ?_
    intro A hA Q hQ
    have hg4 : (A[4]?).bind (·.dst) = some 11 := by rw [hA]; rfl
    simp [hg4]
    refine RunQ.call rfl rfl rfl rfl (by rfl) (by simp (maxDischargeDepth := 120) [hg4]) (fPorts_c f hf.ok) (by simp [hg4]) ?_
    refine RunQ.eval ?_
    simp [hg4]
    refine RunQ.call rfl rfl rfl rfl (by rfl) (by simp (maxDischargeDepth := 120) [hg4, k]) (some_c p 4294967295 (Flow.goPorts f) (goPorts_le hf)) (by simp [hg4, k]) ?_
    refine RunQ.eval ?_
    simp [hg4, k]
    refine RunQ.callG rfl rfl (by simp [hg4]) rfl (by rfl) (by simp (maxDischargeDepth := 120) [hg4]) (fGroups_c f hf.ok) (by simp [hg4]) ?_
    refine RunQ.eval ?_
    simp [hg4]
    refine RunQ.callG rfl rfl (by simp [hg4]) rfl (by rfl) (by simp (maxDischargeDepth := 120) [hg4]) (some_c g 4294967295 (Flow.goGroups f) (goGroups_le hf)) (by simp [hg4]) ?_
    refine RunQ.eval ?_
    simp [hg4]
    refine hQ _ _ ?_
    clear hQ hA
    repeat (first | refine WK.seq ?_ | refine WK.block ?_ | refine WK.inBlock ?_ | refine WK.skip ?_ | refine WK.label ?_ | refine WK.scope ?_ | refine WK.inScope ?_ | refine WK.exit rfl ?_)
    refine WK.ret Tryz.func104 (by simp (maxDischargeDepth := 120) [Tryz.results104, Flow.out, k]) (by simp [Flow.out, k])
theorem cookie_ref (f : Flow) (c m : BitVec 64) : (((f.cookie ^^^ c) &&& m) == 0#64) = cookieOk f c m := by
  rw [Bool.eq_iff_iff]
  unfold cookieOk
  rw [beq_iff_eq, beq_iff_eq, b_unlike]
  constructor
  · intro h
    apply BitVec.eq_of_getLsbD_eq
    intro i hi
    have := h i
    simp only [BitVec.getLsbD_and]
    cases hm : m.getLsbD i
    · simp
    · simp [this hm]
  · intro h i hi
    have := congrArg (fun x => x.getLsbD i) h
    simpa [BitVec.getLsbD_and, hi] using this
theorem rcookie_c (f : Flow) (c m : BitVec 64) : FnP Tryz.prog 49 [.agg f.enc, .int .u64 (uI c), .int .u64 (uI m)] (.bool (cookieOk f c m)) := by
  have e := cookie_ref f c m
  refine FnP.intro Tryz.func49 rfl rfl fun G w => ?_
  repeat (first | refine WK.seq ?_ | refine WK.block ?_ | refine WK.inBlock ?_ | refine WK.skip ?_ | refine WK.label ?_ | refine WK.scope ?_ | refine WK.inScope ?_ | refine WK.exit rfl ?_)
  first | refine WK.reg 100 Tryz.ntmps49 (by kernel_rfl) ?_ | refine WK.regD 100 clsOf (by kernel_rfl) Tryz.ntmps49 (by kernel_rfl) (by kernel_rfl) ?_
  intro A hA Q hQ
  simp
  refine hQ _ _ ?_
  clear hQ hA
  repeat (first | refine WK.seq ?_ | refine WK.block ?_ | refine WK.inBlock ?_ | refine WK.skip ?_ | refine WK.label ?_ | refine WK.scope ?_ | refine WK.inScope ?_ | refine WK.exit rfl ?_)
  first | refine WK.reg 200 Tryz.ntmps49 (by kernel_rfl) ?_ | refine WK.regD 200 clsOf (by kernel_rfl) Tryz.ntmps49 (by kernel_rfl) (by kernel_rfl) ?_
  intro A hA Q hQ
  simp [Flow.enc]
  refine hQ _ _ ?_
  clear hQ hA
  repeat (first | refine WK.seq ?_ | refine WK.block ?_ | refine WK.inBlock ?_ | refine WK.skip ?_ | refine WK.label ?_ | refine WK.scope ?_ | refine WK.inScope ?_ | refine WK.exit rfl ?_)
  refine WK.ret Tryz.func49 (by simp (maxDischargeDepth := 120) [Tryz.results49, e]) (by simp [e])
theorem ramong_c (n : Int) (l : List Int) (hl : l.length ≤ 1000000) : FnP Tryz.prog 75 [.int .i64 n, intS l] (.bool (l.any fun x => n == x)) := by
  unfold intS
  refine FnP.intro Tryz.func75 rfl rfl fun G w => ?_
  repeat (first | refine WK.seq ?_ | refine WK.block ?_ | refine WK.inBlock ?_ | refine WK.skip ?_ | refine WK.label ?_ | refine WK.scope ?_ | refine WK.inScope ?_ | refine WK.exit rfl ?_)
  first | refine WK.reg 100 Tryz.ntmps75 (by kernel_rfl) ?_ | refine WK.regD 100 clsOf (by kernel_rfl) Tryz.ntmps75 (by kernel_rfl) (by kernel_rfl) ?_
  intro A hA Q hQ
  simp
  refine hQ _ _ ?_
  clear hQ hA
  repeat (first | refine WK.seq ?_ | refine WK.block ?_ | refine WK.inBlock ?_ | refine WK.skip ?_ | refine WK.label ?_ | refine WK.scope ?_ | refine WK.inScope ?_ | refine WK.exit rfl ?_)
  first | refine WK.reg 200 Tryz.ntmps75 (by kernel_rfl) ?_ | refine WK.regD 200 clsOf (by kernel_rfl) Tryz.ntmps75 (by kernel_rfl) (by kernel_rfl) ?_
  intro A hA Q hQ
  simp
  refine hQ _ _ ?_
  clear hQ hA
  repeat (first | refine WK.seq ?_ | refine WK.block ?_ | refine WK.inBlock ?_ | refine WK.skip ?_ | refine WK.label ?_ | refine WK.scope ?_ | refine WK.inScope ?_ | refine WK.exit rfl ?_)
  refine WK.loopI (fun n => n) (fun i : Nat => (⟨(upd (upd (upd J 0 (.int .i64 n)) 1 (.sl false l.length (intL l))) 5 (.int .i64 i)), B0, 0⟩ : St)) (fun i => i ≤ l.length ∧ ∀ j, j < i → (n == nth l j) = false) (fun i => l.length - i) (0) (by repeat (first | exact TmW.nil | refine TmW.upd ?_ (by simp (maxDischargeDepth := 120)))) (by repeat (first | exact BxW.nil | refine BxW.upd ?_ (by simp (maxDischargeDepth := 120)))) (by first | exact InjW.id | exact InjW.nil | exact InjW.one | exact InjW.two (by simp) | exact InjW.three (by simp) (by simp) (by simp)) (⟨by omega, by simp⟩) (fun i hi IH => ?_)
  repeat (first | refine WK.seq ?_ | refine WK.block ?_ | refine WK.inBlock ?_ | refine WK.skip ?_ | refine WK.label ?_ | refine WK.scope ?_ | refine WK.inScope ?_ | refine WK.exit rfl ?_)
  first | refine WK.reg 300 Tryz.ntmps75 (by kernel_rfl) ?_ | refine WK.regD 300 clsOf (by kernel_rfl) Tryz.ntmps75 (by kernel_rfl) (by kernel_rfl) ?_
  intro A hA Q hQ
  simp
  refine hQ _ _ ?_
  clear hQ hA
  repeat (first | refine WK.seq ?_ | refine WK.block ?_ | refine WK.inBlock ?_ | refine WK.skip ?_ | refine WK.label ?_ | refine WK.scope ?_ | refine WK.inScope ?_ | refine WK.exit rfl ?_)
  refine WK.cond2 rfl (fun h1 => ?_) (fun h1 => ?_)
  · simp at h1
    have h2 : i < l.length := by omega
    have h4 := int_sub l i h2
    have h6 : IntKind.i64.wrap ((i : Int) + 1) = i + 1 := wrap_i64 (by omega) (by omega)
    repeat (first | refine WK.seq ?_ | refine WK.block ?_ | refine WK.inBlock ?_ | refine WK.skip ?_ | refine WK.label ?_ | refine WK.scope ?_ | refine WK.inScope ?_ | refine WK.exit rfl ?_)
    first | refine WK.reg 400 Tryz.ntmps75 (by kernel_rfl) ?_ | refine WK.regD 400 clsOf (by kernel_rfl) Tryz.ntmps75 (by kernel_rfl) (by kernel_rfl) ?_
    intro A hA Q hQ
    simp [h2, h4]
    refine hQ _ _ ?_
    clear hQ hA
    repeat (first | refine WK.seq ?_ | refine WK.block ?_ | refine WK.inBlock ?_ | refine WK.skip ?_ | refine WK.label ?_ | refine WK.scope ?_ | refine WK.inScope ?_ | refine WK.exit rfl ?_)
    refine WK.cond2 rfl (fun h5 => ?_) (fun h5 => ?_)
    · have h5' : (n == nth l i) = true := by rw [BEq.comm]; exact h5
      have e : l.any (fun x => n == x) = true := List.any_eq_true.2 ⟨_, nth_mem h2, h5'⟩
      repeat (first | refine WK.seq ?_ | refine WK.block ?_ | refine WK.inBlock ?_ | refine WK.skip ?_ | refine WK.label ?_ | refine WK.scope ?_ | refine WK.inScope ?_ | refine WK.exit rfl ?_)
      first | refine WK.reg 500 Tryz.ntmps75 (by kernel_rfl) ?_ | refine WK.regD 500 clsOf (by kernel_rfl) Tryz.ntmps75 (by kernel_rfl) (by kernel_rfl) ?_
      intro A hA Q hQ
      simp
      refine hQ _ _ ?_
      clear hQ hA
      repeat (first | refine WK.seq ?_ | refine WK.block ?_ | refine WK.inBlock ?_ | refine WK.skip ?_ | refine WK.label ?_ | refine WK.scope ?_ | refine WK.inScope ?_ | refine WK.exit rfl ?_)
      refine WK.ret Tryz.func75 (by simp (maxDischargeDepth := 120) [Tryz.results75, e]) (by simp [e])
    · have h5' : (n == nth l i) = false := by rw [BEq.comm]; exact h5
      repeat (first | refine WK.seq ?_ | refine WK.block ?_ | refine WK.inBlock ?_ | refine WK.skip ?_ | refine WK.label ?_ | refine WK.scope ?_ | refine WK.inScope ?_ | refine WK.exit rfl ?_)
      first | refine WK.reg 600 Tryz.ntmps75 (by kernel_rfl) ?_ | refine WK.regD 600 clsOf (by kernel_rfl) Tryz.ntmps75 (by kernel_rfl) (by kernel_rfl) ?_
      intro A hA Q hQ
      simp [h6]
      refine hQ _ _ ?_
      clear hQ hA
      repeat (first | refine WK.seq ?_ | refine WK.block ?_ | refine WK.inBlock ?_ | refine WK.skip ?_ | refine WK.label ?_ | refine WK.scope ?_ | refine WK.inScope ?_ | refine WK.exit rfl ?_)
      refine WK.next (fun n => n) (IH (i + 1) (⟨by omega, fun j hj => by by_cases h7 : j = i; (subst h7; exact h5'); exact hi.2 j (by omega)⟩) (by first | omega | (dsimp only; omega))) (by repeat (first | exact TmW.nil | refine TmW.upd ?_ (by simp (maxDischargeDepth := 120)))) (by repeat (first | exact BxW.nil | refine BxW.upd ?_ (by simp (maxDischargeDepth := 120)))) (by first | exact InjW.id | exact InjW.nil | exact InjW.one | exact InjW.two (by simp) | exact InjW.three (by simp) (by simp) (by simp))
  · simp at h1
    have e : l.any (fun x => n == x) = false := by
      rw [List.any_eq_false]
      intro x hx
      obtain ⟨j, hj, rfl⟩ := mem_nth hx
      have := hi.2 j (by omega)
      simpa using this
    repeat (first | refine WK.seq ?_ | refine WK.block ?_ | refine WK.inBlock ?_ | refine WK.skip ?_ | refine WK.label ?_ | refine WK.scope ?_ | refine WK.inScope ?_ | refine WK.exit rfl ?_)
    first | refine WK.reg 700 Tryz.ntmps75 (by kernel_rfl) ?_ | refine WK.regD 700 clsOf (by kernel_rfl) Tryz.ntmps75 (by kernel_rfl) (by kernel_rfl) ?_
    intro A hA Q hQ
    simp
    refine hQ _ _ ?_
    clear hQ hA
    repeat (first | refine WK.seq ?_ | refine WK.block ?_ | refine WK.inBlock ?_ | refine WK.skip ?_ | refine WK.label ?_ | refine WK.scope ?_ | refine WK.inScope ?_ | refine WK.exit rfl ?_)
    refine WK.ret Tryz.func75 (by simp (maxDischargeDepth := 120) [Tryz.results75, e]) (by simp [e])
theorem rout_c (f : Flow) (p g : Int) (hf : FPl f) : FnP Tryz.prog 52 [.agg f.enc, .int .i64 p, .int .i64 g] (.bool (Flow.out f p g)) := by
  have done : ∀ b : Bool, someOk p 4294967295 (Flow.goPorts f) = b → FnP Tryz.prog 52 [.agg f.enc, .int .i64 p, .int .i64 g] (.bool (Flow.out f p g)) := by
    intro b hb
    cases k1 : p == 4294967295
    · have hb' : ((Flow.goPorts f).any fun x => p == x) = b := by unfold someOk at hb; rw [k1] at hb; exact hb
      cases b
      · refine FnP.intro Tryz.func52 rfl rfl fun G w => ?_
        repeat (first | refine WK.seq ?_ | refine WK.block ?_ | refine WK.inBlock ?_ | refine WK.skip ?_ | refine WK.label ?_ | refine WK.scope ?_ | refine WK.inScope ?_ | refine WK.exit rfl ?_)
        first | refine WK.reg 100 Tryz.ntmps52 (by kernel_rfl) ?_ | refine WK.regD 100 clsOf (by kernel_rfl) Tryz.ntmps52 (by kernel_rfl) (by kernel_rfl) ?_
        intro A hA Q hQ
        simp
        refine hQ _ _ ?_
        clear hQ hA
        repeat (first | refine WK.seq ?_ | refine WK.block ?_ | refine WK.inBlock ?_ | refine WK.skip ?_ | refine WK.label ?_ | refine WK.scope ?_ | refine WK.inScope ?_ | refine WK.exit rfl ?_)
        first | refine WK.reg 200 Tryz.ntmps52 (by kernel_rfl) ?_ | refine WK.regD 200 clsOf (by kernel_rfl) Tryz.ntmps52 (by kernel_rfl) (by kernel_rfl) ?_
        intro A hA Q hQ
        have hg2 : (A[2]?).bind (·.dst) = some 9 := by rw [hA]; rfl
        have hg8 : (A[8]?).bind (·.dst) = some 15 := by rw [hA]; rfl
        have hg11 : (A[11]?).bind (·.dst) = some 18 := by rw [hA]; rfl
        simp [k1, hg2, hg8, hg11]
        refine RunQ.callG rfl rfl (by simp [hg2, k1]) rfl (by rfl) (by simp (maxDischargeDepth := 120) [hg2, k1]) (rfPorts_c f hf.ok hf.acts) (by simp [hg2, k1]) ?_
        refine RunQ.eval ?_
        simp [hg2, k1]
        refine RunQ.callG rfl rfl (by simp [hg2, hg8, hg11, k1, hb']) rfl (by rfl) (by simp (maxDischargeDepth := 120) [hg2, hg8, hg11, k1, hb']) (ramong_c p (Flow.goPorts f) (goPorts_le hf)) (by simp [hg2, hg8, hg11, k1, hb']) ?_
        refine RunQ.eval ?_
        simp [hg2, hg8, hg11, k1, hb']
        refine hQ _ _ ?_
        clear hQ hA
        repeat (first | refine WK.seq ?_ | refine WK.block ?_ | refine WK.inBlock ?_ | refine WK.skip ?_ | refine WK.label ?_ | refine WK.scope ?_ | refine WK.inScope ?_ | refine WK.exit rfl ?_)
        refine WK.ret Tryz.func52 (by simp (maxDischargeDepth := 120) [Tryz.results52, Flow.out, hb]) (by simp [Flow.out, hb])
      · cases k2 : g == 4294967295
        · have e2 : someOk g 4294967295 (Flow.goGroups f) = (Flow.goGroups f).any fun x => g == x := by unfold someOk; rw [k2]; rfl
          refine FnP.intro Tryz.func52 rfl rfl fun G w => ?_
          repeat (first | refine WK.seq ?_ | refine WK.block ?_ | refine WK.inBlock ?_ | refine WK.skip ?_ | refine WK.label ?_ | refine WK.scope ?_ | refine WK.inScope ?_ | refine WK.exit rfl ?_)
          first | refine WK.reg 100 Tryz.ntmps52 (by kernel_rfl) ?_ | refine WK.regD 100 clsOf (by kernel_rfl) Tryz.ntmps52 (by kernel_rfl) (by kernel_rfl) ?_
          intro A hA Q hQ
          simp
          refine hQ _ _ ?_
          clear hQ hA
          repeat (first | refine WK.seq ?_ | refine WK.block ?_ | refine WK.inBlock ?_ | refine WK.skip ?_ | refine WK.label ?_ | refine WK.scope ?_ | refine WK.inScope ?_ | refine WK.exit rfl ?_)
          first | refine WK.reg 200 Tryz.ntmps52 (by kernel_rfl) ?_ | refine WK.regD 200 clsOf (by kernel_rfl) Tryz.ntmps52 (by kernel_rfl) (by kernel_rfl) ?_
          intro A hA Q hQ
          have hg2 : (A[2]?).bind (·.dst) = some 9 := by rw [hA]; rfl
          have hg8 : (A[8]?).bind (·.dst) = some 15 := by rw [hA]; rfl
          have hg11 : (A[11]?).bind (·.dst) = some 18 := by rw [hA]; rfl
          simp [k1, hg2, hg8, hg11]
          refine RunQ.callG rfl rfl (by simp [hg2, k1]) rfl (by rfl) (by simp (maxDischargeDepth := 120) [hg2, k1]) (rfPorts_c f hf.ok hf.acts) (by simp [hg2, k1]) ?_
          refine RunQ.eval ?_
          simp [hg2, k1]
          refine RunQ.callG rfl rfl (by simp [hg2, hg8, hg11, k1, hb', k2]) rfl (by rfl) (by simp (maxDischargeDepth := 120) [hg2, hg8, hg11, k1, hb', k2]) (ramong_c p (Flow.goPorts f) (goPorts_le hf)) (by simp [hg2, hg8, hg11, k1, hb', k2]) ?_
          refine RunQ.eval ?_
          simp [hg2, hg8, hg11, k1, hb', k2]
          refine RunQ.callG rfl rfl (by simp [hg11, k2]) rfl (by rfl) (by simp (maxDischargeDepth := 120) [hg11, k2]) (rfGroups_c f hf.ok hf.acts) (by simp [hg11, k2]) ?_
          refine RunQ.eval ?_
          simp [hg11, k2]
          refine RunQ.callG rfl rfl (by simp [hg8, hg11, k2]) rfl (by rfl) (by simp (maxDischargeDepth := 120) [hg8, hg11, k2]) (ramong_c g (Flow.goGroups f) (goGroups_le hf)) (by simp [hg8, hg11, k2]) ?_
          refine RunQ.eval ?_
          simp [hg8, hg11, k2]
          refine hQ _ _ ?_
          clear hQ hA
          repeat (first | refine WK.seq ?_ | refine WK.block ?_ | refine WK.inBlock ?_ | refine WK.skip ?_ | refine WK.label ?_ | refine WK.scope ?_ | refine WK.inScope ?_ | refine WK.exit rfl ?_)
          refine WK.ret Tryz.func52 (by simp (maxDischargeDepth := 120) [Tryz.results52, Flow.out, hb, e2]) (by simp [Flow.out, hb, e2])
        · have e2 : someOk g 4294967295 (Flow.goGroups f) = true := by unfold someOk; rw [k2]; rfl
          refine FnP.intro Tryz.func52 rfl rfl fun G w => ?_
          repeat (first | refine WK.seq ?_ | refine WK.block ?_ | refine WK.inBlock ?_ | refine WK.skip ?_ | refine WK.label ?_ | refine WK.scope ?_ | refine WK.inScope ?_ | refine WK.exit rfl ?_)
          first | refine WK.reg 100 Tryz.ntmps52 (by kernel_rfl) ?_ | refine WK.regD 100 clsOf (by kernel_rfl) Tryz.ntmps52 (by kernel_rfl) (by kernel_rfl) ?_
          intro A hA Q hQ
          simp
          refine hQ _ _ ?_
          clear hQ hA
          repeat (first | refine WK.seq ?_ | refine WK.block ?_ | refine WK.inBlock ?_ | refine WK.skip ?_ | refine WK.label ?_ | refine WK.scope ?_ | refine WK.inScope ?_ | refine WK.exit rfl ?_)
          first | refine WK.reg 200 Tryz.ntmps52 (by kernel_rfl) ?_ | refine WK.regD 200 clsOf (by kernel_rfl) Tryz.ntmps52 (by kernel_rfl) (by kernel_rfl) ?_
          intro A hA Q hQ
          have hg2 : (A[2]?).bind (·.dst) = some 9 := by rw [hA]; rfl
          have hg8 : (A[8]?).bind (·.dst) = some 15 := by rw [hA]; rfl
          have hg11 : (A[11]?).bind (·.dst) = some 18 := by rw [hA]; rfl
          simp [k1, hg2, hg8, hg11]
          refine RunQ.callG rfl rfl (by simp [hg2, k1]) rfl (by rfl) (by simp (maxDischargeDepth := 120) [hg2, k1]) (rfPorts_c f hf.ok hf.acts) (by simp [hg2, k1]) ?_
          refine RunQ.eval ?_
          simp [hg2, k1]
          refine RunQ.callG rfl rfl (by simp [hg2, hg8, hg11, k1, hb', k2]) rfl (by rfl) (by simp (maxDischargeDepth := 120) [hg2, hg8, hg11, k1, hb', k2]) (ramong_c p (Flow.goPorts f) (goPorts_le hf)) (by simp [hg2, hg8, hg11, k1, hb', k2]) ?_
          refine RunQ.eval ?_
          simp [hg2, hg8, hg11, k1, hb', k2]
          refine hQ _ _ ?_
          clear hQ hA
          repeat (first | refine WK.seq ?_ | refine WK.block ?_ | refine WK.inBlock ?_ | refine WK.skip ?_ | refine WK.label ?_ | refine WK.scope ?_ | refine WK.inScope ?_ | refine WK.exit rfl ?_)
          refine WK.ret Tryz.func52 (by simp (maxDischargeDepth := 120) [Tryz.results52, Flow.out, hb, e2]) (by simp [Flow.out, hb, e2])
    · have hb' : b = true := by unfold someOk at hb; rw [k1] at hb; exact hb.symm
      subst hb'
      cases k2 : g == 4294967295
      · have e2 : someOk g 4294967295 (Flow.goGroups f) = (Flow.goGroups f).any fun x => g == x := by unfold someOk; rw [k2]; rfl
        refine FnP.intro Tryz.func52 rfl rfl fun G w => ?_
        repeat (first | refine WK.seq ?_ | refine WK.block ?_ | refine WK.inBlock ?_ | refine WK.skip ?_ | refine WK.label ?_ | refine WK.scope ?_ | refine WK.inScope ?_ | refine WK.exit rfl ?_)
        first | refine WK.reg 100 Tryz.ntmps52 (by kernel_rfl) ?_ | refine WK.regD 100 clsOf (by kernel_rfl) Tryz.ntmps52 (by kernel_rfl) (by kernel_rfl) ?_
        intro A hA Q hQ
        simp
        refine hQ _ _ ?_
        clear hQ hA
        repeat (first | refine WK.seq ?_ | refine WK.block ?_ | refine WK.inBlock ?_ | refine WK.skip ?_ | refine WK.label ?_ | refine WK.scope ?_ | refine WK.inScope ?_ | refine WK.exit rfl ?_)
        first | refine WK.reg 200 Tryz.ntmps52 (by kernel_rfl) ?_ | refine WK.regD 200 clsOf (by kernel_rfl) Tryz.ntmps52 (by kernel_rfl) (by kernel_rfl) ?_
        intro A hA Q hQ
        have hg2 : (A[2]?).bind (·.dst) = some 9 := by rw [hA]; rfl
        have hg8 : (A[8]?).bind (·.dst) = some 15 := by rw [hA]; rfl
        have hg11 : (A[11]?).bind (·.dst) = some 18 := by rw [hA]; rfl
        simp [k1, k2, hg2, hg8, hg11]
        refine RunQ.callG rfl rfl (by simp [hg11, k2]) rfl (by rfl) (by simp (maxDischargeDepth := 120) [hg11, k2]) (rfGroups_c f hf.ok hf.acts) (by simp [hg11, k2]) ?_
        refine RunQ.eval ?_
        simp [hg11, k2]
        refine RunQ.callG rfl rfl (by simp [hg8, hg11, k2]) rfl (by rfl) (by simp (maxDischargeDepth := 120) [hg8, hg11, k2]) (ramong_c g (Flow.goGroups f) (goGroups_le hf)) (by simp [hg8, hg11, k2]) ?_
        refine RunQ.eval ?_
        simp [hg8, hg11, k2]
        refine hQ _ _ ?_
        clear hQ hA
        repeat (first | refine WK.seq ?_ | refine WK.block ?_ | refine WK.inBlock ?_ | refine WK.skip ?_ | refine WK.label ?_ | refine WK.scope ?_ | refine WK.inScope ?_ | refine WK.exit rfl ?_)
        refine WK.ret Tryz.func52 (by simp (maxDischargeDepth := 120) [Tryz.results52, Flow.out, hb, e2]) (by simp [Flow.out, hb, e2])
      · have e2 : someOk g 4294967295 (Flow.goGroups f) = true := by unfold someOk; rw [k2]; rfl
        refine FnP.intro Tryz.func52 rfl rfl fun G w => ?_
        repeat (first | refine WK.seq ?_ | refine WK.block ?_ | refine WK.inBlock ?_ | refine WK.skip ?_ | refine WK.label ?_ | refine WK.scope ?_ | refine WK.inScope ?_ | refine WK.exit rfl ?_)
        first | refine WK.reg 100 Tryz.ntmps52 (by kernel_rfl) ?_ | refine WK.regD 100 clsOf (by kernel_rfl) Tryz.ntmps52 (by kernel_rfl) (by kernel_rfl) ?_
        intro A hA Q hQ
        simp
        refine hQ _ _ ?_
        clear hQ hA
        repeat (first | refine WK.seq ?_ | refine WK.block ?_ | refine WK.inBlock ?_ | refine WK.skip ?_ | refine WK.label ?_ | refine WK.scope ?_ | refine WK.inScope ?_ | refine WK.exit rfl ?_)
        first | refine WK.reg 200 Tryz.ntmps52 (by kernel_rfl) ?_ | refine WK.regD 200 clsOf (by kernel_rfl) Tryz.ntmps52 (by kernel_rfl) (by kernel_rfl) ?_
        intro A hA Q hQ
        have hg2 : (A[2]?).bind (·.dst) = some 9 := by rw [hA]; rfl
        have hg8 : (A[8]?).bind (·.dst) = some 15 := by rw [hA]; rfl
        have hg11 : (A[11]?).bind (·.dst) = some 18 := by rw [hA]; rfl
        simp [k1, k2, hg2, hg8, hg11]
        refine hQ _ _ ?_
        clear hQ hA
        repeat (first | refine WK.seq ?_ | refine WK.block ?_ | refine WK.inBlock ?_ | refine WK.skip ?_ | refine WK.label ?_ | refine WK.scope ?_ | refine WK.inScope ?_ | refine WK.exit rfl ?_)
        refine WK.ret Tryz.func52 (by simp (maxDischargeDepth := 120) [Tryz.results52, Flow.out, hb, e2]) (by simp [Flow.out, hb, e2])
  exact done _ rfl

theorem alikeT (g : Flow) (hg : FOk g) : Tst (.fn 98 [.iptr g.enc]) (fun f => Flow.alike f g) := by
  refine ⟨_, _, rfl, by simp, fun f hf => ?_⟩
  refine FnP.intro Tryz.func98 rfl rfl fun G w => ?_
  repeat (first | refine WK.seq ?_ | refine WK.block ?_ | refine WK.inBlock ?_ | refine WK.skip ?_ | refine WK.label ?_ | refine WK.scope ?_ | refine WK.inScope ?_ | refine WK.exit rfl ?_)
  first | refine WK.reg 100 Tryz.ntmps98 (by kernel_rfl) ?_ | refine WK.regD 100 clsOf (by kernel_rfl) Tryz.ntmps98 (by kernel_rfl) (by kernel_rfl) ?_
  intro A hA Q hQ
  simp
  refine hQ _ _ ?_
  clear hQ hA
  repeat (first | refine WK.seq ?_ | refine WK.block ?_ | refine WK.inBlock ?_ | refine WK.skip ?_ | refine WK.label ?_ | refine WK.scope ?_ | refine WK.inScope ?_ | refine WK.exit rfl ?_)
  first | refine WK.reg 200 Tryz.ntmps98 (by kernel_rfl) ?_ | refine WK.regD 200 clsOf (by kernel_rfl) Tryz.ntmps98 (by kernel_rfl) (by kernel_rfl) ?_
  intro A hA Q hQ
  simp
  refine RunQ.call rfl rfl rfl rfl (by rfl) (by simp (maxDischargeDepth := 120)) (alike_c f g hf.ok hg) (by simp) ?_
  refine RunQ.eval ?_
  simp
  refine hQ _ _ ?_
  clear hQ hA
  repeat (first | refine WK.seq ?_ | refine WK.block ?_ | refine WK.inBlock ?_ | refine WK.skip ?_ | refine WK.label ?_ | refine WK.scope ?_ | refine WK.inScope ?_ | refine WK.exit rfl ?_)
  refine WK.ret Tryz.func98 (by simp (maxDischargeDepth := 120) [Tryz.results98]) (by simp)
theorem coversT (c : Cube) : Tst (.fn 99 [.iptr (encC c)]) (fun f => cubeWithin (Flow.cube f) c) := by
  refine ⟨_, _, rfl, by simp, fun f hf => ?_⟩
  refine FnP.intro Tryz.func99 rfl rfl fun G w => ?_
  repeat (first | refine WK.seq ?_ | refine WK.block ?_ | refine WK.inBlock ?_ | refine WK.skip ?_ | refine WK.label ?_ | refine WK.scope ?_ | refine WK.inScope ?_ | refine WK.exit rfl ?_)
  first | refine WK.reg 100 Tryz.ntmps99 (by kernel_rfl) ?_ | refine WK.regD 100 clsOf (by kernel_rfl) Tryz.ntmps99 (by kernel_rfl) (by kernel_rfl) ?_
  intro A hA Q hQ
  simp
  refine hQ _ _ ?_
  clear hQ hA
  repeat (first | refine WK.seq ?_ | refine WK.block ?_ | refine WK.inBlock ?_ | refine WK.skip ?_ | refine WK.label ?_ | refine WK.scope ?_ | refine WK.inScope ?_ | refine WK.exit rfl ?_)
  first | refine WK.reg 200 Tryz.ntmps99 (by kernel_rfl) ?_ | refine WK.regD 200 clsOf (by kernel_rfl) Tryz.ntmps99 (by kernel_rfl) (by kernel_rfl) ?_
  intro A hA Q hQ
  simp
  refine RunQ.call rfl rfl rfl rfl (by rfl) (by simp (maxDischargeDepth := 120)) (covers_c c f hf.ok) (by simp) ?_
  refine RunQ.eval ?_
  simp
  refine hQ _ _ ?_
  clear hQ hA
  repeat (first | refine WK.seq ?_ | refine WK.block ?_ | refine WK.inBlock ?_ | refine WK.skip ?_ | refine WK.label ?_ | refine WK.scope ?_ | refine WK.inScope ?_ | refine WK.exit rfl ?_)
  refine WK.ret Tryz.func99 (by simp (maxDischargeDepth := 120) [Tryz.results99]) (by simp)
theorem cookieT (m : FlowMod) : Tst (.fn 101 [.iptr m.enc]) (fun f => cookieOk f m.cookie m.cookieMask) := by
  refine ⟨_, _, rfl, by simp, fun f hf => ?_⟩
  refine FnP.intro Tryz.func101 rfl rfl fun G w => ?_
  repeat (first | refine WK.seq ?_ | refine WK.block ?_ | refine WK.inBlock ?_ | refine WK.skip ?_ | refine WK.label ?_ | refine WK.scope ?_ | refine WK.inScope ?_ | refine WK.exit rfl ?_)
  first | refine WK.reg 100 Tryz.ntmps101 (by kernel_rfl) ?_ | refine WK.regD 100 clsOf (by kernel_rfl) Tryz.ntmps101 (by kernel_rfl) (by kernel_rfl) ?_
  intro A hA Q hQ
  simp
  refine hQ _ _ ?_
  clear hQ hA
  repeat (first | refine WK.seq ?_ | refine WK.block ?_ | refine WK.inBlock ?_ | refine WK.skip ?_ | refine WK.label ?_ | refine WK.scope ?_ | refine WK.inScope ?_ | refine WK.exit rfl ?_)
  first | refine WK.reg 200 Tryz.ntmps101 (by kernel_rfl) ?_ | refine WK.regD 200 clsOf (by kernel_rfl) Tryz.ntmps101 (by kernel_rfl) (by kernel_rfl) ?_
  intro A hA Q hQ
  simp [FlowMod.enc]
  refine RunQ.call rfl rfl rfl rfl (by rfl) (by simp (maxDischargeDepth := 120) [FlowMod.enc]) (cookie_c f m.cookie m.cookieMask) (by simp [FlowMod.enc]) ?_
  refine RunQ.eval ?_
  simp [FlowMod.enc]
  refine hQ _ _ ?_
  clear hQ hA
  repeat (first | refine WK.seq ?_ | refine WK.block ?_ | refine WK.inBlock ?_ | refine WK.skip ?_ | refine WK.label ?_ | refine WK.scope ?_ | refine WK.inScope ?_ | refine WK.exit rfl ?_)
  refine WK.ret Tryz.func101 (by simp (maxDischargeDepth := 120) [Tryz.results101]) (by simp)
theorem outT (m : FlowMod) : Tst (.fn 103 [.iptr m.enc]) (fun f => Flow.out f m.outPort m.outGroup) := by
  refine ⟨_, _, rfl, by simp, fun f hf => ?_⟩
  refine FnP.intro Tryz.func103 rfl rfl fun G w => ?_
  repeat (first | refine WK.seq ?_ | refine WK.block ?_ | refine WK.inBlock ?_ | refine WK.skip ?_ | refine WK.label ?_ | refine WK.scope ?_ | refine WK.inScope ?_ | refine WK.exit rfl ?_)
  first | refine WK.reg 100 Tryz.ntmps103 (by kernel_rfl) ?_ | refine WK.regD 100 clsOf (by kernel_rfl) Tryz.ntmps103 (by kernel_rfl) (by kernel_rfl) ?_
  intro A hA Q hQ
  simp
  refine hQ _ _ ?_
  clear hQ hA
  repeat (first | refine WK.seq ?_ | refine WK.block ?_ | refine WK.inBlock ?_ | refine WK.skip ?_ | refine WK.label ?_ | refine WK.scope ?_ | refine WK.inScope ?_ | refine WK.exit rfl ?_)
  first | refine WK.reg 200 Tryz.ntmps103 (by kernel_rfl) ?_ | refine WK.regD 200 clsOf (by kernel_rfl) Tryz.ntmps103 (by kernel_rfl) (by kernel_rfl) ?_
  intro A hA Q hQ
  simp [FlowMod.enc]
  refine RunQ.call rfl rfl rfl rfl (by rfl) (by simp (maxDischargeDepth := 120) [FlowMod.enc]) (out_c f m.outPort m.outGroup hf) (by simp [FlowMod.enc]) ?_
  refine RunQ.eval ?_
  simp [FlowMod.enc]
  refine hQ _ _ ?_
  clear hQ hA
  repeat (first | refine WK.seq ?_ | refine WK.block ?_ | refine WK.inBlock ?_ | refine WK.skip ?_ | refine WK.label ?_ | refine WK.scope ?_ | refine WK.inScope ?_ | refine WK.exit rfl ?_)
  refine WK.ret Tryz.func103 (by simp (maxDischargeDepth := 120) [Tryz.results103]) (by simp)
theorem noneT : Tst (.fn 106 []) (fun f => false) := by
  refine ⟨_, _, rfl, by simp, fun f hf => ?_⟩
  refine FnP.intro Tryz.func106 rfl rfl fun G w => ?_
  repeat (first | refine WK.seq ?_ | refine WK.block ?_ | refine WK.inBlock ?_ | refine WK.skip ?_ | refine WK.label ?_ | refine WK.scope ?_ | refine WK.inScope ?_ | refine WK.exit rfl ?_)
  first | refine WK.reg 100 Tryz.ntmps106 (by kernel_rfl) ?_ | refine WK.regD 100 clsOf (by kernel_rfl) Tryz.ntmps106 (by kernel_rfl) (by kernel_rfl) ?_
  intro A hA Q hQ
  simp
  refine hQ _ _ ?_
  clear hQ hA
  repeat (first | refine WK.seq ?_ | refine WK.block ?_ | refine WK.inBlock ?_ | refine WK.skip ?_ | refine WK.label ?_ | refine WK.scope ?_ | refine WK.inScope ?_ | refine WK.exit rfl ?_)
  first | refine WK.reg 200 Tryz.ntmps106 (by kernel_rfl) ?_ | refine WK.regD 200 clsOf (by kernel_rfl) Tryz.ntmps106 (by kernel_rfl) (by kernel_rfl) ?_
  intro A hA Q hQ
  simp
  refine hQ _ _ ?_
  clear hQ hA
  repeat (first | refine WK.seq ?_ | refine WK.block ?_ | refine WK.inBlock ?_ | refine WK.skip ?_ | refine WK.label ?_ | refine WK.scope ?_ | refine WK.inScope ?_ | refine WK.exit rfl ?_)
  refine WK.ret Tryz.func106 (by simp (maxDischargeDepth := 120) [Tryz.results106]) (by simp)
def aV (m : FlowMod) : AV := .fn 98 [.iptr (FlowMod.flow m).enc]
def cV (m : FlowMod) : AV := .fn 99 [.iptr (encC (Flow.cube (FlowMod.flow m)))]
def kV (m : FlowMod) : AV := .fn 101 [.iptr m.enc]
def oV (m : FlowMod) : AV := .fn 103 [.iptr m.enc]
def asksV (m : FlowMod) : AV :=
  if m.command == 0 then aV m else if m.command == 1 then andV [cV m, kV m] else if m.command == 2 then andV [aV m, kV m]
  else if m.command == 3 then andV [cV m, kV m, oV m] else if m.command == 4 then andV [aV m, kV m, oV m] else .fn 106 []
def FlowMod.takes (m : FlowMod) (f : Flow) : Bool :=
  if m.command == 0 then Flow.alike f (FlowMod.flow m)
  else if m.command == 1 then cubeWithin (Flow.cube f) (Flow.cube (FlowMod.flow m)) && cookieOk f m.cookie m.cookieMask
  else if m.command == 2 then Flow.alike f (FlowMod.flow m) && cookieOk f m.cookie m.cookieMask
  else if m.command == 3 then cubeWithin (Flow.cube f) (Flow.cube (FlowMod.flow m)) && (cookieOk f m.cookie m.cookieMask && Flow.out f m.outPort m.outGroup)
  else if m.command == 4 then Flow.alike f (FlowMod.flow m) && (cookieOk f m.cookie m.cookieMask && Flow.out f m.outPort m.outGroup)
  else false
theorem Tst.congr {x : AV} {p q : Flow → Bool} (h : Tst x p) (e : ∀ f, p f = q f) : Tst x q := by
  have : p = q := funext e
  rw [← this]; exact h
theorem and2 {x y : AV} {p q : Flow → Bool} (hx : Tst x p) (hy : Tst y q) (hc : ClL [x, y] = true) : Tst (andV [x, y]) (fun f => p f && q f) := by
  refine (and_t [x, y] (fun i => if i = 0 then p else q) (by simp) hc fun i z hz => ?_).congr fun f => ?_
  · match i, hz with
    | 0, hz => simp at hz; subst hz; exact hx
    | 1, hz => simp at hz; subst hz; exact hy
    | i + 2, hz => simp at hz
  · simp [List.range_succ]
theorem and3 {x y z : AV} {p q r : Flow → Bool} (hx : Tst x p) (hy : Tst y q) (hz : Tst z r) (hc : ClL [x, y, z] = true) : Tst (andV [x, y, z]) (fun f => p f && (q f && r f)) := by
  refine (and_t [x, y, z] (fun i => if i = 0 then p else if i = 1 then q else r) (by simp) hc fun i u hu => ?_).congr fun f => ?_
  · match i, hu with
    | 0, hu => simp at hu; subst hu; exact hx
    | 1, hu => simp at hu; subst hu; exact hy
    | 2, hu => simp at hu; subst hu; exact hz
    | i + 3, hu => simp at hu
  · simp [List.range_succ, Bool.and_assoc]
theorem asks_t (m : FlowMod) (hm : FOk (FlowMod.flow m)) : Tst (asksV m) (FlowMod.takes m) := by
  have a := alikeT (FlowMod.flow m) hm
  have c := coversT (Flow.cube (FlowMod.flow m))
  have k := cookieT m
  have o := outT m
  unfold asksV FlowMod.takes
  by_cases h0 : (m.command == 0) = true
  · simp only [h0, if_true]; exact a
  by_cases h1 : (m.command == 1) = true
  · simp only [h0, h1, if_true, if_false]; exact and2 c k (by simp [cV, kV])
  by_cases h2 : (m.command == 2) = true
  · simp only [h0, h1, h2, if_true, if_false]; exact and2 a k (by simp [aV, kV])
  by_cases h3 : (m.command == 3) = true
  · simp only [h0, h1, h2, h3, if_true, if_false]; exact and3 c k o (by simp [cV, kV, oV])
  by_cases h4 : (m.command == 4) = true
  · simp only [h0, h1, h2, h3, h4, if_true, if_false]; exact and3 a k o (by simp [aV, kV, oV])
  simp only [h0, h1, h2, h3, h4, if_false]; exact noneT
set_option maxHeartbeats 2000000 in
theorem asks_c (m : FlowMod) (hm : FOk (FlowMod.flow m)) : FnP Tryz.prog 79 [.agg m.enc] (asksV m) := by
  refine FnP.intro Tryz.func79 rfl rfl fun G w => ?_
  repeat (first | refine WK.seq ?_ | refine WK.block ?_ | refine WK.inBlock ?_ | refine WK.skip ?_ | refine WK.label ?_ | refine WK.scope ?_ | refine WK.inScope ?_ | refine WK.exit rfl ?_)
  first | refine WK.reg 100 Tryz.ntmps79 (by kernel_rfl) ?_ | refine WK.regD 100 clsOf (by kernel_rfl) Tryz.ntmps79 (by kernel_rfl) (by kernel_rfl) ?_
  intro A hA Q hQ
  simp
  refine hQ _ _ ?_
  clear hQ hA
  repeat (first | refine WK.seq ?_ | refine WK.block ?_ | refine WK.inBlock ?_ | refine WK.skip ?_ | refine WK.label ?_ | refine WK.scope ?_ | refine WK.inScope ?_ | refine WK.exit rfl ?_)
  first | refine WK.reg 200 Tryz.ntmps79 (by kernel_rfl) ?_ | refine WK.regD 200 clsOf (by kernel_rfl) Tryz.ntmps79 (by kernel_rfl) (by kernel_rfl) ?_
  intro A hA Q hQ
  simp
  refine RunQ.call rfl rfl rfl rfl (by rfl) (by simp (maxDischargeDepth := 120)) (of2_c m hm) (by simp) ?_
  refine RunQ.eval ?_
  simp
  refine hQ _ _ ?_
  clear hQ hA
  repeat (first | refine WK.seq ?_ | refine WK.block ?_ | refine WK.inBlock ?_ | refine WK.skip ?_ | refine WK.label ?_ | refine WK.scope ?_ | refine WK.inScope ?_ | refine WK.exit rfl ?_)
  first | refine WK.reg 300 Tryz.ntmps79 (by kernel_rfl) ?_ | refine WK.regD 300 clsOf (by kernel_rfl) Tryz.ntmps79 (by kernel_rfl) (by kernel_rfl) ?_
  intro A hA Q hQ
  simp
  refine RunQ.call rfl rfl rfl rfl (by rfl) (by simp (maxDischargeDepth := 120)) (fcube_c (FlowMod.flow m) hm.mat) (by simp) ?_
  refine RunQ.eval ?_
  simp
  refine hQ _ _ ?_
  clear hQ hA
  repeat (first | refine WK.seq ?_ | refine WK.block ?_ | refine WK.inBlock ?_ | refine WK.skip ?_ | refine WK.label ?_ | refine WK.scope ?_ | refine WK.inScope ?_ | refine WK.exit rfl ?_)
  refine WK.ghost (Ghost.frzVar 1 rfl rfl) ?_
  refine WK.ghost (Ghost.frzVar 3 rfl rfl) ?_
  refine WK.ghost (Ghost.frzVar 4 rfl rfl) ?_
  repeat (first | refine WK.seq ?_ | refine WK.block ?_ | refine WK.inBlock ?_ | refine WK.skip ?_ | refine WK.label ?_ | refine WK.scope ?_ | refine WK.inScope ?_ | refine WK.exit rfl ?_)
  first | refine WK.reg 400 Tryz.ntmps79 (by kernel_rfl) ?_ | refine WK.regD 400 clsOf (by kernel_rfl) Tryz.ntmps79 (by kernel_rfl) (by kernel_rfl) ?_
  intro A hA Q hQ
  simp
  refine hQ _ _ ?_
  clear hQ hA
  repeat (first | refine WK.seq ?_ | refine WK.block ?_ | refine WK.inBlock ?_ | refine WK.skip ?_ | refine WK.label ?_ | refine WK.scope ?_ | refine WK.inScope ?_ | refine WK.exit rfl ?_)
  first | refine WK.reg 500 Tryz.ntmps79 (by kernel_rfl) ?_ | refine WK.regD 500 clsOf (by kernel_rfl) Tryz.ntmps79 (by kernel_rfl) (by kernel_rfl) ?_
  intro A hA Q hQ
  simp
  refine hQ _ _ ?_
  clear hQ hA
  repeat (first | refine WK.seq ?_ | refine WK.block ?_ | refine WK.inBlock ?_ | refine WK.skip ?_ | refine WK.label ?_ | refine WK.scope ?_ | refine WK.inScope ?_ | refine WK.exit rfl ?_)
  first | refine WK.reg 600 Tryz.ntmps79 (by kernel_rfl) ?_ | refine WK.regD 600 clsOf (by kernel_rfl) Tryz.ntmps79 (by kernel_rfl) (by kernel_rfl) ?_
  intro A hA Q hQ
  simp
  refine hQ _ _ ?_
  clear hQ hA
  repeat (first | refine WK.seq ?_ | refine WK.block ?_ | refine WK.inBlock ?_ | refine WK.skip ?_ | refine WK.label ?_ | refine WK.scope ?_ | refine WK.inScope ?_ | refine WK.exit rfl ?_)
  first | refine WK.reg 700 Tryz.ntmps79 (by kernel_rfl) ?_ | refine WK.regD 700 clsOf (by kernel_rfl) Tryz.ntmps79 (by kernel_rfl) (by kernel_rfl) ?_
  intro A hA Q hQ
  simp
  refine hQ _ _ ?_
  clear hQ hA
  repeat (first | refine WK.seq ?_ | refine WK.block ?_ | refine WK.inBlock ?_ | refine WK.skip ?_ | refine WK.label ?_ | refine WK.scope ?_ | refine WK.inScope ?_ | refine WK.exit rfl ?_)
  first | refine WK.reg 800 Tryz.ntmps79 (by kernel_rfl) ?_ | refine WK.regD 800 clsOf (by kernel_rfl) Tryz.ntmps79 (by kernel_rfl) (by kernel_rfl) ?_
  intro A hA Q hQ
  simp [FlowMod.enc]
  refine hQ _ _ ?_
  clear hQ hA
  repeat (first | refine WK.seq ?_ | refine WK.block ?_ | refine WK.inBlock ?_ | refine WK.skip ?_ | refine WK.label ?_ | refine WK.scope ?_ | refine WK.inScope ?_ | refine WK.exit rfl ?_)
  first | refine WK.reg 900 Tryz.ntmps79 (by kernel_rfl) ?_ | refine WK.regD 900 clsOf (by kernel_rfl) Tryz.ntmps79 (by kernel_rfl) (by kernel_rfl) ?_
  intro A hA Q hQ
  simp
  refine hQ _ _ ?_
  clear hQ hA
  repeat (first | refine WK.seq ?_ | refine WK.block ?_ | refine WK.inBlock ?_ | refine WK.skip ?_ | refine WK.label ?_ | refine WK.scope ?_ | refine WK.inScope ?_ | refine WK.exit rfl ?_)
  refine WK.cond2 rfl (fun h0 => ?_) (fun h0 => ?_)
  · repeat (first | refine WK.seq ?_ | refine WK.block ?_ | refine WK.inBlock ?_ | refine WK.skip ?_ | refine WK.label ?_ | refine WK.scope ?_ | refine WK.inScope ?_ | refine WK.exit rfl ?_)
    first | refine WK.reg 1000 Tryz.ntmps79 (by kernel_rfl) ?_ | refine WK.regD 1000 clsOf (by kernel_rfl) Tryz.ntmps79 (by kernel_rfl) (by kernel_rfl) ?_
    intro A hA Q hQ
    simp
    refine hQ _ _ ?_
    clear hQ hA
    repeat (first | refine WK.seq ?_ | refine WK.block ?_ | refine WK.inBlock ?_ | refine WK.skip ?_ | refine WK.label ?_ | refine WK.scope ?_ | refine WK.inScope ?_ | refine WK.exit rfl ?_)
    refine WK.ret Tryz.func79 (by simp (maxDischargeDepth := 120) [Tryz.results79, asksV, h0, aV]) (by simp [asksV, h0, aV])
  repeat (first | refine WK.seq ?_ | refine WK.block ?_ | refine WK.inBlock ?_ | refine WK.skip ?_ | refine WK.label ?_ | refine WK.scope ?_ | refine WK.inScope ?_ | refine WK.exit rfl ?_)
  first | refine WK.reg 1100 Tryz.ntmps79 (by kernel_rfl) ?_ | refine WK.regD 1100 clsOf (by kernel_rfl) Tryz.ntmps79 (by kernel_rfl) (by kernel_rfl) ?_
  intro A hA Q hQ
  simp
  refine hQ _ _ ?_
  clear hQ hA
  repeat (first | refine WK.seq ?_ | refine WK.block ?_ | refine WK.inBlock ?_ | refine WK.skip ?_ | refine WK.label ?_ | refine WK.scope ?_ | refine WK.inScope ?_ | refine WK.exit rfl ?_)
  refine WK.cond2 rfl (fun h1 => ?_) (fun h1 => ?_)
  · repeat (first | refine WK.seq ?_ | refine WK.block ?_ | refine WK.inBlock ?_ | refine WK.skip ?_ | refine WK.label ?_ | refine WK.scope ?_ | refine WK.inScope ?_ | refine WK.exit rfl ?_)
    first | refine WK.reg 1200 Tryz.ntmps79 (by kernel_rfl) ?_ | refine WK.regD 1200 clsOf (by kernel_rfl) Tryz.ntmps79 (by kernel_rfl) (by kernel_rfl) ?_
    intro A hA Q hQ
    simp
    refine RunQ.call rfl rfl rfl rfl (by rfl) (by simp (maxDischargeDepth := 120) [cV, kV, FlowMod.enc]) (andL_c [cV m, kV m] (by simp [cV, kV])) (by simp [cV, kV, FlowMod.enc]) ?_
    refine RunQ.eval ?_
    simp [cV, kV, FlowMod.enc]
    refine hQ _ _ ?_
    clear hQ hA
    repeat (first | refine WK.seq ?_ | refine WK.block ?_ | refine WK.inBlock ?_ | refine WK.skip ?_ | refine WK.label ?_ | refine WK.scope ?_ | refine WK.inScope ?_ | refine WK.exit rfl ?_)
    refine WK.ret Tryz.func79 (by simp (maxDischargeDepth := 120) [Tryz.results79, asksV, h0, h1, andV, cV, kV, FlowMod.enc]) (by simp [asksV, h0, h1, andV, cV, kV, FlowMod.enc])
  repeat (first | refine WK.seq ?_ | refine WK.block ?_ | refine WK.inBlock ?_ | refine WK.skip ?_ | refine WK.label ?_ | refine WK.scope ?_ | refine WK.inScope ?_ | refine WK.exit rfl ?_)
  first | refine WK.reg 1300 Tryz.ntmps79 (by kernel_rfl) ?_ | refine WK.regD 1300 clsOf (by kernel_rfl) Tryz.ntmps79 (by kernel_rfl) (by kernel_rfl) ?_
  intro A hA Q hQ
  simp
  refine hQ _ _ ?_
  clear hQ hA
  repeat (first | refine WK.seq ?_ | refine WK.block ?_ | refine WK.inBlock ?_ | refine WK.skip ?_ | refine WK.label ?_ | refine WK.scope ?_ | refine WK.inScope ?_ | refine WK.exit rfl ?_)
  refine WK.cond2 rfl (fun h2 => ?_) (fun h2 => ?_)
  · repeat (first | refine WK.seq ?_ | refine WK.block ?_ | refine WK.inBlock ?_ | refine WK.skip ?_ | refine WK.label ?_ | refine WK.scope ?_ | refine WK.inScope ?_ | refine WK.exit rfl ?_)
    first | refine WK.reg 1400 Tryz.ntmps79 (by kernel_rfl) ?_ | refine WK.regD 1400 clsOf (by kernel_rfl) Tryz.ntmps79 (by kernel_rfl) (by kernel_rfl) ?_
    intro A hA Q hQ
    simp
    refine RunQ.call rfl rfl rfl rfl (by rfl) (by simp (maxDischargeDepth := 120) [aV, kV, FlowMod.enc]) (andL_c [aV m, kV m] (by simp [aV, kV])) (by simp [aV, kV, FlowMod.enc]) ?_
    refine RunQ.eval ?_
    simp [aV, kV, FlowMod.enc]
    refine hQ _ _ ?_
    clear hQ hA
    repeat (first | refine WK.seq ?_ | refine WK.block ?_ | refine WK.inBlock ?_ | refine WK.skip ?_ | refine WK.label ?_ | refine WK.scope ?_ | refine WK.inScope ?_ | refine WK.exit rfl ?_)
    refine WK.ret Tryz.func79 (by simp (maxDischargeDepth := 120) [Tryz.results79, asksV, h0, h1, h2, andV, aV, kV, FlowMod.enc]) (by simp [asksV, h0, h1, h2, andV, aV, kV, FlowMod.enc])
  repeat (first | refine WK.seq ?_ | refine WK.block ?_ | refine WK.inBlock ?_ | refine WK.skip ?_ | refine WK.label ?_ | refine WK.scope ?_ | refine WK.inScope ?_ | refine WK.exit rfl ?_)
  first | refine WK.reg 1500 Tryz.ntmps79 (by kernel_rfl) ?_ | refine WK.regD 1500 clsOf (by kernel_rfl) Tryz.ntmps79 (by kernel_rfl) (by kernel_rfl) ?_
  intro A hA Q hQ
  simp
  refine hQ _ _ ?_
  clear hQ hA
  repeat (first | refine WK.seq ?_ | refine WK.block ?_ | refine WK.inBlock ?_ | refine WK.skip ?_ | refine WK.label ?_ | refine WK.scope ?_ | refine WK.inScope ?_ | refine WK.exit rfl ?_)
  refine WK.cond2 rfl (fun h3 => ?_) (fun h3 => ?_)
  · repeat (first | refine WK.seq ?_ | refine WK.block ?_ | refine WK.inBlock ?_ | refine WK.skip ?_ | refine WK.label ?_ | refine WK.scope ?_ | refine WK.inScope ?_ | refine WK.exit rfl ?_)
    first | refine WK.reg 1600 Tryz.ntmps79 (by kernel_rfl) ?_ | refine WK.regD 1600 clsOf (by kernel_rfl) Tryz.ntmps79 (by kernel_rfl) (by kernel_rfl) ?_
    intro A hA Q hQ
    simp
    refine RunQ.call rfl rfl rfl rfl (by rfl) (by simp (maxDischargeDepth := 120) [cV, kV, oV, FlowMod.enc]) (andL_c [cV m, kV m, oV m] (by simp [cV, kV, oV])) (by simp [cV, kV, oV, FlowMod.enc]) ?_
    refine RunQ.eval ?_
    simp [cV, kV, oV, FlowMod.enc]
    refine hQ _ _ ?_
    clear hQ hA
    repeat (first | refine WK.seq ?_ | refine WK.block ?_ | refine WK.inBlock ?_ | refine WK.skip ?_ | refine WK.label ?_ | refine WK.scope ?_ | refine WK.inScope ?_ | refine WK.exit rfl ?_)
    refine WK.ret Tryz.func79 (by simp (maxDischargeDepth := 120) [Tryz.results79, asksV, h0, h1, h2, h3, andV, cV, kV, oV, FlowMod.enc]) (by simp [asksV, h0, h1, h2, h3, andV, cV, kV, oV, FlowMod.enc])
  repeat (first | refine WK.seq ?_ | refine WK.block ?_ | refine WK.inBlock ?_ | refine WK.skip ?_ | refine WK.label ?_ | refine WK.scope ?_ | refine WK.inScope ?_ | refine WK.exit rfl ?_)
  first | refine WK.reg 1700 Tryz.ntmps79 (by kernel_rfl) ?_ | refine WK.regD 1700 clsOf (by kernel_rfl) Tryz.ntmps79 (by kernel_rfl) (by kernel_rfl) ?_
  intro A hA Q hQ
  simp
  refine hQ _ _ ?_
  clear hQ hA
  repeat (first | refine WK.seq ?_ | refine WK.block ?_ | refine WK.inBlock ?_ | refine WK.skip ?_ | refine WK.label ?_ | refine WK.scope ?_ | refine WK.inScope ?_ | refine WK.exit rfl ?_)
  refine WK.cond2 rfl (fun h4 => ?_) (fun h4 => ?_)
  · repeat (first | refine WK.seq ?_ | refine WK.block ?_ | refine WK.inBlock ?_ | refine WK.skip ?_ | refine WK.label ?_ | refine WK.scope ?_ | refine WK.inScope ?_ | refine WK.exit rfl ?_)
    first | refine WK.reg 1800 Tryz.ntmps79 (by kernel_rfl) ?_ | refine WK.regD 1800 clsOf (by kernel_rfl) Tryz.ntmps79 (by kernel_rfl) (by kernel_rfl) ?_
    intro A hA Q hQ
    simp
    refine RunQ.call rfl rfl rfl rfl (by rfl) (by simp (maxDischargeDepth := 120) [aV, kV, oV, FlowMod.enc]) (andL_c [aV m, kV m, oV m] (by simp [aV, kV, oV])) (by simp [aV, kV, oV, FlowMod.enc]) ?_
    refine RunQ.eval ?_
    simp [aV, kV, oV, FlowMod.enc]
    refine hQ _ _ ?_
    clear hQ hA
    repeat (first | refine WK.seq ?_ | refine WK.block ?_ | refine WK.inBlock ?_ | refine WK.skip ?_ | refine WK.label ?_ | refine WK.scope ?_ | refine WK.inScope ?_ | refine WK.exit rfl ?_)
    refine WK.ret Tryz.func79 (by simp (maxDischargeDepth := 120) [Tryz.results79, asksV, h0, h1, h2, h3, h4, andV, aV, kV, oV, FlowMod.enc]) (by simp [asksV, h0, h1, h2, h3, h4, andV, aV, kV, oV, FlowMod.enc])
  repeat (first | refine WK.seq ?_ | refine WK.block ?_ | refine WK.inBlock ?_ | refine WK.skip ?_ | refine WK.label ?_ | refine WK.scope ?_ | refine WK.inScope ?_ | refine WK.exit rfl ?_)
  first | refine WK.reg 1900 Tryz.ntmps79 (by kernel_rfl) ?_ | refine WK.regD 1900 clsOf (by kernel_rfl) Tryz.ntmps79 (by kernel_rfl) (by kernel_rfl) ?_
  intro A hA Q hQ
  simp
  refine hQ _ _ ?_
  clear hQ hA
  repeat (first | refine WK.seq ?_ | refine WK.block ?_ | refine WK.inBlock ?_ | refine WK.skip ?_ | refine WK.label ?_ | refine WK.scope ?_ | refine WK.inScope ?_ | refine WK.exit rfl ?_)
  refine WK.ret Tryz.func79 (by simp (maxDischargeDepth := 120) [Tryz.results79, asksV, h0, h1, h2, h3, h4]) (by simp [asksV, h0, h1, h2, h3, h4])
end Go.Proofs.YtbncoeoamjcjjaaGreat
