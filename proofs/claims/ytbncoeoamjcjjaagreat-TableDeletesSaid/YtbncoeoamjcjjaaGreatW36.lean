/- Tables: the reference's change. -/
import Derived.Test.YtbncoeoamjcjjaaGreatW35
import Derived.Test.YtbncoeoamjcjjaaGreatW13
set_option linter.all false
set_option linter.unnecessarySimpa false
set_option linter.unusedVariables false
set_option linter.unusedSimpArgs false
namespace Go.Proofs.YtbncoeoamjcjjaaGreat
open Go Go.AI Go.Proofs

theorem nth_any {α : Type} [Inhabited α] {p : α → Bool} {l : List α} : (∀ j, j < l.length → p (nth l j) = false) → l.any p = false := by
  intro h
  rw [List.any_eq_false]
  intro x hx
  obtain ⟨i, hi, rfl⟩ := mem_nth hx
  rw [h i hi]; simp
theorem flow_clone (l : List Flow) : (flowL l).take (l.length * 7) = flowL l := flow_full l _ rfl
set_option maxHeartbeats 4000000 in
theorem radd_c (l : List Flow) (m : FlowMod) (hm : FOk (FlowMod.flow m)) (hl : l.length ≤ 1000000) (hf : ∀ f, f ∈ l → FPl f) :
    FnP Tryz.prog 33 [flowS l, .agg m.enc] (.tup [flowS (tAdd l m).1, .agg (tAdd l m).2.enc]) := by
  have hlist := rplist_c m l hm hl hf
  have hb : l.length * 88 ≤ 140737488355328 := by omega
  have hfl := flow_clone l
  unfold flowS at *
  unfold intS at hlist
  cases k1 : strictB m.flags && l.any (fun f => Flow.overlap f (FlowMod.flow m))
  case true =>
    rw [Bool.and_eq_true] at k1
    obtain ⟨k1, k2⟩ := k1
    have e : tAdd l m = ([], ⟨true, 5, 3⟩) := by unfold tAdd; rw [k1, k2]; rfl
    unfold strictB at k1
    refine FnP.intro Tryz.func33 rfl rfl fun G w => ?_
    repeat (first | refine WK.seq ?_ | refine WK.block ?_ | refine WK.inBlock ?_ | refine WK.skip ?_ | refine WK.label ?_ | refine WK.scope ?_ | refine WK.inScope ?_ | refine WK.exit rfl ?_)
    first | refine WK.reg 100 Tryz.ntmps33 (by kernel_rfl) ?_ | refine WK.regD 100 clsOf (by kernel_rfl) Tryz.ntmps33 (by kernel_rfl) (by kernel_rfl) ?_
    intro A hA Q hQ
    simp
    refine hQ _ _ ?_
    clear hQ hA
    repeat (first | refine WK.seq ?_ | refine WK.block ?_ | refine WK.inBlock ?_ | refine WK.skip ?_ | refine WK.label ?_ | refine WK.scope ?_ | refine WK.inScope ?_ | refine WK.exit rfl ?_)
    first | refine WK.reg 200 Tryz.ntmps33 (by kernel_rfl) ?_ | refine WK.regD 200 clsOf (by kernel_rfl) Tryz.ntmps33 (by kernel_rfl) (by kernel_rfl) ?_
    intro A hA Q hQ
    simp [FlowMod.enc]
    refine RunQ.call rfl rfl rfl rfl (by rfl) (by simp (maxDischargeDepth := 120) [FlowMod.enc]) (rof2_c m) (by simp [FlowMod.enc]) ?_
    refine RunQ.eval ?_
    simp [FlowMod.enc]
    refine hQ _ _ ?_
    clear hQ hA
    repeat (first | refine WK.seq ?_ | refine WK.block ?_ | refine WK.inBlock ?_ | refine WK.skip ?_ | refine WK.label ?_ | refine WK.scope ?_ | refine WK.inScope ?_ | refine WK.exit rfl ?_)
    refine WK.ghost (Ghost.frzVar 3 rfl rfl) ?_
    refine WK.ghost (Ghost.frzVar 6 rfl rfl) ?_
    repeat (first | refine WK.seq ?_ | refine WK.block ?_ | refine WK.inBlock ?_ | refine WK.skip ?_ | refine WK.label ?_ | refine WK.scope ?_ | refine WK.inScope ?_ | refine WK.exit rfl ?_)
    first | refine WK.reg 300 Tryz.ntmps33 (by kernel_rfl) ?_ | refine WK.regD 300 clsOf (by kernel_rfl) Tryz.ntmps33 (by kernel_rfl) (by kernel_rfl) ?_
    intro A hA Q hQ
    simp [k1]
    refine hQ _ _ ?_
    clear hQ hA
    repeat (first | refine WK.seq ?_ | refine WK.block ?_ | refine WK.inBlock ?_ | refine WK.skip ?_ | refine WK.label ?_ | refine WK.scope ?_ | refine WK.inScope ?_ | refine WK.exit rfl ?_)
    refine WK.cond2 rfl (fun h => ?_) (fun h => ?_)
    · repeat (first | refine WK.seq ?_ | refine WK.block ?_ | refine WK.inBlock ?_ | refine WK.skip ?_ | refine WK.label ?_ | refine WK.scope ?_ | refine WK.inScope ?_ | refine WK.exit rfl ?_)
      first | refine WK.reg 400 Tryz.ntmps33 (by kernel_rfl) ?_ | refine WK.regD 400 clsOf (by kernel_rfl) Tryz.ntmps33 (by kernel_rfl) (by kernel_rfl) ?_
      intro A hA Q hQ
      simp
      refine hQ _ _ ?_
      clear hQ hA
      repeat (first | refine WK.seq ?_ | refine WK.block ?_ | refine WK.inBlock ?_ | refine WK.skip ?_ | refine WK.label ?_ | refine WK.scope ?_ | refine WK.inScope ?_ | refine WK.exit rfl ?_)
      refine WK.loopI (fun n => n) (fun i : Nat => (⟨(upd (upd (upd (upd J 0 (.sl false l.length (flowL l))) 5 (.ptr 2 0)) 6 (.iptr (FlowMod.flow m).enc)) 7 (.int .i64 i)), (upd B0 2 (.var F3.zero.enc)), 0⟩ : St)) (fun i => i ≤ l.length ∧ ∀ k, k < i → Flow.overlap (nth l k) (FlowMod.flow m) = false) (fun i => l.length - i) (0) (by repeat (first | exact TmW.nil | refine TmW.upd ?_ (by simp (maxDischargeDepth := 120) [F3.zeroE]))) (by repeat (first | exact BxW.nil | refine BxW.upd ?_ (by simp (maxDischargeDepth := 120) [F3.zeroE]))) (by first | exact InjW.id | exact InjW.nil | exact InjW.one | exact InjW.two (by simp) | exact InjW.three (by simp) (by simp) (by simp)) (⟨by omega, by simp⟩) (fun i hi IH => ?_)
      repeat (first | refine WK.seq ?_ | refine WK.block ?_ | refine WK.inBlock ?_ | refine WK.skip ?_ | refine WK.label ?_ | refine WK.scope ?_ | refine WK.inScope ?_ | refine WK.exit rfl ?_)
      first | refine WK.reg 500 Tryz.ntmps33 (by kernel_rfl) ?_ | refine WK.regD 500 clsOf (by kernel_rfl) Tryz.ntmps33 (by kernel_rfl) (by kernel_rfl) ?_
      intro A hA Q hQ
      simp
      refine hQ _ _ ?_
      clear hQ hA
      repeat (first | refine WK.seq ?_ | refine WK.block ?_ | refine WK.inBlock ?_ | refine WK.skip ?_ | refine WK.label ?_ | refine WK.scope ?_ | refine WK.inScope ?_ | refine WK.exit rfl ?_)
      refine WK.cond2 rfl (fun h1 => ?_) (fun h1 => ?_)
      · simp at h1
        have h2 : i < l.length := by omega
        have h3 : 7 ≤ l.length * 7 - i * 7 := by omega
        have h4 := flow_sub l i h2
        have h6 : IntKind.i64.wrap ((i : Int) + 1) = i + 1 := wrap_i64 (by omega) (by omega)
        have hc := overlap_comm (nth l i) (FlowMod.flow m)
        repeat (first | refine WK.seq ?_ | refine WK.block ?_ | refine WK.inBlock ?_ | refine WK.skip ?_ | refine WK.label ?_ | refine WK.scope ?_ | refine WK.inScope ?_ | refine WK.exit rfl ?_)
        first | refine WK.reg 600 Tryz.ntmps33 (by kernel_rfl) ?_ | refine WK.regD 600 clsOf (by kernel_rfl) Tryz.ntmps33 (by kernel_rfl) (by kernel_rfl) ?_
        intro A hA Q hQ
        simp [h2, h3, h4]
        refine RunQ.call rfl rfl rfl rfl (by rfl) (by simp (maxDischargeDepth := 120) [hc]) (roverlap_c (FlowMod.flow m) (nth l i) hm (hf _ (nth_mem h2)).ok) (by simp [hc]) ?_
        refine RunQ.eval ?_
        simp [hc]
        refine hQ _ _ ?_
        clear hQ hA
        repeat (first | refine WK.seq ?_ | refine WK.block ?_ | refine WK.inBlock ?_ | refine WK.skip ?_ | refine WK.label ?_ | refine WK.scope ?_ | refine WK.inScope ?_ | refine WK.exit rfl ?_)
        refine WK.cond2 rfl (fun h5 => ?_) (fun h5 => ?_)
        · repeat (first | refine WK.seq ?_ | refine WK.block ?_ | refine WK.inBlock ?_ | refine WK.skip ?_ | refine WK.label ?_ | refine WK.scope ?_ | refine WK.inScope ?_ | refine WK.exit rfl ?_)
          first | refine WK.reg 700 Tryz.ntmps33 (by kernel_rfl) ?_ | refine WK.regD 700 clsOf (by kernel_rfl) Tryz.ntmps33 (by kernel_rfl) (by kernel_rfl) ?_
          intro A hA Q hQ
          simp
          refine hQ _ _ ?_
          clear hQ hA
          repeat (first | refine WK.seq ?_ | refine WK.block ?_ | refine WK.inBlock ?_ | refine WK.skip ?_ | refine WK.label ?_ | refine WK.scope ?_ | refine WK.inScope ?_ | refine WK.exit rfl ?_)
          refine WK.ret Tryz.func33 (by simp (maxDischargeDepth := 120) [Tryz.results33, e, F3.enc, F3.zero, flowL_nil]) (by simp [e, F3.enc, F3.zero, flowL_nil])
        · repeat (first | refine WK.seq ?_ | refine WK.block ?_ | refine WK.inBlock ?_ | refine WK.skip ?_ | refine WK.label ?_ | refine WK.scope ?_ | refine WK.inScope ?_ | refine WK.exit rfl ?_)
          first | refine WK.reg 800 Tryz.ntmps33 (by kernel_rfl) ?_ | refine WK.regD 800 clsOf (by kernel_rfl) Tryz.ntmps33 (by kernel_rfl) (by kernel_rfl) ?_
          intro A hA Q hQ
          simp [h6]
          refine hQ _ _ ?_
          clear hQ hA
          repeat (first | refine WK.seq ?_ | refine WK.block ?_ | refine WK.inBlock ?_ | refine WK.skip ?_ | refine WK.label ?_ | refine WK.scope ?_ | refine WK.inScope ?_ | refine WK.exit rfl ?_)
          refine WK.next (fun n => n) (IH (i + 1) (⟨by omega, fun k hk => by by_cases h7 : k = i; (subst h7; exact h5); exact hi.2 k (by omega)⟩) (by first | omega | (dsimp only; omega))) (by repeat (first | exact TmW.nil | refine TmW.upd ?_ (by simp (maxDischargeDepth := 120) [h6]))) (by repeat (first | exact BxW.nil | refine BxW.upd ?_ (by simp (maxDischargeDepth := 120) [h6]))) (by first | exact InjW.id | exact InjW.nil | exact InjW.one | exact InjW.two (by simp) | exact InjW.three (by simp) (by simp) (by simp))
      · exfalso
        simp at h1
        rw [nth_any (p := fun f => Flow.overlap f (FlowMod.flow m)) (fun j hj => hi.2 j (by omega))] at k2
        cases k2
    · cases h
  case false =>
    refine FnP.intro Tryz.func33 rfl rfl fun G w => ?_
    repeat (first | refine WK.seq ?_ | refine WK.block ?_ | refine WK.inBlock ?_ | refine WK.skip ?_ | refine WK.label ?_ | refine WK.scope ?_ | refine WK.inScope ?_ | refine WK.exit rfl ?_)
    first | refine WK.reg 100 Tryz.ntmps33 (by kernel_rfl) ?_ | refine WK.regD 100 clsOf (by kernel_rfl) Tryz.ntmps33 (by kernel_rfl) (by kernel_rfl) ?_
    intro A hA Q hQ
    simp
    refine hQ _ _ ?_
    clear hQ hA
    repeat (first | refine WK.seq ?_ | refine WK.block ?_ | refine WK.inBlock ?_ | refine WK.skip ?_ | refine WK.label ?_ | refine WK.scope ?_ | refine WK.inScope ?_ | refine WK.exit rfl ?_)
    first | refine WK.reg 200 Tryz.ntmps33 (by kernel_rfl) ?_ | refine WK.regD 200 clsOf (by kernel_rfl) Tryz.ntmps33 (by kernel_rfl) (by kernel_rfl) ?_
    intro A hA Q hQ
    simp [FlowMod.enc]
    refine RunQ.call rfl rfl rfl rfl (by rfl) (by simp (maxDischargeDepth := 120) [FlowMod.enc]) (rof2_c m) (by simp [FlowMod.enc]) ?_
    refine RunQ.eval ?_
    simp [FlowMod.enc]
    refine hQ _ _ ?_
    clear hQ hA
    repeat (first | refine WK.seq ?_ | refine WK.block ?_ | refine WK.inBlock ?_ | refine WK.skip ?_ | refine WK.label ?_ | refine WK.scope ?_ | refine WK.inScope ?_ | refine WK.exit rfl ?_)
    refine WK.ghost (Ghost.frzVar 6 rfl rfl) ?_
    repeat (first | refine WK.seq ?_ | refine WK.block ?_ | refine WK.inBlock ?_ | refine WK.skip ?_ | refine WK.label ?_ | refine WK.scope ?_ | refine WK.inScope ?_ | refine WK.exit rfl ?_)
    apply WK.cut (⟨(upd (upd (upd (upd J 0 (.sl false l.length (flowL l))) 3 (.ptr 0 0)) 5 (.ptr 2 0)) 6 (.iptr (FlowMod.flow m).enc)), (upd (upd B0 0 (.var m.enc)) 2 (.var F3.zero.enc)), 0⟩ : St)
    · intro hcut
      cases k2 : strictB m.flags
      · unfold strictB at k2
        repeat (first | refine WK.seq ?_ | refine WK.block ?_ | refine WK.inBlock ?_ | refine WK.skip ?_ | refine WK.label ?_ | refine WK.scope ?_ | refine WK.inScope ?_ | refine WK.exit rfl ?_)
        first | refine WK.reg 300 Tryz.ntmps33 (by kernel_rfl) ?_ | refine WK.regD 300 clsOf (by kernel_rfl) Tryz.ntmps33 (by kernel_rfl) (by kernel_rfl) ?_
        intro A hA Q hQ
        simp [k2]
        refine hQ _ _ ?_
        clear hQ hA
        repeat (first | refine WK.seq ?_ | refine WK.block ?_ | refine WK.inBlock ?_ | refine WK.skip ?_ | refine WK.label ?_ | refine WK.scope ?_ | refine WK.inScope ?_ | refine WK.exit rfl ?_)
        refine WK.cond2 rfl (fun h => ?_) (fun h => ?_)
        · cases h
        · repeat (first | refine WK.seq ?_ | refine WK.block ?_ | refine WK.inBlock ?_ | refine WK.skip ?_ | refine WK.label ?_ | refine WK.scope ?_ | refine WK.inScope ?_ | refine WK.exit rfl ?_)
          refine WK.next (fun n => n) hcut (by repeat (first | exact TmW.nil | refine TmW.upd ?_ (by simp (maxDischargeDepth := 120) [F3.zeroE, FlowMod.enc]))) (by repeat (first | exact BxW.nil | refine BxW.upd ?_ (by simp (maxDischargeDepth := 120) [F3.zeroE, FlowMod.enc]))) (by first | exact InjW.id | exact InjW.nil | exact InjW.one | exact InjW.two (by simp) | exact InjW.three (by simp) (by simp) (by simp))
      · rw [k2, Bool.true_and] at k1
        unfold strictB at k2
        repeat (first | refine WK.seq ?_ | refine WK.block ?_ | refine WK.inBlock ?_ | refine WK.skip ?_ | refine WK.label ?_ | refine WK.scope ?_ | refine WK.inScope ?_ | refine WK.exit rfl ?_)
        first | refine WK.reg 400 Tryz.ntmps33 (by kernel_rfl) ?_ | refine WK.regD 400 clsOf (by kernel_rfl) Tryz.ntmps33 (by kernel_rfl) (by kernel_rfl) ?_
        intro A hA Q hQ
        simp [k2]
        refine hQ _ _ ?_
        clear hQ hA
        repeat (first | refine WK.seq ?_ | refine WK.block ?_ | refine WK.inBlock ?_ | refine WK.skip ?_ | refine WK.label ?_ | refine WK.scope ?_ | refine WK.inScope ?_ | refine WK.exit rfl ?_)
        refine WK.cond2 rfl (fun h => ?_) (fun h => ?_)
        · repeat (first | refine WK.seq ?_ | refine WK.block ?_ | refine WK.inBlock ?_ | refine WK.skip ?_ | refine WK.label ?_ | refine WK.scope ?_ | refine WK.inScope ?_ | refine WK.exit rfl ?_)
          first | refine WK.reg 500 Tryz.ntmps33 (by kernel_rfl) ?_ | refine WK.regD 500 clsOf (by kernel_rfl) Tryz.ntmps33 (by kernel_rfl) (by kernel_rfl) ?_
          intro A hA Q hQ
          simp
          refine hQ _ _ ?_
          clear hQ hA
          repeat (first | refine WK.seq ?_ | refine WK.block ?_ | refine WK.inBlock ?_ | refine WK.skip ?_ | refine WK.label ?_ | refine WK.scope ?_ | refine WK.inScope ?_ | refine WK.exit rfl ?_)
          refine WK.loopI (fun n => n) (fun i : Nat => (⟨(upd (upd (upd (upd (upd J 0 (.sl false l.length (flowL l))) 3 (.ptr 0 0)) 5 (.ptr 2 0)) 6 (.iptr (FlowMod.flow m).enc)) 7 (.int .i64 i)), (upd (upd B0 0 (.var m.enc)) 2 (.var F3.zero.enc)), 0⟩ : St)) (fun i => i ≤ l.length) (fun i => l.length - i) (0) (by repeat (first | exact TmW.nil | refine TmW.upd ?_ (by simp (maxDischargeDepth := 120) [F3.zeroE, FlowMod.enc]))) (by repeat (first | exact BxW.nil | refine BxW.upd ?_ (by simp (maxDischargeDepth := 120) [F3.zeroE, FlowMod.enc]))) (by first | exact InjW.id | exact InjW.nil | exact InjW.one | exact InjW.two (by simp) | exact InjW.three (by simp) (by simp) (by simp)) (by omega) (fun i hi IH => ?_)
          repeat (first | refine WK.seq ?_ | refine WK.block ?_ | refine WK.inBlock ?_ | refine WK.skip ?_ | refine WK.label ?_ | refine WK.scope ?_ | refine WK.inScope ?_ | refine WK.exit rfl ?_)
          first | refine WK.reg 600 Tryz.ntmps33 (by kernel_rfl) ?_ | refine WK.regD 600 clsOf (by kernel_rfl) Tryz.ntmps33 (by kernel_rfl) (by kernel_rfl) ?_
          intro A hA Q hQ
          simp
          refine hQ _ _ ?_
          clear hQ hA
          repeat (first | refine WK.seq ?_ | refine WK.block ?_ | refine WK.inBlock ?_ | refine WK.skip ?_ | refine WK.label ?_ | refine WK.scope ?_ | refine WK.inScope ?_ | refine WK.exit rfl ?_)
          refine WK.cond2 rfl (fun h1 => ?_) (fun h1 => ?_)
          · simp at h1
            have h2 : i < l.length := by omega
            have h3 : 7 ≤ l.length * 7 - i * 7 := by omega
            have h4 := flow_sub l i h2
            have h6 : IntKind.i64.wrap ((i : Int) + 1) = i + 1 := wrap_i64 (by omega) (by omega)
            have hc := overlap_comm (nth l i) (FlowMod.flow m)
            have hk : Flow.overlap (nth l i) (FlowMod.flow m) = false := by
              have := List.any_eq_false.1 k1 _ (nth_mem h2)
              simpa using this
            repeat (first | refine WK.seq ?_ | refine WK.block ?_ | refine WK.inBlock ?_ | refine WK.skip ?_ | refine WK.label ?_ | refine WK.scope ?_ | refine WK.inScope ?_ | refine WK.exit rfl ?_)
            first | refine WK.reg 700 Tryz.ntmps33 (by kernel_rfl) ?_ | refine WK.regD 700 clsOf (by kernel_rfl) Tryz.ntmps33 (by kernel_rfl) (by kernel_rfl) ?_
            intro A hA Q hQ
            simp [h2, h3, h4]
            refine RunQ.call rfl rfl rfl rfl (by rfl) (by simp (maxDischargeDepth := 120) [hc, hk]) (roverlap_c (FlowMod.flow m) (nth l i) hm (hf _ (nth_mem h2)).ok) (by simp [hc, hk]) ?_
            refine RunQ.eval ?_
            simp [hc, hk]
            refine hQ _ _ ?_
            clear hQ hA
            repeat (first | refine WK.seq ?_ | refine WK.block ?_ | refine WK.inBlock ?_ | refine WK.skip ?_ | refine WK.label ?_ | refine WK.scope ?_ | refine WK.inScope ?_ | refine WK.exit rfl ?_)
            refine WK.cond2 rfl (fun h5 => ?_) (fun h5 => ?_)
            · cases h5
            · repeat (first | refine WK.seq ?_ | refine WK.block ?_ | refine WK.inBlock ?_ | refine WK.skip ?_ | refine WK.label ?_ | refine WK.scope ?_ | refine WK.inScope ?_ | refine WK.exit rfl ?_)
              first | refine WK.reg 800 Tryz.ntmps33 (by kernel_rfl) ?_ | refine WK.regD 800 clsOf (by kernel_rfl) Tryz.ntmps33 (by kernel_rfl) (by kernel_rfl) ?_
              intro A hA Q hQ
              simp [h6]
              refine hQ _ _ ?_
              clear hQ hA
              repeat (first | refine WK.seq ?_ | refine WK.block ?_ | refine WK.inBlock ?_ | refine WK.skip ?_ | refine WK.label ?_ | refine WK.scope ?_ | refine WK.inScope ?_ | refine WK.exit rfl ?_)
              refine WK.next (fun n => n) (IH (i + 1) (by omega) (by first | omega | (dsimp only; omega))) (by repeat (first | exact TmW.nil | refine TmW.upd ?_ (by simp (maxDischargeDepth := 120) [h6]))) (by repeat (first | exact BxW.nil | refine BxW.upd ?_ (by simp (maxDischargeDepth := 120) [h6]))) (by first | exact InjW.id | exact InjW.nil | exact InjW.one | exact InjW.two (by simp) | exact InjW.three (by simp) (by simp) (by simp))
          · repeat (first | refine WK.seq ?_ | refine WK.block ?_ | refine WK.inBlock ?_ | refine WK.skip ?_ | refine WK.label ?_ | refine WK.scope ?_ | refine WK.inScope ?_ | refine WK.exit rfl ?_)
            refine WK.next (fun n => n) hcut (by repeat (first | exact TmW.nil | refine TmW.upd ?_ (by simp (maxDischargeDepth := 120)))) (by repeat (first | exact BxW.nil | refine BxW.upd ?_ (by simp (maxDischargeDepth := 120)))) (by first | exact InjW.id | exact InjW.nil | exact InjW.one | exact InjW.two (by simp) | exact InjW.three (by simp) (by simp) (by simp))
        · cases h
    repeat (first | refine WK.seq ?_ | refine WK.block ?_ | refine WK.inBlock ?_ | refine WK.skip ?_ | refine WK.label ?_ | refine WK.scope ?_ | refine WK.inScope ?_ | refine WK.exit rfl ?_)
    first | refine WK.reg 900 Tryz.ntmps33 (by kernel_rfl) ?_ | refine WK.regD 900 clsOf (by kernel_rfl) Tryz.ntmps33 (by kernel_rfl) (by kernel_rfl) ?_
    intro A hA Q hQ
    simp
    refine RunQ.append0 900 901 appFlow rfl rfl rfl rfl rfl rfl rfl (by simp [hb]) (by simp [hb]) (by simp [hb]) (by simp [hb]) (by simp [hb]) (by simp [hb]) (by simp) ?_
    refine RunQ.eval ?_
    simp [hb]
    refine hQ _ _ ?_
    clear hQ hA
    repeat (first | refine WK.seq ?_ | refine WK.block ?_ | refine WK.inBlock ?_ | refine WK.skip ?_ | refine WK.label ?_ | refine WK.scope ?_ | refine WK.inScope ?_ | refine WK.exit rfl ?_)
    first | refine WK.reg 1000 Tryz.ntmps33 (by kernel_rfl) ?_ | refine WK.regD 1000 clsOf (by kernel_rfl) Tryz.ntmps33 (by kernel_rfl) (by kernel_rfl) ?_
    intro A hA Q hQ
    simp [FlowMod.enc]
    refine RunQ.call rfl rfl rfl rfl (by rfl) (by simp (maxDischargeDepth := 120) [FlowMod.enc]) (hlist) (by simp [FlowMod.enc]) ?_
    refine RunQ.eval ?_
    simp [FlowMod.enc]
    refine hQ _ _ ?_
    clear hQ hA
    repeat (first | refine WK.seq ?_ | refine WK.block ?_ | refine WK.inBlock ?_ | refine WK.skip ?_ | refine WK.label ?_ | refine WK.scope ?_ | refine WK.inScope ?_ | refine WK.exit rfl ?_)
    first | refine WK.reg 1100 Tryz.ntmps33 (by kernel_rfl) ?_ | refine WK.regD 1100 clsOf (by kernel_rfl) Tryz.ntmps33 (by kernel_rfl) (by kernel_rfl) ?_
    intro A hA Q hQ
    simp
    refine hQ _ _ ?_
    clear hQ hA
    cases hL : took m l with
    | nil =>
      by_cases h8 : 8 ≤ l.length
      · have e : tAdd l m = ([], ⟨true, 5, 1⟩) := by unfold tAdd; rw [k1, hL]; simp [h8]
        repeat (first | refine WK.seq ?_ | refine WK.block ?_ | refine WK.inBlock ?_ | refine WK.skip ?_ | refine WK.label ?_ | refine WK.scope ?_ | refine WK.inScope ?_ | refine WK.exit rfl ?_)
        refine WK.cond2 rfl (fun h => ?_) (fun h => ?_)
        · simp at h
        repeat (first | refine WK.seq ?_ | refine WK.block ?_ | refine WK.inBlock ?_ | refine WK.skip ?_ | refine WK.label ?_ | refine WK.scope ?_ | refine WK.inScope ?_ | refine WK.exit rfl ?_)
        first | refine WK.reg 1200 Tryz.ntmps33 (by kernel_rfl) ?_ | refine WK.regD 1200 clsOf (by kernel_rfl) Tryz.ntmps33 (by kernel_rfl) (by kernel_rfl) ?_
        intro A hA Q hQ
        simp
        refine hQ _ _ ?_
        clear hQ hA
        repeat (first | refine WK.seq ?_ | refine WK.block ?_ | refine WK.inBlock ?_ | refine WK.skip ?_ | refine WK.label ?_ | refine WK.scope ?_ | refine WK.inScope ?_ | refine WK.exit rfl ?_)
        refine WK.cond2 rfl (fun h => ?_) (fun h => ?_)
        · repeat (first | refine WK.seq ?_ | refine WK.block ?_ | refine WK.inBlock ?_ | refine WK.skip ?_ | refine WK.label ?_ | refine WK.scope ?_ | refine WK.inScope ?_ | refine WK.exit rfl ?_)
          first | refine WK.reg 1300 Tryz.ntmps33 (by kernel_rfl) ?_ | refine WK.regD 1300 clsOf (by kernel_rfl) Tryz.ntmps33 (by kernel_rfl) (by kernel_rfl) ?_
          intro A hA Q hQ
          simp
          refine hQ _ _ ?_
          clear hQ hA
          repeat (first | refine WK.seq ?_ | refine WK.block ?_ | refine WK.inBlock ?_ | refine WK.skip ?_ | refine WK.label ?_ | refine WK.scope ?_ | refine WK.inScope ?_ | refine WK.exit rfl ?_)
          refine WK.ret Tryz.func33 (by simp (maxDischargeDepth := 120) [Tryz.results33, e, F3.enc, F3.zero, flowL_nil]) (by simp [e, F3.enc, F3.zero, flowL_nil])
        · simp at h; omega
      · have e : tAdd l m = (l ++ [FlowMod.flow m], F3.zero) := by unfold tAdd; rw [k1, hL]; simp [h8]
        have hb3 : (l.length + 1) * 88 ≤ 140737488355328 := by omega
        have hT : (flowL l ++ (FlowMod.flow m).enc).take ((l.length + 1) * 7) = flowL l ++ (FlowMod.flow m).enc := List.take_of_length_le (by simp; omega)
        repeat (first | refine WK.seq ?_ | refine WK.block ?_ | refine WK.inBlock ?_ | refine WK.skip ?_ | refine WK.label ?_ | refine WK.scope ?_ | refine WK.inScope ?_ | refine WK.exit rfl ?_)
        refine WK.cond2 rfl (fun h => ?_) (fun h => ?_)
        · simp at h
        repeat (first | refine WK.seq ?_ | refine WK.block ?_ | refine WK.inBlock ?_ | refine WK.skip ?_ | refine WK.label ?_ | refine WK.scope ?_ | refine WK.inScope ?_ | refine WK.exit rfl ?_)
        first | refine WK.reg 1400 Tryz.ntmps33 (by kernel_rfl) ?_ | refine WK.regD 1400 clsOf (by kernel_rfl) Tryz.ntmps33 (by kernel_rfl) (by kernel_rfl) ?_
        intro A hA Q hQ
        simp
        refine hQ _ _ ?_
        clear hQ hA
        repeat (first | refine WK.seq ?_ | refine WK.block ?_ | refine WK.inBlock ?_ | refine WK.skip ?_ | refine WK.label ?_ | refine WK.scope ?_ | refine WK.inScope ?_ | refine WK.exit rfl ?_)
        refine WK.cond2 rfl (fun h => ?_) (fun h => ?_)
        · simp at h; omega
        repeat (first | refine WK.seq ?_ | refine WK.block ?_ | refine WK.inBlock ?_ | refine WK.skip ?_ | refine WK.label ?_ | refine WK.scope ?_ | refine WK.inScope ?_ | refine WK.exit rfl ?_)
        first | refine WK.reg 1500 Tryz.ntmps33 (by kernel_rfl) ?_ | refine WK.regD 1500 clsOf (by kernel_rfl) Tryz.ntmps33 (by kernel_rfl) (by kernel_rfl) ?_
        intro A hA Q hQ
        simp [hfl]
        refine RunQ.append 902 appFlow rfl rfl rfl rfl rfl rfl rfl (by simp [hb3, hfl]) rfl (by simp [hb3, hfl]) (by simp [hb3, hfl]) (by simp [hb3, hfl]) (by simp [hb3, hfl]) ?_
        refine RunQ.eval ?_
        simp [hb3, hfl]
        refine hQ _ _ ?_
        clear hQ hA
        repeat (first | refine WK.seq ?_ | refine WK.block ?_ | refine WK.inBlock ?_ | refine WK.skip ?_ | refine WK.label ?_ | refine WK.scope ?_ | refine WK.inScope ?_ | refine WK.exit rfl ?_)
        refine WK.ghost (Ghost.frzSl 4 7 rfl rfl) ?_
        repeat (first | refine WK.seq ?_ | refine WK.block ?_ | refine WK.inBlock ?_ | refine WK.skip ?_ | refine WK.label ?_ | refine WK.scope ?_ | refine WK.inScope ?_ | refine WK.exit rfl ?_)
        refine WK.ret Tryz.func33 (by simp (maxDischargeDepth := 120) [Tryz.results33, e, F3.zeroE, flowL_app, flowL_one, hT]) (by simp [e, F3.zeroE, flowL_app, flowL_one, hT])
    | cons x xs =>
      obtain ⟨p, rfl, hpl⟩ := took_pos (show x ∈ took m l by rw [hL]; simp)
      have e : tAdd l m = (l.set p (FlowMod.flow m), F3.zero) := by unfold tAdd; rw [k1, hL]; rfl
      have e2 := flow_set l p (FlowMod.flow m) hpl
      have b1 : p * 7 + 7 ≤ l.length * 7 := by omega
      have hT : (flowL (l.set p (FlowMod.flow m))).take (l.length * 7) = flowL (l.set p (FlowMod.flow m)) := flow_full _ _ (by simp)
      repeat (first | refine WK.seq ?_ | refine WK.block ?_ | refine WK.inBlock ?_ | refine WK.skip ?_ | refine WK.label ?_ | refine WK.scope ?_ | refine WK.inScope ?_ | refine WK.exit rfl ?_)
      refine WK.cond2 rfl (fun h => ?_) (fun h => ?_)
      · repeat (first | refine WK.seq ?_ | refine WK.block ?_ | refine WK.inBlock ?_ | refine WK.skip ?_ | refine WK.label ?_ | refine WK.scope ?_ | refine WK.inScope ?_ | refine WK.exit rfl ?_)
        first | refine WK.reg 1600 Tryz.ntmps33 (by kernel_rfl) ?_ | refine WK.regD 1600 (clsM [(43, 901)]) (by kernel_rfl) Tryz.ntmps33 (by kernel_rfl) (by kernel_rfl) ?_
        intro A hA Q hQ
        simp [intL_cons, hpl, b1, hfl]
        refine hQ _ _ ?_
        clear hQ hA
        repeat (first | refine WK.seq ?_ | refine WK.block ?_ | refine WK.inBlock ?_ | refine WK.skip ?_ | refine WK.label ?_ | refine WK.scope ?_ | refine WK.inScope ?_ | refine WK.exit rfl ?_)
        first | refine WK.reg 1700 Tryz.ntmps33 (by kernel_rfl) ?_ | refine WK.regD 1700 clsOf (by kernel_rfl) Tryz.ntmps33 (by kernel_rfl) (by kernel_rfl) ?_
        intro A hA Q hQ
        simp
        refine hQ _ _ ?_
        clear hQ hA
        repeat (first | refine WK.seq ?_ | refine WK.block ?_ | refine WK.inBlock ?_ | refine WK.skip ?_ | refine WK.label ?_ | refine WK.scope ?_ | refine WK.inScope ?_ | refine WK.exit rfl ?_)
        refine WK.ghost (Ghost.frzSl 4 7 rfl rfl) ?_
        repeat (first | refine WK.seq ?_ | refine WK.block ?_ | refine WK.inBlock ?_ | refine WK.skip ?_ | refine WK.label ?_ | refine WK.scope ?_ | refine WK.inScope ?_ | refine WK.exit rfl ?_)
        refine WK.ret Tryz.func33 (by simp (maxDischargeDepth := 120) [Tryz.results33, e, F3.zeroE, e2, hT]) (by simp [e, F3.zeroE, e2, hT])
      · simp at h
end Go.Proofs.YtbncoeoamjcjjaaGreat
