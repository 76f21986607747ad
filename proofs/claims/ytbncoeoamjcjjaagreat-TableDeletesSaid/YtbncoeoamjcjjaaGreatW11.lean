/- Where flows go to, by the program and by the reference; and what flow is made of a change. -/
import Derived.Test.YtbncoeoamjcjjaaGreatW10
set_option linter.all false
set_option linter.unnecessarySimpa false
set_option linter.unusedVariables false
set_option linter.unusedSimpArgs false
namespace Go.Proofs.YtbncoeoamjcjjaaGreat
open Go Go.AI Go.Proofs

theorem ofA_le (k : Int) (g : Action → Int) (l : List Action) : (ofA k g l).length ≤ l.length := by
  unfold ofA; rw [List.length_map]; exact List.length_filter_le _ _
def Flow.goPorts (f : Flow) : List Int := allI (ofA 0 Action.port) f.insts
theorem fPorts_c (f : Flow) (h : FOk f) : FnP Tryz.prog 128 [.agg f.enc] (intS (Flow.goPorts f)) := by
  refine FnP.intro Tryz.func128 rfl rfl fun G w => ?_
  repeat (first | refine WK.seq ?_ | refine WK.block ?_ | refine WK.inBlock ?_ | refine WK.skip ?_ | refine WK.label ?_ | refine WK.scope ?_ | refine WK.inScope ?_ | refine WK.exit rfl ?_)
  first | refine WK.reg 100 Tryz.ntmps128 (by kernel_rfl) ?_ | refine WK.regD 100 clsOf (by kernel_rfl) Tryz.ntmps128 (by kernel_rfl) (by kernel_rfl) ?_
  intro A hA Q hQ
  simp
  refine hQ _ _ ?_
  clear hQ hA
  repeat (first | refine WK.seq ?_ | refine WK.block ?_ | refine WK.inBlock ?_ | refine WK.skip ?_ | refine WK.label ?_ | refine WK.scope ?_ | refine WK.inScope ?_ | refine WK.exit rfl ?_)
  first | refine WK.reg 200 Tryz.ntmps128 (by kernel_rfl) ?_ | refine WK.regD 200 clsOf (by kernel_rfl) Tryz.ntmps128 (by kernel_rfl) (by kernel_rfl) ?_
  intro A hA Q hQ
  simp
  refine RunQ.call rfl rfl rfl rfl (by rfl) (by simp (maxDischargeDepth := 120)) (all_c f 143 (ofA 0 Action.port) h.insts.len h.insts.acts (ofA_le _ _) (fun l hl => aPorts_c l hl)) (by simp) ?_
  refine RunQ.eval ?_
  simp
  refine hQ _ _ ?_
  clear hQ hA
  repeat (first | refine WK.seq ?_ | refine WK.block ?_ | refine WK.inBlock ?_ | refine WK.skip ?_ | refine WK.label ?_ | refine WK.scope ?_ | refine WK.inScope ?_ | refine WK.exit rfl ?_)
  refine WK.ret Tryz.func128 (by simp (maxDischargeDepth := 120) [Tryz.results128, Flow.goPorts]) (by simp [Flow.goPorts])
def Flow.goGroups (f : Flow) : List Int := allI (ofA 22 Action.group) f.insts
theorem fGroups_c (f : Flow) (h : FOk f) : FnP Tryz.prog 129 [.agg f.enc] (intS (Flow.goGroups f)) := by
  refine FnP.intro Tryz.func129 rfl rfl fun G w => ?_
  repeat (first | refine WK.seq ?_ | refine WK.block ?_ | refine WK.inBlock ?_ | refine WK.skip ?_ | refine WK.label ?_ | refine WK.scope ?_ | refine WK.inScope ?_ | refine WK.exit rfl ?_)
  first | refine WK.reg 100 Tryz.ntmps129 (by kernel_rfl) ?_ | refine WK.regD 100 clsOf (by kernel_rfl) Tryz.ntmps129 (by kernel_rfl) (by kernel_rfl) ?_
  intro A hA Q hQ
  simp
  refine hQ _ _ ?_
  clear hQ hA
  repeat (first | refine WK.seq ?_ | refine WK.block ?_ | refine WK.inBlock ?_ | refine WK.skip ?_ | refine WK.label ?_ | refine WK.scope ?_ | refine WK.inScope ?_ | refine WK.exit rfl ?_)
  first | refine WK.reg 200 Tryz.ntmps129 (by kernel_rfl) ?_ | refine WK.regD 200 clsOf (by kernel_rfl) Tryz.ntmps129 (by kernel_rfl) (by kernel_rfl) ?_
  intro A hA Q hQ
  simp
  refine RunQ.call rfl rfl rfl rfl (by rfl) (by simp (maxDischargeDepth := 120)) (all_c f 144 (ofA 22 Action.group) h.insts.len h.insts.acts (ofA_le _ _) (fun l hl => aGroups_c l hl)) (by simp) ?_
  refine RunQ.eval ?_
  simp
  refine hQ _ _ ?_
  clear hQ hA
  repeat (first | refine WK.seq ?_ | refine WK.block ?_ | refine WK.inBlock ?_ | refine WK.skip ?_ | refine WK.label ?_ | refine WK.scope ?_ | refine WK.inScope ?_ | refine WK.exit rfl ?_)
  refine WK.ret Tryz.func129 (by simp (maxDischargeDepth := 120) [Tryz.results129, Flow.goGroups]) (by simp [Flow.goGroups])
theorem racts_c (f : Flow) (h : FOk f) : FnP Tryz.prog 96 [.agg f.enc] (actS (allI id f.insts)) := by
  have hl := h.insts.len
  have ha := h.insts.acts
  refine FnP.intro Tryz.func96 rfl rfl fun G w => ?_
  repeat (first | refine WK.seq ?_ | refine WK.block ?_ | refine WK.inBlock ?_ | refine WK.skip ?_ | refine WK.label ?_ | refine WK.scope ?_ | refine WK.inScope ?_ | refine WK.exit rfl ?_)
  first | refine WK.reg 100 Tryz.ntmps96 (by kernel_rfl) ?_ | refine WK.regD 100 clsOf (by kernel_rfl) Tryz.ntmps96 (by kernel_rfl) (by kernel_rfl) ?_
  intro A hA Q hQ
  simp
  refine hQ _ _ ?_
  clear hQ hA
  repeat (first | refine WK.seq ?_ | refine WK.block ?_ | refine WK.inBlock ?_ | refine WK.skip ?_ | refine WK.label ?_ | refine WK.scope ?_ | refine WK.inScope ?_ | refine WK.exit rfl ?_)
  first | refine WK.reg 200 Tryz.ntmps96 (by kernel_rfl) ?_ | refine WK.regD 200 clsOf (by kernel_rfl) Tryz.ntmps96 (by kernel_rfl) (by kernel_rfl) ?_
  intro A hA Q hQ
  simp
  refine hQ _ _ ?_
  clear hQ hA
  repeat (first | refine WK.seq ?_ | refine WK.block ?_ | refine WK.inBlock ?_ | refine WK.skip ?_ | refine WK.label ?_ | refine WK.scope ?_ | refine WK.inScope ?_ | refine WK.exit rfl ?_)
  refine WK.ghost (Ghost.own 3 900 11 rfl rfl) ?_
  repeat (first | refine WK.seq ?_ | refine WK.block ?_ | refine WK.inBlock ?_ | refine WK.skip ?_ | refine WK.label ?_ | refine WK.scope ?_ | refine WK.inScope ?_ | refine WK.exit rfl ?_)
  first | refine WK.reg 300 Tryz.ntmps96 (by kernel_rfl) ?_ | refine WK.regD 300 clsOf (by kernel_rfl) Tryz.ntmps96 (by kernel_rfl) (by kernel_rfl) ?_
  intro A hA Q hQ
  simp
  refine hQ _ _ ?_
  clear hQ hA
  repeat (first | refine WK.seq ?_ | refine WK.block ?_ | refine WK.inBlock ?_ | refine WK.skip ?_ | refine WK.label ?_ | refine WK.scope ?_ | refine WK.inScope ?_ | refine WK.exit rfl ?_)
  refine WK.loopI (fun n => if n = 1 then 900 else n) (fun i : Nat => (⟨(upd (upd (upd J 1 (.ptr 0 0)) 3 (.msl 1 0 (allI id (f.insts.take i)).length)) 4 (.int .i64 i)), (upd (upd B0 0 (.var f.enc)) 1 (.buf 11 (actL (allI id (f.insts.take i))))), 0⟩ : St)) (fun i => i ≤ f.insts.length) (fun i => f.insts.length - i) (0) (by repeat (first | exact TmW.nil | refine TmW.upd ?_ (by simp (maxDischargeDepth := 120) [allI]))) (by repeat (first | exact BxW.nil | refine BxW.upd ?_ (by simp (maxDischargeDepth := 120) [allI]))) (by first | exact InjW.id | exact InjW.nil | exact InjW.one | exact InjW.two (by simp) | exact InjW.three (by simp) (by simp) (by simp)) (by omega) (fun i hi IH => ?_)
  repeat (first | refine WK.seq ?_ | refine WK.block ?_ | refine WK.inBlock ?_ | refine WK.skip ?_ | refine WK.label ?_ | refine WK.scope ?_ | refine WK.inScope ?_ | refine WK.exit rfl ?_)
  first | refine WK.reg 400 Tryz.ntmps96 (by kernel_rfl) ?_ | refine WK.regD 400 clsOf (by kernel_rfl) Tryz.ntmps96 (by kernel_rfl) (by kernel_rfl) ?_
  intro A hA Q hQ
  simp [Flow.enc]
  refine hQ _ _ ?_
  clear hQ hA
  repeat (first | refine WK.seq ?_ | refine WK.block ?_ | refine WK.inBlock ?_ | refine WK.skip ?_ | refine WK.label ?_ | refine WK.scope ?_ | refine WK.inScope ?_ | refine WK.exit rfl ?_)
  refine WK.cond2 rfl (fun h1 => ?_) (fun h1 => ?_)
  · simp at h1
    have h2 : i < f.insts.length := by omega
    have h3 : i * 7 + 6 < f.insts.length * 7 := by omega
    have h4 := inst_get0 f.insts i h2
    have h4' := inst_get6 f.insts i h2
    have h6 : IntKind.i64.wrap ((i : Int) + 1) = i + 1 := wrap_i64 (by omega) (by omega)
    have hal := ha _ (nth_mem h2)
    have hb : ((allI id (f.insts.take i)).length + (nth f.insts i).acts.length) * 88 ≤ 140737488355328 := by
      have h7 := allI_take_len (g := id) (fun l => Nat.le_refl _) 1000000 f.insts ha i
      have h9 : f.insts.length * 1000000 ≤ 1000000000 := by omega
      omega
    cases k3 : (nth f.insts i).kind == 3
    · repeat (first | refine WK.seq ?_ | refine WK.block ?_ | refine WK.inBlock ?_ | refine WK.skip ?_ | refine WK.label ?_ | refine WK.scope ?_ | refine WK.inScope ?_ | refine WK.exit rfl ?_)
      first | refine WK.reg 500 Tryz.ntmps96 (by kernel_rfl) ?_ | refine WK.regD 500 clsOf (by kernel_rfl) Tryz.ntmps96 (by kernel_rfl) (by kernel_rfl) ?_
      intro A hA Q hQ
      have hg7 : (A[7]?).bind (·.dst) = some 20 := by rw [hA]; rfl
      simp [Flow.enc, h2, h4, k3, hg7]
      refine hQ _ _ ?_
      clear hQ hA
      repeat (first | refine WK.seq ?_ | refine WK.block ?_ | refine WK.inBlock ?_ | refine WK.skip ?_ | refine WK.label ?_ | refine WK.scope ?_ | refine WK.inScope ?_ | refine WK.exit rfl ?_)
      refine WK.cond2 rfl (fun h5 => ?_) (fun h5 => ?_)
      · have h5' : Inst.goes (nth f.insts i) = true := by unfold Inst.goes; rw [k3]; simpa using h5
        repeat (first | refine WK.seq ?_ | refine WK.block ?_ | refine WK.inBlock ?_ | refine WK.skip ?_ | refine WK.label ?_ | refine WK.scope ?_ | refine WK.inScope ?_ | refine WK.exit rfl ?_)
        first | refine WK.reg 600 Tryz.ntmps96 (by kernel_rfl) ?_ | refine WK.regD 600 clsOf (by kernel_rfl) Tryz.ntmps96 (by kernel_rfl) (by kernel_rfl) ?_
        intro A hA Q hQ
        simp [Flow.enc, h2, h3, h4']
        refine RunQ.append 901 appAct rfl rfl rfl rfl rfl rfl rfl (by simp [hb]) rfl (by simp [hb]) (by simp [hb]) (by simp [hb]) (by simp [hb]) ?_
        refine RunQ.eval ?_
        simp [hb]
        refine hQ _ _ ?_
        clear hQ hA
        repeat (first | refine WK.seq ?_ | refine WK.block ?_ | refine WK.inBlock ?_ | refine WK.skip ?_ | refine WK.label ?_ | refine WK.scope ?_ | refine WK.inScope ?_ | refine WK.exit rfl ?_)
        first | refine WK.reg 700 Tryz.ntmps96 (by kernel_rfl) ?_ | refine WK.regD 700 clsOf (by kernel_rfl) Tryz.ntmps96 (by kernel_rfl) (by kernel_rfl) ?_
        intro A hA Q hQ
        simp [h6]
        refine hQ _ _ ?_
        clear hQ hA
        repeat (first | refine WK.seq ?_ | refine WK.block ?_ | refine WK.inBlock ?_ | refine WK.skip ?_ | refine WK.label ?_ | refine WK.scope ?_ | refine WK.inScope ?_ | refine WK.exit rfl ?_)
        refine WK.next (fun n => if n = 1 then 901 else n) (IH (i + 1) (by omega) (by first | omega | (dsimp only; omega))) (by repeat (first | exact TmW.nil | refine TmW.upd ?_ (by simp (maxDischargeDepth := 120) [allI_succ h2, h5', actL_app, h6, Flow.enc]))) (by repeat (first | exact BxW.nil | refine BxW.upd ?_ (by simp (maxDischargeDepth := 120) [allI_succ h2, h5', actL_app, h6, Flow.enc]))) (by first | exact InjW.id | exact InjW.nil | exact InjW.one | exact InjW.two (by simp) | exact InjW.three (by simp) (by simp) (by simp))
      · have h5' : Inst.goes (nth f.insts i) = false := by unfold Inst.goes; rw [k3]; simpa using h5
        repeat (first | refine WK.seq ?_ | refine WK.block ?_ | refine WK.inBlock ?_ | refine WK.skip ?_ | refine WK.label ?_ | refine WK.scope ?_ | refine WK.inScope ?_ | refine WK.exit rfl ?_)
        first | refine WK.reg 800 Tryz.ntmps96 (by kernel_rfl) ?_ | refine WK.regD 800 clsOf (by kernel_rfl) Tryz.ntmps96 (by kernel_rfl) (by kernel_rfl) ?_
        intro A hA Q hQ
        simp [h6]
        refine hQ _ _ ?_
        clear hQ hA
        repeat (first | refine WK.seq ?_ | refine WK.block ?_ | refine WK.inBlock ?_ | refine WK.skip ?_ | refine WK.label ?_ | refine WK.scope ?_ | refine WK.inScope ?_ | refine WK.exit rfl ?_)
        refine WK.next (fun n => n) (IH (i + 1) (by omega) (by first | omega | (dsimp only; omega))) (by repeat (first | exact TmW.nil | refine TmW.upd ?_ (by simp (maxDischargeDepth := 120) [allI_succ h2, h5', h6, Flow.enc]))) (by repeat (first | exact BxW.nil | refine BxW.upd ?_ (by simp (maxDischargeDepth := 120) [allI_succ h2, h5', h6, Flow.enc]))) (by first | exact InjW.id | exact InjW.nil | exact InjW.one | exact InjW.two (by simp) | exact InjW.three (by simp) (by simp) (by simp))
    · have h5' : Inst.goes (nth f.insts i) = true := by unfold Inst.goes; rw [k3]; rfl
      repeat (first | refine WK.seq ?_ | refine WK.block ?_ | refine WK.inBlock ?_ | refine WK.skip ?_ | refine WK.label ?_ | refine WK.scope ?_ | refine WK.inScope ?_ | refine WK.exit rfl ?_)
      first | refine WK.reg 900 Tryz.ntmps96 (by kernel_rfl) ?_ | refine WK.regD 900 clsOf (by kernel_rfl) Tryz.ntmps96 (by kernel_rfl) (by kernel_rfl) ?_
      intro A hA Q hQ
      have hg7 : (A[7]?).bind (·.dst) = some 20 := by rw [hA]; rfl
      simp [Flow.enc, h2, h4, k3, hg7]
      refine hQ _ _ ?_
      clear hQ hA
      repeat (first | refine WK.seq ?_ | refine WK.block ?_ | refine WK.inBlock ?_ | refine WK.skip ?_ | refine WK.label ?_ | refine WK.scope ?_ | refine WK.inScope ?_ | refine WK.exit rfl ?_)
      refine WK.cond2 rfl (fun h5 => ?_) (fun h5 => ?_)
      · repeat (first | refine WK.seq ?_ | refine WK.block ?_ | refine WK.inBlock ?_ | refine WK.skip ?_ | refine WK.label ?_ | refine WK.scope ?_ | refine WK.inScope ?_ | refine WK.exit rfl ?_)
        first | refine WK.reg 1000 Tryz.ntmps96 (by kernel_rfl) ?_ | refine WK.regD 1000 clsOf (by kernel_rfl) Tryz.ntmps96 (by kernel_rfl) (by kernel_rfl) ?_
        intro A hA Q hQ
        simp [Flow.enc, h2, h3, h4']
        refine RunQ.append 901 appAct rfl rfl rfl rfl rfl rfl rfl (by simp [hb]) rfl (by simp [hb]) (by simp [hb]) (by simp [hb]) (by simp [hb]) ?_
        refine RunQ.eval ?_
        simp [hb]
        refine hQ _ _ ?_
        clear hQ hA
        repeat (first | refine WK.seq ?_ | refine WK.block ?_ | refine WK.inBlock ?_ | refine WK.skip ?_ | refine WK.label ?_ | refine WK.scope ?_ | refine WK.inScope ?_ | refine WK.exit rfl ?_)
        first | refine WK.reg 1100 Tryz.ntmps96 (by kernel_rfl) ?_ | refine WK.regD 1100 clsOf (by kernel_rfl) Tryz.ntmps96 (by kernel_rfl) (by kernel_rfl) ?_
        intro A hA Q hQ
        simp [h6]
        refine hQ _ _ ?_
        clear hQ hA
        repeat (first | refine WK.seq ?_ | refine WK.block ?_ | refine WK.inBlock ?_ | refine WK.skip ?_ | refine WK.label ?_ | refine WK.scope ?_ | refine WK.inScope ?_ | refine WK.exit rfl ?_)
        refine WK.next (fun n => if n = 1 then 901 else n) (IH (i + 1) (by omega) (by first | omega | (dsimp only; omega))) (by repeat (first | exact TmW.nil | refine TmW.upd ?_ (by simp (maxDischargeDepth := 120) [allI_succ h2, h5', actL_app, h6, Flow.enc]))) (by repeat (first | exact BxW.nil | refine BxW.upd ?_ (by simp (maxDischargeDepth := 120) [allI_succ h2, h5', actL_app, h6, Flow.enc]))) (by first | exact InjW.id | exact InjW.nil | exact InjW.one | exact InjW.two (by simp) | exact InjW.three (by simp) (by simp) (by simp))
      · cases h5
  · simp at h1
    have e : f.insts.take i = f.insts := List.take_of_length_le (by omega)
    rw [e]
    repeat (first | refine WK.seq ?_ | refine WK.block ?_ | refine WK.inBlock ?_ | refine WK.skip ?_ | refine WK.label ?_ | refine WK.scope ?_ | refine WK.inScope ?_ | refine WK.exit rfl ?_)
    first | refine WK.reg 1200 Tryz.ntmps96 (by kernel_rfl) ?_ | refine WK.regD 1200 clsOf (by kernel_rfl) Tryz.ntmps96 (by kernel_rfl) (by kernel_rfl) ?_
    intro A hA Q hQ
    simp
    refine hQ _ _ ?_
    clear hQ hA
    repeat (first | refine WK.seq ?_ | refine WK.block ?_ | refine WK.inBlock ?_ | refine WK.skip ?_ | refine WK.label ?_ | refine WK.scope ?_ | refine WK.inScope ?_ | refine WK.exit rfl ?_)
    refine WK.ghost (Ghost.frzSl 2 11 rfl rfl) ?_
    repeat (first | refine WK.seq ?_ | refine WK.block ?_ | refine WK.inBlock ?_ | refine WK.skip ?_ | refine WK.label ?_ | refine WK.scope ?_ | refine WK.inScope ?_ | refine WK.exit rfl ?_)
    refine WK.ret Tryz.func96 (by simp (maxDischargeDepth := 120) [Tryz.results96, actS]) (by simp [actS])
theorem allI_ofA (k : Int) (g : Action → Int) : ∀ l : List Inst, allI (ofA k g) l = ofA k g (allI id l)
  | [] => rfl
  | x :: l => by
    have ih := allI_ofA k g l
    unfold allI at ih ⊢
    cases hk : Inst.goes x
    · rw [List.filter_cons_of_neg (by simp [hk])]; exact ih
    · rw [List.filter_cons_of_pos hk, List.flatMap_cons, List.flatMap_cons, ih]
      unfold ofA; simp
theorem rfPorts_c (f : Flow) (h : FOk f) (hb : (allI id f.insts).length ≤ 1000000) : FnP Tryz.prog 76 [.agg f.enc] (intS (Flow.goPorts f)) := by
  have e := allI_ofA 0 Action.port f.insts
  refine FnP.intro Tryz.func76 rfl rfl fun G w => ?_
  repeat (first | refine WK.seq ?_ | refine WK.block ?_ | refine WK.inBlock ?_ | refine WK.skip ?_ | refine WK.label ?_ | refine WK.scope ?_ | refine WK.inScope ?_ | refine WK.exit rfl ?_)
  first | refine WK.reg 100 Tryz.ntmps76 (by kernel_rfl) ?_ | refine WK.regD 100 clsOf (by kernel_rfl) Tryz.ntmps76 (by kernel_rfl) (by kernel_rfl) ?_
  intro A hA Q hQ
  simp
  refine hQ _ _ ?_
  clear hQ hA
  repeat (first | refine WK.seq ?_ | refine WK.block ?_ | refine WK.inBlock ?_ | refine WK.skip ?_ | refine WK.label ?_ | refine WK.scope ?_ | refine WK.inScope ?_ | refine WK.exit rfl ?_)
  first | refine WK.reg 200 Tryz.ntmps76 (by kernel_rfl) ?_ | refine WK.regD 200 clsOf (by kernel_rfl) Tryz.ntmps76 (by kernel_rfl) (by kernel_rfl) ?_
  intro A hA Q hQ
  simp
  refine RunQ.call rfl rfl rfl rfl (by rfl) (by simp (maxDischargeDepth := 120)) (racts_c f h) (by simp) ?_
  refine RunQ.eval ?_
  simp
  refine RunQ.call rfl rfl rfl rfl (by rfl) (by simp (maxDischargeDepth := 120)) (raPorts_c (allI id f.insts) hb) (by simp) ?_
  refine RunQ.eval ?_
  simp
  refine hQ _ _ ?_
  clear hQ hA
  repeat (first | refine WK.seq ?_ | refine WK.block ?_ | refine WK.inBlock ?_ | refine WK.skip ?_ | refine WK.label ?_ | refine WK.scope ?_ | refine WK.inScope ?_ | refine WK.exit rfl ?_)
  refine WK.ret Tryz.func76 (by simp (maxDischargeDepth := 120) [Tryz.results76, Flow.goPorts, e]) (by simp [Flow.goPorts, e])
theorem rfGroups_c (f : Flow) (h : FOk f) (hb : (allI id f.insts).length ≤ 1000000) : FnP Tryz.prog 77 [.agg f.enc] (intS (Flow.goGroups f)) := by
  have e := allI_ofA 22 Action.group f.insts
  refine FnP.intro Tryz.func77 rfl rfl fun G w => ?_
  repeat (first | refine WK.seq ?_ | refine WK.block ?_ | refine WK.inBlock ?_ | refine WK.skip ?_ | refine WK.label ?_ | refine WK.scope ?_ | refine WK.inScope ?_ | refine WK.exit rfl ?_)
  first | refine WK.reg 100 Tryz.ntmps77 (by kernel_rfl) ?_ | refine WK.regD 100 clsOf (by kernel_rfl) Tryz.ntmps77 (by kernel_rfl) (by kernel_rfl) ?_
  intro A hA Q hQ
  simp
  refine hQ _ _ ?_
  clear hQ hA
  repeat (first | refine WK.seq ?_ | refine WK.block ?_ | refine WK.inBlock ?_ | refine WK.skip ?_ | refine WK.label ?_ | refine WK.scope ?_ | refine WK.inScope ?_ | refine WK.exit rfl ?_)
  first | refine WK.reg 200 Tryz.ntmps77 (by kernel_rfl) ?_ | refine WK.regD 200 clsOf (by kernel_rfl) Tryz.ntmps77 (by kernel_rfl) (by kernel_rfl) ?_
  intro A hA Q hQ
  simp
  refine RunQ.call rfl rfl rfl rfl (by rfl) (by simp (maxDischargeDepth := 120)) (racts_c f h) (by simp) ?_
  refine RunQ.eval ?_
  simp
  refine RunQ.call rfl rfl rfl rfl (by rfl) (by simp (maxDischargeDepth := 120)) (raGroups_c (allI id f.insts) hb) (by simp) ?_
  refine RunQ.eval ?_
  simp
  refine hQ _ _ ?_
  clear hQ hA
  repeat (first | refine WK.seq ?_ | refine WK.block ?_ | refine WK.inBlock ?_ | refine WK.skip ?_ | refine WK.label ?_ | refine WK.scope ?_ | refine WK.inScope ?_ | refine WK.exit rfl ?_)
  refine WK.ret Tryz.func77 (by simp (maxDischargeDepth := 120) [Tryz.results77, Flow.goGroups, e]) (by simp [Flow.goGroups, e])
theorem inst_same6 (l : List Inst) (i : Nat) (h : i < l.length) : (instL l).take (i * 7 + 6) ++ .sl false (nth l i).acts.length (actL (nth l i).acts) :: (instL l).drop (i * 7 + 6 + 1) = instL l := by
  have h' : i * 7 + 6 < (instL l).length := by simp; omega
  have e := inst_get6 l i h h'
  rw [← e, ← List.drop_eq_getElem_cons h', List.take_append_drop]
theorem copies_c (l : List Inst) (h : IOk l) : FnP Tryz.prog 42 [instS l] (instS l) := by
  have hl := h.len
  refine FnP.intro Tryz.func42 rfl rfl fun G w => ?_
  repeat (first | refine WK.seq ?_ | refine WK.block ?_ | refine WK.inBlock ?_ | refine WK.skip ?_ | refine WK.label ?_ | refine WK.scope ?_ | refine WK.inScope ?_ | refine WK.exit rfl ?_)
  first | refine WK.reg 100 Tryz.ntmps42 (by kernel_rfl) ?_ | refine WK.regD 100 clsOf (by kernel_rfl) Tryz.ntmps42 (by kernel_rfl) (by kernel_rfl) ?_
  intro A hA Q hQ
  simp
  refine hQ _ _ ?_
  clear hQ hA
  repeat (first | refine WK.seq ?_ | refine WK.block ?_ | refine WK.inBlock ?_ | refine WK.skip ?_ | refine WK.label ?_ | refine WK.scope ?_ | refine WK.inScope ?_ | refine WK.exit rfl ?_)
  first | refine WK.reg 200 Tryz.ntmps42 (by kernel_rfl) ?_ | refine WK.regD 200 clsOf (by kernel_rfl) Tryz.ntmps42 (by kernel_rfl) (by kernel_rfl) ?_
  intro A hA Q hQ
  simp
  refine RunQ.callO 900 rfl rfl rfl (by simp) (by rfl) (by simp (maxDischargeDepth := 120)) (clone_inst l (by omega)) (by simp) (by simp) (by simp) ?_
  refine RunQ.eval ?_
  simp
  refine hQ _ _ ?_
  clear hQ hA
  repeat (first | refine WK.seq ?_ | refine WK.block ?_ | refine WK.inBlock ?_ | refine WK.skip ?_ | refine WK.label ?_ | refine WK.scope ?_ | refine WK.inScope ?_ | refine WK.exit rfl ?_)
  first | refine WK.reg 300 Tryz.ntmps42 (by kernel_rfl) ?_ | refine WK.regD 300 clsOf (by kernel_rfl) Tryz.ntmps42 (by kernel_rfl) (by kernel_rfl) ?_
  intro A hA Q hQ
  simp
  refine hQ _ _ ?_
  clear hQ hA
  repeat (first | refine WK.seq ?_ | refine WK.block ?_ | refine WK.inBlock ?_ | refine WK.skip ?_ | refine WK.label ?_ | refine WK.scope ?_ | refine WK.inScope ?_ | refine WK.exit rfl ?_)
  refine WK.loopI (fun _ => 900) (fun i : Nat => (⟨(upd (upd (upd J 3 (.msl 1 0 l.length)) 8 (.int .i64 l.length)) 9 (.int .i64 i)), (upd B0 1 (.buf 7 (instL l))), 0⟩ : St)) (fun i => i ≤ l.length) (fun i => l.length - i) (0) (by repeat (first | exact TmW.nil | refine TmW.upd ?_ (by simp (maxDischargeDepth := 120)))) (by repeat (first | exact BxW.nil | refine BxW.upd ?_ (by simp (maxDischargeDepth := 120)))) (by first | exact InjW.id | exact InjW.nil | exact InjW.one | exact InjW.two (by simp) | exact InjW.three (by simp) (by simp) (by simp)) (by omega) (fun i hi IH => ?_)
  repeat (first | refine WK.seq ?_ | refine WK.block ?_ | refine WK.inBlock ?_ | refine WK.skip ?_ | refine WK.label ?_ | refine WK.scope ?_ | refine WK.inScope ?_ | refine WK.exit rfl ?_)
  first | refine WK.reg 400 Tryz.ntmps42 (by kernel_rfl) ?_ | refine WK.regD 400 clsOf (by kernel_rfl) Tryz.ntmps42 (by kernel_rfl) (by kernel_rfl) ?_
  intro A hA Q hQ
  simp
  refine hQ _ _ ?_
  clear hQ hA
  repeat (first | refine WK.seq ?_ | refine WK.block ?_ | refine WK.inBlock ?_ | refine WK.skip ?_ | refine WK.label ?_ | refine WK.scope ?_ | refine WK.inScope ?_ | refine WK.exit rfl ?_)
  refine WK.cond2 rfl (fun h1 => ?_) (fun h1 => ?_)
  · simp at h1
    have h2 : i < l.length := by omega
    have h3 : i * 7 + 6 < l.length * 7 := by omega
    have h3' : i * 7 + 6 + 1 ≤ l.length * 7 := by omega
    have h4' := inst_get6 l i h2
    have h5 := inst_same6 l i h2
    have h6 : IntKind.i64.wrap ((i : Int) + 1) = i + 1 := wrap_i64 (by omega) (by omega)
    repeat (first | refine WK.seq ?_ | refine WK.block ?_ | refine WK.inBlock ?_ | refine WK.skip ?_ | refine WK.label ?_ | refine WK.scope ?_ | refine WK.inScope ?_ | refine WK.exit rfl ?_)
    first | refine WK.reg 500 Tryz.ntmps42 (by kernel_rfl) ?_ | refine WK.regD 500 clsOf (by kernel_rfl) Tryz.ntmps42 (by kernel_rfl) (by kernel_rfl) ?_
    intro A hA Q hQ
    simp
    refine hQ _ _ ?_
    clear hQ hA
    repeat (first | refine WK.seq ?_ | refine WK.block ?_ | refine WK.inBlock ?_ | refine WK.skip ?_ | refine WK.label ?_ | refine WK.scope ?_ | refine WK.inScope ?_ | refine WK.exit rfl ?_)
    first | refine WK.reg 600 Tryz.ntmps42 (by kernel_rfl) ?_ | refine WK.regD 600 clsOf (by kernel_rfl) Tryz.ntmps42 (by kernel_rfl) (by kernel_rfl) ?_
    intro A hA Q hQ
    simp [h2, h3, h4']
    refine RunQ.call rfl rfl rfl rfl (by rfl) (by simp (maxDischargeDepth := 120) [actS, h2, h3, h3', h5]) (clone_act (nth l i).acts (h.acts _ (nth_mem h2))) (by simp [actS, h2, h3, h3', h5]) ?_
    refine RunQ.eval ?_
    simp [actS, h2, h3, h3', h5]
    refine hQ _ _ ?_
    clear hQ hA
    repeat (first | refine WK.seq ?_ | refine WK.block ?_ | refine WK.inBlock ?_ | refine WK.skip ?_ | refine WK.label ?_ | refine WK.scope ?_ | refine WK.inScope ?_ | refine WK.exit rfl ?_)
    first | refine WK.reg 700 Tryz.ntmps42 (by kernel_rfl) ?_ | refine WK.regD 700 clsOf (by kernel_rfl) Tryz.ntmps42 (by kernel_rfl) (by kernel_rfl) ?_
    intro A hA Q hQ
    simp [h6]
    refine hQ _ _ ?_
    clear hQ hA
    repeat (first | refine WK.seq ?_ | refine WK.block ?_ | refine WK.inBlock ?_ | refine WK.skip ?_ | refine WK.label ?_ | refine WK.scope ?_ | refine WK.inScope ?_ | refine WK.exit rfl ?_)
    refine WK.next (fun n => n) (IH (i + 1) (by omega) (by first | omega | (dsimp only; omega))) (by repeat (first | exact TmW.nil | refine TmW.upd ?_ (by simp (maxDischargeDepth := 120) [h5]))) (by repeat (first | exact BxW.nil | refine BxW.upd ?_ (by simp (maxDischargeDepth := 120) [h5]))) (by first | exact InjW.id | exact InjW.nil | exact InjW.one | exact InjW.two (by simp) | exact InjW.three (by simp) (by simp) (by simp))
  · simp at h1
    repeat (first | refine WK.seq ?_ | refine WK.block ?_ | refine WK.inBlock ?_ | refine WK.skip ?_ | refine WK.label ?_ | refine WK.scope ?_ | refine WK.inScope ?_ | refine WK.exit rfl ?_)
    first | refine WK.reg 800 Tryz.ntmps42 (by kernel_rfl) ?_ | refine WK.regD 800 clsOf (by kernel_rfl) Tryz.ntmps42 (by kernel_rfl) (by kernel_rfl) ?_
    intro A hA Q hQ
    simp
    refine hQ _ _ ?_
    clear hQ hA
    repeat (first | refine WK.seq ?_ | refine WK.block ?_ | refine WK.inBlock ?_ | refine WK.skip ?_ | refine WK.label ?_ | refine WK.scope ?_ | refine WK.inScope ?_ | refine WK.exit rfl ?_)
    refine WK.ghost (Ghost.frzSl 2 7 rfl rfl) ?_
    repeat (first | refine WK.seq ?_ | refine WK.block ?_ | refine WK.inBlock ?_ | refine WK.skip ?_ | refine WK.label ?_ | refine WK.scope ?_ | refine WK.inScope ?_ | refine WK.exit rfl ?_)
    refine WK.ret Tryz.func42 (by simp (maxDischargeDepth := 120) [Tryz.results42, instS]) (by simp [instS])
def FlowMod.flow (m : FlowMod) : Flow := ⟨m.cookie, m.prio, m.idle, m.hard, m.flags, m.mat, m.insts⟩
theorem of2_c (m : FlowMod) (h : FOk (FlowMod.flow m)) : FnP Tryz.prog 16 [.agg m.enc] (.agg (FlowMod.flow m).enc) := by
  refine FnP.intro Tryz.func16 rfl rfl fun G w => ?_
  repeat (first | refine WK.seq ?_ | refine WK.block ?_ | refine WK.inBlock ?_ | refine WK.skip ?_ | refine WK.label ?_ | refine WK.scope ?_ | refine WK.inScope ?_ | refine WK.exit rfl ?_)
  first | refine WK.reg 100 Tryz.ntmps16 (by kernel_rfl) ?_ | refine WK.regD 100 clsOf (by kernel_rfl) Tryz.ntmps16 (by kernel_rfl) (by kernel_rfl) ?_
  intro A hA Q hQ
  simp
  refine hQ _ _ ?_
  clear hQ hA
  repeat (first | refine WK.seq ?_ | refine WK.block ?_ | refine WK.inBlock ?_ | refine WK.skip ?_ | refine WK.label ?_ | refine WK.scope ?_ | refine WK.inScope ?_ | refine WK.exit rfl ?_)
  first | refine WK.reg 200 Tryz.ntmps16 (by kernel_rfl) ?_ | refine WK.regD 200 clsOf (by kernel_rfl) Tryz.ntmps16 (by kernel_rfl) (by kernel_rfl) ?_
  intro A hA Q hQ
  simp [FlowMod.enc]
  refine RunQ.call rfl rfl rfl rfl (by rfl) (by simp (maxDischargeDepth := 120) [oxmS, FlowMod.enc]) (clone_oxm m.mat h.mat) (by simp [oxmS, FlowMod.enc]) ?_
  refine RunQ.eval ?_
  simp [oxmS, FlowMod.enc]
  refine RunQ.call rfl rfl rfl rfl (by rfl) (by simp (maxDischargeDepth := 120) [instS, oxmS, FlowMod.enc]) (copies_c m.insts h.insts) (by simp [instS, oxmS, FlowMod.enc]) ?_
  refine RunQ.eval ?_
  simp [instS, oxmS, FlowMod.enc]
  refine hQ _ _ ?_
  clear hQ hA
  repeat (first | refine WK.seq ?_ | refine WK.block ?_ | refine WK.inBlock ?_ | refine WK.skip ?_ | refine WK.label ?_ | refine WK.scope ?_ | refine WK.inScope ?_ | refine WK.exit rfl ?_)
  refine WK.ret Tryz.func16 (by simp (maxDischargeDepth := 120) [Tryz.results16, FlowMod.flow, Flow.enc]) (by simp [FlowMod.flow, Flow.enc])
theorem rof2_c (m : FlowMod) : FnP Tryz.prog 48 [.agg m.enc] (.agg (FlowMod.flow m).enc) := by
  refine FnP.intro Tryz.func48 rfl rfl fun G w => ?_
  repeat (first | refine WK.seq ?_ | refine WK.block ?_ | refine WK.inBlock ?_ | refine WK.skip ?_ | refine WK.label ?_ | refine WK.scope ?_ | refine WK.inScope ?_ | refine WK.exit rfl ?_)
  first | refine WK.reg 100 Tryz.ntmps48 (by kernel_rfl) ?_ | refine WK.regD 100 clsOf (by kernel_rfl) Tryz.ntmps48 (by kernel_rfl) (by kernel_rfl) ?_
  intro A hA Q hQ
  simp
  refine hQ _ _ ?_
  clear hQ hA
  repeat (first | refine WK.seq ?_ | refine WK.block ?_ | refine WK.inBlock ?_ | refine WK.skip ?_ | refine WK.label ?_ | refine WK.scope ?_ | refine WK.inScope ?_ | refine WK.exit rfl ?_)
  first | refine WK.reg 200 Tryz.ntmps48 (by kernel_rfl) ?_ | refine WK.regD 200 clsOf (by kernel_rfl) Tryz.ntmps48 (by kernel_rfl) (by kernel_rfl) ?_
  intro A hA Q hQ
  simp [FlowMod.enc]
  refine hQ _ _ ?_
  clear hQ hA
  repeat (first | refine WK.seq ?_ | refine WK.block ?_ | refine WK.inBlock ?_ | refine WK.skip ?_ | refine WK.label ?_ | refine WK.scope ?_ | refine WK.inScope ?_ | refine WK.exit rfl ?_)
  refine WK.ret Tryz.func48 (by simp (maxDischargeDepth := 120) [Tryz.results48, FlowMod.flow, Flow.enc]) (by simp [FlowMod.flow, Flow.enc])
end Go.Proofs.YtbncoeoamjcjjaaGreat
