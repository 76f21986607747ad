/- Tables: deleting, and any change. -/
import Derived.Test.YtbncoeoamjcjjaaGreatW32
set_option linter.all false
set_option linter.unnecessarySimpa false
set_option linter.unusedVariables false
set_option linter.unusedSimpArgs false
namespace Go.Proofs.YtbncoeoamjcjjaaGreat
open Go Go.AI Go.Proofs

theorem intL_cons (x : Int) (xs : List Int) : intL (x :: xs) = .int .i64 x :: intL xs := rfl
def goneAt (m : FlowMod) (l : List Flow) (i : Nat) : List Int := (took m l).drop (tookN m l i).length
theorem gone_takes {m : FlowMod} {l : List Flow} {i : Nat} (h : i < l.length) (ht : FlowMod.takes m (nth l i) = true) : goneAt m l i = (i : Int) :: goneAt m l (i + 1) := by
  unfold goneAt
  obtain ⟨e, hlt⟩ := took_get h ht
  obtain ⟨_, e2⟩ := yInt_get e
  rw [List.drop_eq_getElem_cons hlt, tookN_succ, if_pos ht, List.length_append]
  rw [nth_eq hlt] at e2
  simp only [List.cons.injEq, AV.int.injEq, true_and, and_true] at e2
  rw [← e2]; rfl
theorem gone_not {m : FlowMod} {l : List Flow} {i : Nat} (h : i < l.length) (ht : FlowMod.takes m (nth l i) = false) :
    goneAt m l i = goneAt m l (i + 1) ∧ ∀ x xs, goneAt m l i = x :: xs → x ≠ i := by
  constructor
  · unfold goneAt; rw [tookN_succ, ht]; rfl
  · intro x xs e he
    have : x ∈ took m l := List.mem_of_mem_drop (show x ∈ goneAt m l i by rw [e]; simp)
    rw [he] at this
    have := (took_mem h).1 this
    rw [ht] at this; cases this
def dropN (m : FlowMod) (l : List Flow) (i : Nat) : List Flow := (l.take i).filter fun f => !FlowMod.takes m f
theorem dropN_succ {m : FlowMod} {l : List Flow} {i : Nat} (h : i < l.length) : dropN m l (i + 1) = if FlowMod.takes m (nth l i) then dropN m l i else dropN m l i ++ [nth l i] := by
  unfold dropN
  rw [take_nth h, List.filter_append]
  by_cases ht : FlowMod.takes m (nth l i) = true <;> simp [ht]
theorem dropN_len (m : FlowMod) (l : List Flow) (i : Nat) : (dropN m l i).length ≤ l.length := by
  unfold dropN
  have := List.length_filter_le (fun f => !FlowMod.takes m f) (l.take i)
  have := List.length_take_le' i l
  omega
set_option maxHeartbeats 1000000 in
theorem tdrop_c (l : List Flow) (m : FlowMod) (hm : FOk (FlowMod.flow m)) (hl : l.length ≤ 1000000) (hf : ∀ f, f ∈ l → FPl f) :
    FnP Tryz.prog 31 [.iptr (chg m l)] (flowS (tDrop l m)) := by
  have z1 : goneAt m l 0 = took m l := by unfold goneAt tookN; simp
  have z2 : dropN m l 0 = [] := rfl
  refine FnP.intro Tryz.func31 rfl rfl fun G w => ?_
  repeat (first | refine WK.seq ?_ | refine WK.block ?_ | refine WK.inBlock ?_ | refine WK.skip ?_ | refine WK.label ?_ | refine WK.scope ?_ | refine WK.inScope ?_ | refine WK.exit rfl ?_)
  first | refine WK.reg 100 Tryz.ntmps31 (by kernel_rfl) ?_ | refine WK.regD 100 clsOf (by kernel_rfl) Tryz.ntmps31 (by kernel_rfl) (by kernel_rfl) ?_
  intro A hA Q hQ
  simp
  refine hQ _ _ ?_
  clear hQ hA
  repeat (first | refine WK.seq ?_ | refine WK.block ?_ | refine WK.inBlock ?_ | refine WK.skip ?_ | refine WK.label ?_ | refine WK.scope ?_ | refine WK.inScope ?_ | refine WK.exit rfl ?_)
  first | refine WK.reg 200 Tryz.ntmps31 (by kernel_rfl) ?_ | refine WK.regD 200 clsOf (by kernel_rfl) Tryz.ntmps31 (by kernel_rfl) (by kernel_rfl) ?_
  intro A hA Q hQ
  simp [chg, FlowMod.enc]
  refine RunQ.call rfl rfl rfl rfl (by rfl) (by simp (maxDischargeDepth := 120) [flowS, FlowMod.enc, intS]) (plist_c m l hm hl hf) (by simp [flowS, FlowMod.enc, intS]) ?_
  refine RunQ.eval ?_
  simp [flowS, FlowMod.enc, intS]
  refine hQ _ _ ?_
  clear hQ hA
  repeat (first | refine WK.seq ?_ | refine WK.block ?_ | refine WK.inBlock ?_ | refine WK.skip ?_ | refine WK.label ?_ | refine WK.scope ?_ | refine WK.inScope ?_ | refine WK.exit rfl ?_)
  first | refine WK.reg 300 Tryz.ntmps31 (by kernel_rfl) ?_ | refine WK.regD 300 clsOf (by kernel_rfl) Tryz.ntmps31 (by kernel_rfl) (by kernel_rfl) ?_
  intro A hA Q hQ
  simp
  refine hQ _ _ ?_
  clear hQ hA
  repeat (first | refine WK.seq ?_ | refine WK.block ?_ | refine WK.inBlock ?_ | refine WK.skip ?_ | refine WK.label ?_ | refine WK.scope ?_ | refine WK.inScope ?_ | refine WK.exit rfl ?_)
  first | refine WK.reg 400 Tryz.ntmps31 (by kernel_rfl) ?_ | refine WK.regD 400 clsOf (by kernel_rfl) Tryz.ntmps31 (by kernel_rfl) (by kernel_rfl) ?_
  intro A hA Q hQ
  simp [chg, FlowMod.enc]
  refine RunQ.callO 900 rfl rfl rfl (by simp [flowS]) (by rfl) (by simp (maxDischargeDepth := 120) [flowS]) (fresh_c l hl hf) (by simp [flowS]) (by simp [flowS]) (by simp [flowS]) ?_
  refine RunQ.eval ?_
  simp [flowS]
  refine hQ _ _ ?_
  clear hQ hA
  repeat (first | refine WK.seq ?_ | refine WK.block ?_ | refine WK.inBlock ?_ | refine WK.skip ?_ | refine WK.label ?_ | refine WK.scope ?_ | refine WK.inScope ?_ | refine WK.exit rfl ?_)
  refine WK.ghost (Ghost.frzSl 20 7 rfl rfl) ?_
  repeat (first | refine WK.seq ?_ | refine WK.block ?_ | refine WK.inBlock ?_ | refine WK.skip ?_ | refine WK.label ?_ | refine WK.scope ?_ | refine WK.inScope ?_ | refine WK.exit rfl ?_)
  refine WK.ghost (Ghost.own 4 901 7 rfl rfl) ?_
  repeat (first | refine WK.seq ?_ | refine WK.block ?_ | refine WK.inBlock ?_ | refine WK.skip ?_ | refine WK.label ?_ | refine WK.scope ?_ | refine WK.inScope ?_ | refine WK.exit rfl ?_)
  refine WK.loopI (fun _ => 901) (fun i : Nat => (⟨(upd (upd (upd (upd (upd J 3 (.sl false (goneAt m l i).length (intL (goneAt m l i)))) 4 (.msl 1 0 (dropN m l i).length)) 20 (.sl false l.length (flowL l))) 21 (.int .i64 l.length)) 22 (.int .i64 i)), (upd B0 1 (.buf 7 (flowL (dropN m l i)))), 0⟩ : St)) (fun i => i ≤ l.length) (fun i => l.length - i) (0) (by repeat (first | exact TmW.nil | refine TmW.upd ?_ (by simp (maxDischargeDepth := 120) [z1, z2, flow_full, flowL_nil]))) (by repeat (first | exact BxW.nil | refine BxW.upd ?_ (by simp (maxDischargeDepth := 120) [z1, z2, flow_full, flowL_nil]))) (by first | exact InjW.id | exact InjW.nil | exact InjW.one | exact InjW.two (by simp) | exact InjW.three (by simp) (by simp) (by simp)) (by omega) (fun i hi IH => ?_)
  repeat (first | refine WK.seq ?_ | refine WK.block ?_ | refine WK.inBlock ?_ | refine WK.skip ?_ | refine WK.label ?_ | refine WK.scope ?_ | refine WK.inScope ?_ | refine WK.exit rfl ?_)
  first | refine WK.reg 500 Tryz.ntmps31 (by kernel_rfl) ?_ | refine WK.regD 500 clsOf (by kernel_rfl) Tryz.ntmps31 (by kernel_rfl) (by kernel_rfl) ?_
  intro A hA Q hQ
  simp
  refine hQ _ _ ?_
  clear hQ hA
  repeat (first | refine WK.seq ?_ | refine WK.block ?_ | refine WK.inBlock ?_ | refine WK.skip ?_ | refine WK.label ?_ | refine WK.scope ?_ | refine WK.inScope ?_ | refine WK.exit rfl ?_)
  refine WK.cond2 rfl (fun h1 => ?_) (fun h1 => ?_)
  · simp at h1
    have h2 : i < l.length := by omega
    have h3 : 7 ≤ l.length * 7 - i * 7 := by omega
    have h4 := flow_sub l i h2
    have h6 : IntKind.i64.wrap ((i : Int) + 1) = i + 1 := wrap_i64 (by omega) (by omega)
    have hs := dropN_succ (m := m) h2
    have hdl := dropN_len m l i
    cases ht : FlowMod.takes m (nth l i)
    · obtain ⟨e1, e2⟩ := gone_not h2 ht
      rw [ht] at hs
      simp only [Bool.false_eq_true, if_false] at hs
      have hb : ((dropN m l i).length + 1) * 88 ≤ 140737488355328 := by omega
      have hs' : flowL (dropN m l i) ++ (nth l i).enc = flowL (dropN m l (i + 1)) := by rw [hs, flowL_app, flowL_one]
      have hs2 : (dropN m l (i + 1)).length = (dropN m l i).length + 1 := by rw [hs, List.length_append]; rfl
      repeat (first | refine WK.seq ?_ | refine WK.block ?_ | refine WK.inBlock ?_ | refine WK.skip ?_ | refine WK.label ?_ | refine WK.scope ?_ | refine WK.inScope ?_ | refine WK.exit rfl ?_)
      first | refine WK.reg 600 Tryz.ntmps31 (by kernel_rfl) ?_ | refine WK.regD 600 clsOf (by kernel_rfl) Tryz.ntmps31 (by kernel_rfl) (by kernel_rfl) ?_
      intro A hA Q hQ
      simp [h2, h3, h4]
      refine hQ _ _ ?_
      clear hQ hA
      repeat (first | refine WK.seq ?_ | refine WK.block ?_ | refine WK.inBlock ?_ | refine WK.skip ?_ | refine WK.label ?_ | refine WK.scope ?_ | refine WK.inScope ?_ | refine WK.exit rfl ?_)
      apply WK.cut (⟨(upd (upd (upd (upd (upd (upd (upd J 3 (.sl false (goneAt m l i).length (intL (goneAt m l i)))) 4 (.msl 1 0 (dropN m l i).length)) 6 (.ptr 6 0)) 20 (.sl false l.length (flowL l))) 21 (.int .i64 l.length)) 22 (.int .i64 i)) 36 (.bool false)), (upd (upd B0 1 (.buf 7 (flowL (dropN m l i)))) 6 (.var (nth l i).enc)), 0⟩ : St)
      · intro hcut
        cases hg : goneAt m l i with
        | nil =>
          rw [hg] at hcut
          repeat (first | refine WK.seq ?_ | refine WK.block ?_ | refine WK.inBlock ?_ | refine WK.skip ?_ | refine WK.label ?_ | refine WK.scope ?_ | refine WK.inScope ?_ | refine WK.exit rfl ?_)
          first | refine WK.reg 700 Tryz.ntmps31 (by kernel_rfl) ?_ | refine WK.regD 700 clsOf (by kernel_rfl) Tryz.ntmps31 (by kernel_rfl) (by kernel_rfl) ?_
          intro A hA Q hQ
          have hg3 : (A[3]?).bind (·.dst) = some 30 := by rw [hA]; rfl
          simp [intL_cons, intL_nil', hg3]
          refine hQ _ _ ?_
          clear hQ hA
          repeat (first | refine WK.seq ?_ | refine WK.block ?_ | refine WK.inBlock ?_ | refine WK.skip ?_ | refine WK.label ?_ | refine WK.scope ?_ | refine WK.inScope ?_ | refine WK.exit rfl ?_)
          refine WK.next (fun n => if n = 6 then 503 else n) hcut (by repeat (first | exact TmW.nil | refine TmW.upd ?_ (by simp (maxDischargeDepth := 120) [intL_cons, intL_nil']))) (by repeat (first | exact BxW.nil | refine BxW.upd ?_ (by simp (maxDischargeDepth := 120) [intL_cons, intL_nil']))) (by first | exact InjW.id | exact InjW.nil | exact InjW.one | exact InjW.two (by simp) | exact InjW.three (by simp) (by simp) (by simp))
        | cons x xs =>
          have hne : (x == (i : Int)) = false := beq_eq_false_iff_ne.2 (e2 x xs hg)
          rw [hg] at hcut
          repeat (first | refine WK.seq ?_ | refine WK.block ?_ | refine WK.inBlock ?_ | refine WK.skip ?_ | refine WK.label ?_ | refine WK.scope ?_ | refine WK.inScope ?_ | refine WK.exit rfl ?_)
          first | refine WK.reg 800 Tryz.ntmps31 (by kernel_rfl) ?_ | refine WK.regD 800 clsOf (by kernel_rfl) Tryz.ntmps31 (by kernel_rfl) (by kernel_rfl) ?_
          intro A hA Q hQ
          have hg3 : (A[3]?).bind (·.dst) = some 30 := by rw [hA]; rfl
          simp [intL_cons, hne, hg3]
          refine hQ _ _ ?_
          clear hQ hA
          repeat (first | refine WK.seq ?_ | refine WK.block ?_ | refine WK.inBlock ?_ | refine WK.skip ?_ | refine WK.label ?_ | refine WK.scope ?_ | refine WK.inScope ?_ | refine WK.exit rfl ?_)
          refine WK.next (fun n => if n = 6 then 503 else n) hcut (by repeat (first | exact TmW.nil | refine TmW.upd ?_ (by simp (maxDischargeDepth := 120) [intL_cons, intL_nil']))) (by repeat (first | exact BxW.nil | refine BxW.upd ?_ (by simp (maxDischargeDepth := 120) [intL_cons, intL_nil']))) (by first | exact InjW.id | exact InjW.nil | exact InjW.one | exact InjW.two (by simp) | exact InjW.three (by simp) (by simp) (by simp))
      repeat (first | refine WK.seq ?_ | refine WK.block ?_ | refine WK.inBlock ?_ | refine WK.skip ?_ | refine WK.label ?_ | refine WK.scope ?_ | refine WK.inScope ?_ | refine WK.exit rfl ?_)
      refine WK.cond2 rfl (fun h => ?_) (fun h => ?_)
      · cases h
      repeat (first | refine WK.seq ?_ | refine WK.block ?_ | refine WK.inBlock ?_ | refine WK.skip ?_ | refine WK.label ?_ | refine WK.scope ?_ | refine WK.inScope ?_ | refine WK.exit rfl ?_)
      first | refine WK.reg 900 Tryz.ntmps31 (by kernel_rfl) ?_ | refine WK.regD 900 clsOf (by kernel_rfl) Tryz.ntmps31 (by kernel_rfl) (by kernel_rfl) ?_
      intro A hA Q hQ
      simp
      refine RunQ.append 902 appFlow rfl rfl rfl rfl rfl rfl rfl (by simp [hb]) rfl (by simp [hb]) (by simp [hb]) (by simp [hb]) (by simp [hb]) ?_
      refine RunQ.eval ?_
      simp [hb]
      refine hQ _ _ ?_
      clear hQ hA
      repeat (first | refine WK.seq ?_ | refine WK.block ?_ | refine WK.inBlock ?_ | refine WK.skip ?_ | refine WK.label ?_ | refine WK.scope ?_ | refine WK.inScope ?_ | refine WK.exit rfl ?_)
      first | refine WK.reg 1000 Tryz.ntmps31 (by kernel_rfl) ?_ | refine WK.regD 1000 clsOf (by kernel_rfl) Tryz.ntmps31 (by kernel_rfl) (by kernel_rfl) ?_
      intro A hA Q hQ
      simp [h6]
      refine hQ _ _ ?_
      clear hQ hA
      repeat (first | refine WK.seq ?_ | refine WK.block ?_ | refine WK.inBlock ?_ | refine WK.skip ?_ | refine WK.label ?_ | refine WK.scope ?_ | refine WK.inScope ?_ | refine WK.exit rfl ?_)
      refine WK.next (fun n => if n = 1 then 902 else n) (IH (i + 1) (by omega) (by first | omega | (dsimp only; omega))) (by repeat (first | exact TmW.nil | refine TmW.upd ?_ (by simp (maxDischargeDepth := 120) [hs', hs2, h6, e1]))) (by repeat (first | exact BxW.nil | refine BxW.upd ?_ (by simp (maxDischargeDepth := 120) [hs', hs2, h6, e1]))) (by first | exact InjW.id | exact InjW.nil | exact InjW.one | exact InjW.two (by simp) | exact InjW.three (by simp) (by simp) (by simp))
    · have e1 := gone_takes h2 ht
      rw [ht] at hs
      simp only [if_true] at hs
      repeat (first | refine WK.seq ?_ | refine WK.block ?_ | refine WK.inBlock ?_ | refine WK.skip ?_ | refine WK.label ?_ | refine WK.scope ?_ | refine WK.inScope ?_ | refine WK.exit rfl ?_)
      first | refine WK.reg 1100 Tryz.ntmps31 (by kernel_rfl) ?_ | refine WK.regD 1100 clsOf (by kernel_rfl) Tryz.ntmps31 (by kernel_rfl) (by kernel_rfl) ?_
      intro A hA Q hQ
      simp [h2, h3, h4]
      refine hQ _ _ ?_
      clear hQ hA
      rw [e1]
      repeat (first | refine WK.seq ?_ | refine WK.block ?_ | refine WK.inBlock ?_ | refine WK.skip ?_ | refine WK.label ?_ | refine WK.scope ?_ | refine WK.inScope ?_ | refine WK.exit rfl ?_)
      first | refine WK.reg 1200 Tryz.ntmps31 (by kernel_rfl) ?_ | refine WK.regD 1200 clsOf (by kernel_rfl) Tryz.ntmps31 (by kernel_rfl) (by kernel_rfl) ?_
      intro A hA Q hQ
      have hg3 : (A[3]?).bind (·.dst) = some 30 := by rw [hA]; rfl
      simp [intL_cons, intL_nil', hg3]
      refine hQ _ _ ?_
      clear hQ hA
      repeat (first | refine WK.seq ?_ | refine WK.block ?_ | refine WK.inBlock ?_ | refine WK.skip ?_ | refine WK.label ?_ | refine WK.scope ?_ | refine WK.inScope ?_ | refine WK.exit rfl ?_)
      refine WK.cond2 rfl (fun h => ?_) (fun h => ?_)
      · have hc1 : (1 : Int) ≤ (goneAt m l (i + 1)).length + 1 := by omega
        have hc2 : (intL (goneAt m l (i + 1))).take (goneAt m l (i + 1)).length = intL (goneAt m l (i + 1)) := List.take_of_length_le (by simp)
        repeat (first | refine WK.seq ?_ | refine WK.block ?_ | refine WK.inBlock ?_ | refine WK.skip ?_ | refine WK.label ?_ | refine WK.scope ?_ | refine WK.inScope ?_ | refine WK.exit rfl ?_)
        first | refine WK.reg 1300 Tryz.ntmps31 (by kernel_rfl) ?_ | refine WK.regD 1300 clsOf (by kernel_rfl) Tryz.ntmps31 (by kernel_rfl) (by kernel_rfl) ?_
        intro A hA Q hQ
        simp [hc1, hc2]
        refine hQ _ _ ?_
        clear hQ hA
        repeat (first | refine WK.seq ?_ | refine WK.block ?_ | refine WK.inBlock ?_ | refine WK.skip ?_ | refine WK.label ?_ | refine WK.scope ?_ | refine WK.inScope ?_ | refine WK.exit rfl ?_)
        first | refine WK.reg 1400 Tryz.ntmps31 (by kernel_rfl) ?_ | refine WK.regD 1400 clsOf (by kernel_rfl) Tryz.ntmps31 (by kernel_rfl) (by kernel_rfl) ?_
        intro A hA Q hQ
        simp [h6]
        refine hQ _ _ ?_
        clear hQ hA
        repeat (first | refine WK.seq ?_ | refine WK.block ?_ | refine WK.inBlock ?_ | refine WK.skip ?_ | refine WK.label ?_ | refine WK.scope ?_ | refine WK.inScope ?_ | refine WK.exit rfl ?_)
        refine WK.next (fun n => n) (IH (i + 1) (by omega) (by first | omega | (dsimp only; omega))) (by repeat (first | exact TmW.nil | refine TmW.upd ?_ (by simp (maxDischargeDepth := 120) [hs, h6, hc2]))) (by repeat (first | exact BxW.nil | refine BxW.upd ?_ (by simp (maxDischargeDepth := 120) [hs, h6, hc2]))) (by first | exact InjW.id | exact InjW.nil | exact InjW.one | exact InjW.two (by simp) | exact InjW.three (by simp) (by simp) (by simp))
      · cases h
  · simp at h1
    have h2 : i = l.length := by omega
    have h3 : dropN m l i = tDrop l m := by rw [h2]; unfold dropN tDrop; rw [List.take_length]
    rw [h3]
    repeat (first | refine WK.seq ?_ | refine WK.block ?_ | refine WK.inBlock ?_ | refine WK.skip ?_ | refine WK.label ?_ | refine WK.scope ?_ | refine WK.inScope ?_ | refine WK.exit rfl ?_)
    first | refine WK.reg 1500 Tryz.ntmps31 (by kernel_rfl) ?_ | refine WK.regD 1500 clsOf (by kernel_rfl) Tryz.ntmps31 (by kernel_rfl) (by kernel_rfl) ?_
    intro A hA Q hQ
    simp
    refine hQ _ _ ?_
    clear hQ hA
    repeat (first | refine WK.seq ?_ | refine WK.block ?_ | refine WK.inBlock ?_ | refine WK.skip ?_ | refine WK.label ?_ | refine WK.scope ?_ | refine WK.inScope ?_ | refine WK.exit rfl ?_)
    refine WK.ghost (Ghost.frzSl 2 7 rfl rfl) ?_
    repeat (first | refine WK.seq ?_ | refine WK.block ?_ | refine WK.inBlock ?_ | refine WK.skip ?_ | refine WK.label ?_ | refine WK.scope ?_ | refine WK.inScope ?_ | refine WK.exit rfl ?_)
    refine WK.ret Tryz.func31 (by simp (maxDischargeDepth := 120) [Tryz.results31, flowS, flow_full]) (by simp [flowS, flow_full])
end Go.Proofs.YtbncoeoamjcjjaaGreat
