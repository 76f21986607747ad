/- Tables: an addition. -/
import Derived.Test.YtbncoeoamjcjjaaGreatW30
set_option linter.all false
set_option linter.unnecessarySimpa false
set_option linter.unusedVariables false
set_option linter.unusedSimpArgs false
namespace Go.Proofs.YtbncoeoamjcjjaaGreat
open Go Go.AI Go.Proofs

theorem takenF (n : Nat) : taken (fun _ => false) n = if n = 0 then 0 else 1 := by cases n <;> rfl
def chg (m : FlowMod) (l : List Flow) : List AV := m.enc ++ [.sl false l.length (flowL l)]
def tAdd (l : List Flow) (m : FlowMod) : List Flow × F3 :=
  if strictB m.flags && l.any (fun f => Flow.overlap f (FlowMod.flow m)) then ([], ⟨true, 5, 3⟩)
  else match took m l with
    | x :: _ => (l.set x.toNat (FlowMod.flow m), F3.zero)
    | [] => if 8 ≤ l.length then ([], ⟨true, 5, 1⟩) else (l ++ [FlowMod.flow m], F3.zero)
theorem flow_set (l : List Flow) (i : Nat) (g : Flow) (h : i < l.length) : (flowL l).take (i * 7) ++ (g.enc ++ (flowL l).drop (i * 7 + 7)) = flowL (l.set i g) := by
  have e := fm_splice Flow.len l i g h
  unfold splice at e
  rw [List.append_assoc] at e
  exact e
theorem flow_full (l : List Flow) (n : Nat) (h : n = l.length * 7) : (flowL l).take n = flowL l := List.take_of_length_le (by simp [h])
theorem took_pos {m : FlowMod} {l : List Flow} {x : Int} (h : x ∈ took m l) : ∃ p : Nat, x = p ∧ p < l.length := by
  unfold took at h
  obtain ⟨p, hp, rfl⟩ := List.mem_map.1 h
  refine ⟨p, rfl, ?_⟩
  unfold tookN at hp
  exact List.mem_range.1 (List.mem_filter.1 hp).1
theorem tadd1_c (f g : Flow) (hf : FOk f) (hg : FOk g) : FnP Tryz.prog 54 [.agg f.enc, .iptr g.enc] (.bool (Flow.overlap f g)) := by
  refine FnP.intro Tryz.func54 rfl rfl fun G w => ?_
  repeat (first | refine WK.seq ?_ | refine WK.block ?_ | refine WK.inBlock ?_ | refine WK.skip ?_ | refine WK.label ?_ | refine WK.scope ?_ | refine WK.inScope ?_ | refine WK.exit rfl ?_)
  first | refine WK.reg 100 Tryz.ntmps54 (by kernel_rfl) ?_ | refine WK.regD 100 clsOf (by kernel_rfl) Tryz.ntmps54 (by kernel_rfl) (by kernel_rfl) ?_
  intro A hA Q hQ
  simp
  refine hQ _ _ ?_
  clear hQ hA
  repeat (first | refine WK.seq ?_ | refine WK.block ?_ | refine WK.inBlock ?_ | refine WK.skip ?_ | refine WK.label ?_ | refine WK.scope ?_ | refine WK.inScope ?_ | refine WK.exit rfl ?_)
  first | refine WK.reg 200 Tryz.ntmps54 (by kernel_rfl) ?_ | refine WK.regD 200 clsOf (by kernel_rfl) Tryz.ntmps54 (by kernel_rfl) (by kernel_rfl) ?_
  intro A hA Q hQ
  simp
  refine RunQ.call rfl rfl rfl rfl (by rfl) (by simp (maxDischargeDepth := 120)) (overlap_c f g hf hg) (by simp) ?_
  refine RunQ.eval ?_
  simp
  refine hQ _ _ ?_
  clear hQ hA
  repeat (first | refine WK.seq ?_ | refine WK.block ?_ | refine WK.inBlock ?_ | refine WK.skip ?_ | refine WK.label ?_ | refine WK.scope ?_ | refine WK.inScope ?_ | refine WK.exit rfl ?_)
  refine WK.ret Tryz.func54 (by simp (maxDischargeDepth := 120) [Tryz.results54]) (by simp)
set_option maxHeartbeats 4000000 in
theorem tadd_c (l : List Flow) (m : FlowMod) (hm : FOk (FlowMod.flow m)) (hl : l.length ≤ 1000000) (hf : ∀ f, f ∈ l → FPl f) :
    FnP Tryz.prog 29 [.iptr (chg m l)] (.tup [flowS (tAdd l m).1, .agg (tAdd l m).2.enc]) := by
  have hcf := containsf_flow 54 [.iptr (FlowMod.flow m).enc] (fun f => Flow.overlap f (FlowMod.flow m)) l (by simp) hl (fun x hx => tadd1_c x (FlowMod.flow m) (hf x hx).ok hm)
  have hy := yInt_all (took m l)
  unfold flowS at hcf ⊢
  cases k1 : strictB m.flags && l.any (fun f => Flow.overlap f (FlowMod.flow m))
  case true =>
    rw [Bool.and_eq_true] at k1
    obtain ⟨k1, k2⟩ := k1
    have e : tAdd l m = ([], ⟨true, 5, 3⟩) := by unfold tAdd; rw [k1, k2]; rfl
    refine FnP.intro Tryz.func29 rfl rfl fun G w => ?_
    repeat (first | refine WK.seq ?_ | refine WK.block ?_ | refine WK.inBlock ?_ | refine WK.skip ?_ | refine WK.label ?_ | refine WK.scope ?_ | refine WK.inScope ?_ | refine WK.exit rfl ?_)
    first | refine WK.reg 100 Tryz.ntmps29 (by kernel_rfl) ?_ | refine WK.regD 100 clsOf (by kernel_rfl) Tryz.ntmps29 (by kernel_rfl) (by kernel_rfl) ?_
    intro A hA Q hQ
    simp
    refine hQ _ _ ?_
    clear hQ hA
    repeat (first | refine WK.seq ?_ | refine WK.block ?_ | refine WK.inBlock ?_ | refine WK.skip ?_ | refine WK.label ?_ | refine WK.scope ?_ | refine WK.inScope ?_ | refine WK.exit rfl ?_)
    first | refine WK.reg 200 Tryz.ntmps29 (by kernel_rfl) ?_ | refine WK.regD 200 clsOf (by kernel_rfl) Tryz.ntmps29 (by kernel_rfl) (by kernel_rfl) ?_
    intro A hA Q hQ
    simp [chg, FlowMod.enc]
    refine RunQ.call rfl rfl rfl rfl (by rfl) (by simp (maxDischargeDepth := 120) [FlowMod.enc]) (of2_c m hm) (by simp [FlowMod.enc]) ?_
    refine RunQ.eval ?_
    simp [FlowMod.enc]
    refine hQ _ _ ?_
    clear hQ hA
    repeat (first | refine WK.seq ?_ | refine WK.block ?_ | refine WK.inBlock ?_ | refine WK.skip ?_ | refine WK.label ?_ | refine WK.scope ?_ | refine WK.inScope ?_ | refine WK.exit rfl ?_)
    refine WK.ghost (Ghost.frzVar 4 rfl rfl) ?_
    repeat (first | refine WK.seq ?_ | refine WK.block ?_ | refine WK.inBlock ?_ | refine WK.skip ?_ | refine WK.label ?_ | refine WK.scope ?_ | refine WK.inScope ?_ | refine WK.exit rfl ?_)
    first | refine WK.reg 300 Tryz.ntmps29 (by kernel_rfl) ?_ | refine WK.regD 300 clsOf (by kernel_rfl) Tryz.ntmps29 (by kernel_rfl) (by kernel_rfl) ?_
    intro A hA Q hQ
    have hg6 : (A[6]?).bind (·.dst) = some 18 := by rw [hA]; rfl
    simp [chg, FlowMod.enc, hg6]
    refine RunQ.call rfl rfl rfl rfl (by rfl) (by simp (maxDischargeDepth := 120) [k1, hg6]) (strict_c m.flags) (by simp [k1, hg6]) ?_
    refine RunQ.eval ?_
    simp [k1, hg6]
    refine RunQ.callG rfl rfl (by simp [k2, hg6]) rfl (by rfl) (by simp (maxDischargeDepth := 120) [k2, hg6]) (hcf) (by simp [k2, hg6]) ?_
    refine RunQ.eval ?_
    simp [k2, hg6]
    refine hQ _ _ ?_
    clear hQ hA
    repeat (first | refine WK.seq ?_ | refine WK.block ?_ | refine WK.inBlock ?_ | refine WK.skip ?_ | refine WK.label ?_ | refine WK.scope ?_ | refine WK.inScope ?_ | refine WK.exit rfl ?_)
    refine WK.cond2 rfl (fun h => ?_) (fun h => ?_)
    · repeat (first | refine WK.seq ?_ | refine WK.block ?_ | refine WK.inBlock ?_ | refine WK.skip ?_ | refine WK.label ?_ | refine WK.scope ?_ | refine WK.inScope ?_ | refine WK.exit rfl ?_)
      first | refine WK.reg 400 Tryz.ntmps29 (by kernel_rfl) ?_ | refine WK.regD 400 clsOf (by kernel_rfl) Tryz.ntmps29 (by kernel_rfl) (by kernel_rfl) ?_
      intro A hA Q hQ
      simp
      refine RunQ.call rfl rfl rfl rfl (by rfl) (by simp (maxDischargeDepth := 120)) (tbad_c 3) (by simp) ?_
      refine RunQ.eval ?_
      simp
      refine hQ _ _ ?_
      clear hQ hA
      repeat (first | refine WK.seq ?_ | refine WK.block ?_ | refine WK.inBlock ?_ | refine WK.skip ?_ | refine WK.label ?_ | refine WK.scope ?_ | refine WK.inScope ?_ | refine WK.exit rfl ?_)
      refine WK.ret Tryz.func29 (by simp (maxDischargeDepth := 120) [Tryz.results29, e, F3.enc, flowL_nil]) (by simp [e, F3.enc, flowL_nil])
    · cases h
  case false =>
    refine FnP.intro Tryz.func29 rfl rfl fun G w => ?_
    repeat (first | refine WK.seq ?_ | refine WK.block ?_ | refine WK.inBlock ?_ | refine WK.skip ?_ | refine WK.label ?_ | refine WK.scope ?_ | refine WK.inScope ?_ | refine WK.exit rfl ?_)
    first | refine WK.reg 100 Tryz.ntmps29 (by kernel_rfl) ?_ | refine WK.regD 100 clsOf (by kernel_rfl) Tryz.ntmps29 (by kernel_rfl) (by kernel_rfl) ?_
    intro A hA Q hQ
    simp
    refine hQ _ _ ?_
    clear hQ hA
    repeat (first | refine WK.seq ?_ | refine WK.block ?_ | refine WK.inBlock ?_ | refine WK.skip ?_ | refine WK.label ?_ | refine WK.scope ?_ | refine WK.inScope ?_ | refine WK.exit rfl ?_)
    first | refine WK.reg 200 Tryz.ntmps29 (by kernel_rfl) ?_ | refine WK.regD 200 clsOf (by kernel_rfl) Tryz.ntmps29 (by kernel_rfl) (by kernel_rfl) ?_
    intro A hA Q hQ
    simp [chg, FlowMod.enc]
    refine RunQ.call rfl rfl rfl rfl (by rfl) (by simp (maxDischargeDepth := 120) [FlowMod.enc]) (of2_c m hm) (by simp [FlowMod.enc]) ?_
    refine RunQ.eval ?_
    simp [FlowMod.enc]
    refine hQ _ _ ?_
    clear hQ hA
    repeat (first | refine WK.seq ?_ | refine WK.block ?_ | refine WK.inBlock ?_ | refine WK.skip ?_ | refine WK.label ?_ | refine WK.scope ?_ | refine WK.inScope ?_ | refine WK.exit rfl ?_)
    refine WK.ghost (Ghost.frzVar 4 rfl rfl) ?_
    repeat (first | refine WK.seq ?_ | refine WK.block ?_ | refine WK.inBlock ?_ | refine WK.skip ?_ | refine WK.label ?_ | refine WK.scope ?_ | refine WK.inScope ?_ | refine WK.exit rfl ?_)
    apply WK.cut (⟨(upd (upd (upd (upd (upd J 0 (.iptr (chg m l))) 2 (.ptr 0 0)) 3 (.ptr 1 0)) 4 (.iptr (FlowMod.flow m).enc)) 25 (.bool false)), (upd (upd B0 0 (.var [.sl true 0 []])) 1 (.var F3.zero.enc)), 0⟩ : St)
    · intro hcut
      cases k2 : strictB m.flags
      · repeat (first | refine WK.seq ?_ | refine WK.block ?_ | refine WK.inBlock ?_ | refine WK.skip ?_ | refine WK.label ?_ | refine WK.scope ?_ | refine WK.inScope ?_ | refine WK.exit rfl ?_)
        first | refine WK.reg 300 Tryz.ntmps29 (by kernel_rfl) ?_ | refine WK.regD 300 clsOf (by kernel_rfl) Tryz.ntmps29 (by kernel_rfl) (by kernel_rfl) ?_
        intro A hA Q hQ
        have hg6 : (A[6]?).bind (·.dst) = some 18 := by rw [hA]; rfl
        simp [chg, FlowMod.enc, hg6]
        refine RunQ.call rfl rfl rfl rfl (by rfl) (by simp (maxDischargeDepth := 120) [k2, hg6]) (strict_c m.flags) (by simp [k2, hg6]) ?_
        refine RunQ.eval ?_
        simp [k2, hg6]
        refine hQ _ _ ?_
        clear hQ hA
        repeat (first | refine WK.seq ?_ | refine WK.block ?_ | refine WK.inBlock ?_ | refine WK.skip ?_ | refine WK.label ?_ | refine WK.scope ?_ | refine WK.inScope ?_ | refine WK.exit rfl ?_)
        refine WK.next (fun n => n) hcut (by repeat (first | exact TmW.nil | refine TmW.upd ?_ (by simp (maxDischargeDepth := 120) [chg, FlowMod.enc, F3.enc, F3.zero]))) (by repeat (first | exact BxW.nil | refine BxW.upd ?_ (by simp (maxDischargeDepth := 120) [chg, FlowMod.enc, F3.enc, F3.zero]))) (by first | exact InjW.id | exact InjW.nil | exact InjW.one | exact InjW.two (by simp) | exact InjW.three (by simp) (by simp) (by simp))
      · rw [k2, Bool.true_and] at k1
        repeat (first | refine WK.seq ?_ | refine WK.block ?_ | refine WK.inBlock ?_ | refine WK.skip ?_ | refine WK.label ?_ | refine WK.scope ?_ | refine WK.inScope ?_ | refine WK.exit rfl ?_)
        first | refine WK.reg 400 Tryz.ntmps29 (by kernel_rfl) ?_ | refine WK.regD 400 clsOf (by kernel_rfl) Tryz.ntmps29 (by kernel_rfl) (by kernel_rfl) ?_
        intro A hA Q hQ
        have hg6 : (A[6]?).bind (·.dst) = some 18 := by rw [hA]; rfl
        simp [chg, FlowMod.enc, hg6]
        refine RunQ.call rfl rfl rfl rfl (by rfl) (by simp (maxDischargeDepth := 120) [k2, hg6]) (strict_c m.flags) (by simp [k2, hg6]) ?_
        refine RunQ.eval ?_
        simp [k2, hg6]
        refine RunQ.callG rfl rfl (by simp [k1, hg6]) rfl (by rfl) (by simp (maxDischargeDepth := 120) [k1, hg6]) (hcf) (by simp [k1, hg6]) ?_
        refine RunQ.eval ?_
        simp [k1, hg6]
        refine hQ _ _ ?_
        clear hQ hA
        repeat (first | refine WK.seq ?_ | refine WK.block ?_ | refine WK.inBlock ?_ | refine WK.skip ?_ | refine WK.label ?_ | refine WK.scope ?_ | refine WK.inScope ?_ | refine WK.exit rfl ?_)
        refine WK.next (fun n => n) hcut (by repeat (first | exact TmW.nil | refine TmW.upd ?_ (by simp (maxDischargeDepth := 120) [chg, FlowMod.enc, F3.enc, F3.zero]))) (by repeat (first | exact BxW.nil | refine BxW.upd ?_ (by simp (maxDischargeDepth := 120) [chg, FlowMod.enc, F3.enc, F3.zero]))) (by first | exact InjW.id | exact InjW.nil | exact InjW.one | exact InjW.two (by simp) | exact InjW.three (by simp) (by simp) (by simp))
    repeat (first | refine WK.seq ?_ | refine WK.block ?_ | refine WK.inBlock ?_ | refine WK.skip ?_ | refine WK.label ?_ | refine WK.scope ?_ | refine WK.inScope ?_ | refine WK.exit rfl ?_)
    refine WK.cond2 rfl (fun h => ?_) (fun h => ?_)
    · cases h
    repeat (first | refine WK.seq ?_ | refine WK.block ?_ | refine WK.inBlock ?_ | refine WK.skip ?_ | refine WK.label ?_ | refine WK.scope ?_ | refine WK.inScope ?_ | refine WK.exit rfl ?_)
    first | refine WK.reg 500 Tryz.ntmps29 (by kernel_rfl) ?_ | refine WK.regD 500 clsOf (by kernel_rfl) Tryz.ntmps29 (by kernel_rfl) (by kernel_rfl) ?_
    intro A hA Q hQ
    simp [chg, FlowMod.enc]
    refine RunQ.callO 900 rfl rfl rfl (by simp [flowS]) (by rfl) (by simp (maxDischargeDepth := 120) [flowS]) (fresh_c l hl hf) (by simp [flowS]) (by simp [flowS]) (by simp [flowS]) ?_
    refine RunQ.eval ?_
    simp [flowS]
    refine hQ _ _ ?_
    clear hQ hA
    repeat (first | refine WK.seq ?_ | refine WK.block ?_ | refine WK.inBlock ?_ | refine WK.skip ?_ | refine WK.label ?_ | refine WK.scope ?_ | refine WK.inScope ?_ | refine WK.exit rfl ?_)
    first | refine WK.reg 600 Tryz.ntmps29 (by kernel_rfl) ?_ | refine WK.regD 600 clsOf (by kernel_rfl) Tryz.ntmps29 (by kernel_rfl) (by kernel_rfl) ?_
    intro A hA Q hQ
    simp [chg, FlowMod.enc]
    refine RunQ.call rfl rfl rfl rfl (by rfl) (by simp (maxDischargeDepth := 120) [flowS, FlowMod.enc]) (pOf_c m l) (by simp [flowS, FlowMod.enc]) ?_
    refine RunQ.eval ?_
    simp [flowS, FlowMod.enc]
    refine hQ _ _ ?_
    clear hQ hA
    repeat (first | refine WK.seq ?_ | refine WK.block ?_ | refine WK.inBlock ?_ | refine WK.skip ?_ | refine WK.label ?_ | refine WK.scope ?_ | refine WK.inScope ?_ | refine WK.exit rfl ?_)
    refine WK.next (st' := ⟨(upd (upd (upd (upd (upd J 2 (.ptr 0 0)) 3 (.ptr 1 0)) 4 (.iptr (FlowMod.flow m).enc)) 5 (.ptr 5 0)) 42 (.fn 78 [.iptr m.enc, .iptr [.sl false l.length (flowL l)]])), (fun i : Nat => (upd (upd (upd (upd B0 0 (.var [if i = 0 then .sl true 0 [] else .msl 900 0 l.length])) 1 (.var F3.zero.enc)) 5 (.var [.msl 900 0 l.length])) 900 (.buf 7 (flowL (if i = 0 then l else (tAdd l m).1))))) 0, 0⟩) (fun n => n) ?_ (by repeat (first | exact TmW.nil | refine TmW.upd ?_ (by simp (maxDischargeDepth := 120) [FlowMod.enc]))) (by repeat (first | exact BxW.nil | refine BxW.upd ?_ (by simp (maxDischargeDepth := 120) [FlowMod.enc]))) (by first | exact InjW.id | exact InjW.nil | exact InjW.one | exact InjW.two (by simp) | exact InjW.three (by simp) (by simp) (by simp))
    refine WK.rangeM (yInt (took m l)) (fun _ => false) (fun _ => some .ret) (fun i : Nat => (upd (upd (upd (upd B0 0 (.var [if i = 0 then .sl true 0 [] else .msl 900 0 l.length])) 1 (.var F3.zero.enc)) 5 (.var [.msl 900 0 l.length])) 900 (.buf 7 (flowL (if i = 0 then l else (tAdd l m).1))))) [0, 1, 5, 900] rfl (seqOf_c m l hm hl hf) (by simp [FlowMod.enc]) (by kernel_rfl) (hy) (fun i => by simp) (by simp) (by repeat (first | exact TmN.nil | refine TmN.upd ?_ (by simp [FlowMod.enc]))) (fun i x hx hgo lp rc kp E own G w hR => ?_) (fun r => ?_)
    · have hi0 : i = 0 := by
        by_cases h0 : i = 0
        · exact h0
        · have := hgo 0 (by omega); cases this
      subst hi0
      obtain ⟨h2, rfl⟩ := yInt_get hx
      obtain ⟨p, hp, hpl⟩ := took_pos (nth_mem h2)
      have e : (tAdd l m).1 = l.set p (FlowMod.flow m) := by
        unfold tAdd; rw [k1]
        cases hL : took m l with
        | nil => rw [hL] at h2; simp at h2
        | cons x xs => 
          rw [hL] at hp
          have hp' : x = (p : Int) := hp
          rw [hp']; rfl
      rw [hp]
      have e2 := flow_set l p (FlowMod.flow m) hpl
      have b1 : p * 7 + 7 ≤ l.length * 7 := by omega
      repeat (first | refine WK.seq ?_ | refine WK.block ?_ | refine WK.inBlock ?_ | refine WK.skip ?_ | refine WK.label ?_ | refine WK.scope ?_ | refine WK.inScope ?_ | refine WK.exit rfl ?_)
      first | refine WK.reg 700 Tryz.ntmps29 (by kernel_rfl) ?_ | refine WK.regD 700 clsOf (by kernel_rfl) Tryz.ntmps29 (by kernel_rfl) (by kernel_rfl) ?_
      intro A hA Q hQ
      simp
      refine hQ _ _ ?_
      clear hQ hA
      repeat (first | refine WK.seq ?_ | refine WK.block ?_ | refine WK.inBlock ?_ | refine WK.skip ?_ | refine WK.label ?_ | refine WK.scope ?_ | refine WK.inScope ?_ | refine WK.exit rfl ?_)
      refine WK.beginL hR ?_
      repeat (first | refine WK.seq ?_ | refine WK.block ?_ | refine WK.inBlock ?_ | refine WK.skip ?_ | refine WK.label ?_ | refine WK.scope ?_ | refine WK.inScope ?_ | refine WK.exit rfl ?_)
      first | refine WK.reg 800 Tryz.ntmps29 (by kernel_rfl) ?_ | refine WK.regD 800 clsOf (by kernel_rfl) Tryz.ntmps29 (by kernel_rfl) (by kernel_rfl) ?_
      intro A hA Q hQ
      simp [hpl, b1]
      refine hQ _ _ ?_
      clear hQ hA
      repeat (first | refine WK.seq ?_ | refine WK.block ?_ | refine WK.inBlock ?_ | refine WK.skip ?_ | refine WK.label ?_ | refine WK.scope ?_ | refine WK.inScope ?_ | refine WK.exit rfl ?_)
      first | refine WK.reg 900 Tryz.ntmps29 (by kernel_rfl) ?_ | refine WK.regD 900 clsOf (by kernel_rfl) Tryz.ntmps29 (by kernel_rfl) (by kernel_rfl) ?_
      intro A hA Q hQ
      simp
      refine hQ _ _ ?_
      clear hQ hA
      repeat (first | refine WK.seq ?_ | refine WK.block ?_ | refine WK.inBlock ?_ | refine WK.skip ?_ | refine WK.label ?_ | refine WK.scope ?_ | refine WK.inScope ?_ | refine WK.exit rfl ?_)
      refine WK.roundRet (fun n => n) hR rfl rfl (by repeat (first | exact BxW.nil | refine BxW.upd ?_ (by simp [e, e2, F3.zeroE]))) InjW.id (by simp)
    · rw [yInt_len, takenF]
      cases hL : took m l with
      | nil =>
        simp only [List.length_nil, if_true, jumpAt]
        by_cases h8 : 8 ≤ l.length
        · have e : tAdd l m = ([], ⟨true, 5, 1⟩) := by unfold tAdd; rw [k1, hL]; simp [h8]
          repeat (first | refine WK.seq ?_ | refine WK.block ?_ | refine WK.inBlock ?_ | refine WK.skip ?_ | refine WK.label ?_ | refine WK.scope ?_ | refine WK.inScope ?_ | refine WK.exit rfl ?_)
          first | refine WK.reg 1000 Tryz.ntmps29 (by kernel_rfl) ?_ | refine WK.regD 1000 clsOf (by kernel_rfl) Tryz.ntmps29 (by kernel_rfl) (by kernel_rfl) ?_
          intro A hA Q hQ
          simp [h8]
          refine hQ _ _ ?_
          clear hQ hA
          repeat (first | refine WK.seq ?_ | refine WK.block ?_ | refine WK.inBlock ?_ | refine WK.skip ?_ | refine WK.label ?_ | refine WK.scope ?_ | refine WK.inScope ?_ | refine WK.exit rfl ?_)
          refine WK.cond2 rfl (fun hh => ?_) (fun hh => ?_)
          · repeat (first | refine WK.seq ?_ | refine WK.block ?_ | refine WK.inBlock ?_ | refine WK.skip ?_ | refine WK.label ?_ | refine WK.scope ?_ | refine WK.inScope ?_ | refine WK.exit rfl ?_)
            first | refine WK.reg 1100 Tryz.ntmps29 (by kernel_rfl) ?_ | refine WK.regD 1100 clsOf (by kernel_rfl) Tryz.ntmps29 (by kernel_rfl) (by kernel_rfl) ?_
            intro A hA Q hQ
            simp
            refine RunQ.call rfl rfl rfl rfl (by rfl) (by simp (maxDischargeDepth := 120)) (tbad_c 1) (by simp) ?_
            refine RunQ.eval ?_
            simp
            refine hQ _ _ ?_
            clear hQ hA
            repeat (first | refine WK.seq ?_ | refine WK.block ?_ | refine WK.inBlock ?_ | refine WK.skip ?_ | refine WK.label ?_ | refine WK.scope ?_ | refine WK.inScope ?_ | refine WK.exit rfl ?_)
            refine WK.ret Tryz.func29 (by simp (maxDischargeDepth := 120) [Tryz.results29, e, F3.enc, flowL_nil]) (by simp [e, F3.enc, flowL_nil])
          · simp at hh; omega
        · have hb3 : (l.length + 1) * 88 ≤ 140737488355328 := by omega
          have e : tAdd l m = (l ++ [FlowMod.flow m], F3.zero) := by unfold tAdd; rw [k1, hL]; simp [h8]
          repeat (first | refine WK.seq ?_ | refine WK.block ?_ | refine WK.inBlock ?_ | refine WK.skip ?_ | refine WK.label ?_ | refine WK.scope ?_ | refine WK.inScope ?_ | refine WK.exit rfl ?_)
          first | refine WK.reg 1200 Tryz.ntmps29 (by kernel_rfl) ?_ | refine WK.regD 1200 clsOf (by kernel_rfl) Tryz.ntmps29 (by kernel_rfl) (by kernel_rfl) ?_
          intro A hA Q hQ
          simp [h8]
          refine hQ _ _ ?_
          clear hQ hA
          repeat (first | refine WK.seq ?_ | refine WK.block ?_ | refine WK.inBlock ?_ | refine WK.skip ?_ | refine WK.label ?_ | refine WK.scope ?_ | refine WK.inScope ?_ | refine WK.exit rfl ?_)
          refine WK.cond2 rfl (fun hh => ?_) (fun hh => ?_)
          · simp at hh; omega
          repeat (first | refine WK.seq ?_ | refine WK.block ?_ | refine WK.inBlock ?_ | refine WK.skip ?_ | refine WK.label ?_ | refine WK.scope ?_ | refine WK.inScope ?_ | refine WK.exit rfl ?_)
          first | refine WK.reg 1300 Tryz.ntmps29 (by kernel_rfl) ?_ | refine WK.regD 1300 clsOf (by kernel_rfl) Tryz.ntmps29 (by kernel_rfl) (by kernel_rfl) ?_
          intro A hA Q hQ
          simp
          refine RunQ.append 901 appFlow rfl rfl rfl rfl rfl rfl rfl (by simp [hb3]) rfl (by simp [hb3]) (by simp [hb3]) (by simp [hb3]) (by simp [hb3]) ?_
          refine RunQ.eval ?_
          simp [hb3]
          refine hQ _ _ ?_
          clear hQ hA
          have hT : (flowL l ++ (FlowMod.flow m).enc).take ((l.length + 1) * 7) = flowL l ++ (FlowMod.flow m).enc := List.take_of_length_le (by simp; omega)
          repeat (first | refine WK.seq ?_ | refine WK.block ?_ | refine WK.inBlock ?_ | refine WK.skip ?_ | refine WK.label ?_ | refine WK.scope ?_ | refine WK.inScope ?_ | refine WK.exit rfl ?_)
          refine WK.ghost (Ghost.frzCell 0 0 901 _ 7 rfl rfl rfl (by decide)) ?_
          repeat (first | refine WK.seq ?_ | refine WK.block ?_ | refine WK.inBlock ?_ | refine WK.skip ?_ | refine WK.label ?_ | refine WK.scope ?_ | refine WK.inScope ?_ | refine WK.exit rfl ?_)
          refine WK.ret Tryz.func29 (by simp (maxDischargeDepth := 120) [Tryz.results29, e, hT, F3.zeroE, flowL_app, flowL_one]) (by simp [e, hT, F3.zeroE, flowL_app, flowL_one])
      | cons x xs =>
        simp only [List.length_cons, Nat.succ_ne_zero, if_false, jumpAt, Nat.add_one_ne_zero]
        have e : (tAdd l m).2 = F3.zero ∧ (tAdd l m).1.length = l.length := by unfold tAdd; rw [k1, hL]; simp
        repeat (first | refine WK.seq ?_ | refine WK.block ?_ | refine WK.inBlock ?_ | refine WK.skip ?_ | refine WK.label ?_ | refine WK.scope ?_ | refine WK.inScope ?_ | refine WK.exit rfl ?_)
        refine WK.ghost (Ghost.frzCell 0 0 900 _ 7 rfl rfl rfl (by decide)) ?_
        repeat (first | refine WK.seq ?_ | refine WK.block ?_ | refine WK.inBlock ?_ | refine WK.skip ?_ | refine WK.label ?_ | refine WK.scope ?_ | refine WK.inScope ?_ | refine WK.exit rfl ?_)
        refine WK.ret Tryz.func29 (by simp (maxDischargeDepth := 120) [Tryz.results29, flow_full, e.1, e.2]) (by simp [flow_full, e.1, e.2])
end Go.Proofs.YtbncoeoamjcjjaaGreat
