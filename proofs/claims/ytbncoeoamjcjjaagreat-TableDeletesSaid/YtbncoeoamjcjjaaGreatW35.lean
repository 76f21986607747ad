/- Tables: whether one may be. -/
import Derived.Test.YtbncoeoamjcjjaaGreatW34
set_option linter.all false
set_option linter.unnecessarySimpa false
set_option linter.unusedVariables false
set_option linter.unusedSimpArgs false
namespace Go.Proofs.YtbncoeoamjcjjaaGreat
open Go Go.AI Go.Proofs

def badPair (f g : Flow) : Bool := Flow.alike f g || (strictB f.flags && Flow.overlap f g)
def rightRow (l : List Flow) (i : Nat) : Bool := (List.range i).all fun j => !badPair (nth l i) (nth l j)
def rightRows (l : List Flow) : Bool := (List.range l.length).all fun i => rightRow l i
def tRight (l : List Flow) : Bool := decide (l.length ≤ 8) && rightRows l
theorem flow_pre (l : List Flow) (i : Nat) : (flowL l).take (i * 7) = flowL (l.take i) := fm_take Flow.len l i
theorem flow_get4 (l : List Flow) (i : Nat) (h : i < l.length) (h' : i * 7 + 4 < (flowL l).length) : (flowL l)[i * 7 + 4] = .int .i64 (nth l i).flags := fm_get Flow.len l i 4 h (by omega) h'
theorem nth_take {α : Type} [Inhabited α] (l : List α) (i j : Nat) (h : j < i) : nth (l.take i) j = nth l j := by
  unfold nth; rw [List.getD_eq_getElem?_getD, List.getElem?_take, if_pos h, List.getD_eq_getElem?_getD]
theorem row_true {l : List Flow} {i : Nat} (h : ∀ j, j < i → badPair (nth l i) (nth l j) = false) : rightRow l i = true := by
  unfold rightRow; rw [List.all_eq_true]; intro j hj; rw [h j (List.mem_range.1 hj)]; rfl
theorem row_false {l : List Flow} {i j : Nat} (hj : j < i) (h : badPair (nth l i) (nth l j) = true) : rightRow l i = false := all_range_false (p := fun j => !badPair (nth l i) (nth l j)) hj (by rw [h]; rfl)
theorem rows_true {l : List Flow} (h : ∀ i, i < l.length → rightRow l i = true) : rightRows l = true := by
  unfold rightRows; rw [List.all_eq_true]; intro j hj; exact h j (List.mem_range.1 hj)
theorem rows_false {l : List Flow} {i : Nat} (hi : i < l.length) (h : rightRow l i = false) : rightRows l = false := all_range_false (p := fun i => rightRow l i) hi h
set_option maxHeartbeats 2000000 in
theorem tright_c (l : List Flow) (hf : ∀ f, f ∈ l → FOk f) : FnP Tryz.prog 12 [flowS l] (.bool (tRight l)) := by
  unfold flowS
  by_cases h8 : l.length ≤ 8
  case neg =>
    have e : tRight l = false := by unfold tRight; rw [decide_eq_false h8]; rfl
    refine FnP.intro Tryz.func12 rfl rfl fun G w => ?_
    repeat (first | refine WK.seq ?_ | refine WK.block ?_ | refine WK.inBlock ?_ | refine WK.skip ?_ | refine WK.label ?_ | refine WK.scope ?_ | refine WK.inScope ?_ | refine WK.exit rfl ?_)
    first | refine WK.reg 100 Tryz.ntmps12 (by kernel_rfl) ?_ | refine WK.regD 100 clsOf (by kernel_rfl) Tryz.ntmps12 (by kernel_rfl) (by kernel_rfl) ?_
    intro A hA Q hQ
    simp
    refine hQ _ _ ?_
    clear hQ hA
    repeat (first | refine WK.seq ?_ | refine WK.block ?_ | refine WK.inBlock ?_ | refine WK.skip ?_ | refine WK.label ?_ | refine WK.scope ?_ | refine WK.inScope ?_ | refine WK.exit rfl ?_)
    first | refine WK.reg 200 Tryz.ntmps12 (by kernel_rfl) ?_ | refine WK.regD 200 clsOf (by kernel_rfl) Tryz.ntmps12 (by kernel_rfl) (by kernel_rfl) ?_
    intro A hA Q hQ
    simp
    refine hQ _ _ ?_
    clear hQ hA
    repeat (first | refine WK.seq ?_ | refine WK.block ?_ | refine WK.inBlock ?_ | refine WK.skip ?_ | refine WK.label ?_ | refine WK.scope ?_ | refine WK.inScope ?_ | refine WK.exit rfl ?_)
    refine WK.cond2 rfl (fun h => ?_) (fun h => ?_)
    · repeat (first | refine WK.seq ?_ | refine WK.block ?_ | refine WK.inBlock ?_ | refine WK.skip ?_ | refine WK.label ?_ | refine WK.scope ?_ | refine WK.inScope ?_ | refine WK.exit rfl ?_)
      first | refine WK.reg 300 Tryz.ntmps12 (by kernel_rfl) ?_ | refine WK.regD 300 clsOf (by kernel_rfl) Tryz.ntmps12 (by kernel_rfl) (by kernel_rfl) ?_
      intro A hA Q hQ
      simp
      refine hQ _ _ ?_
      clear hQ hA
      repeat (first | refine WK.seq ?_ | refine WK.block ?_ | refine WK.inBlock ?_ | refine WK.skip ?_ | refine WK.label ?_ | refine WK.scope ?_ | refine WK.inScope ?_ | refine WK.exit rfl ?_)
      refine WK.ret Tryz.func12 (by simp (maxDischargeDepth := 120) [Tryz.results12, e]) (by simp [e])
    · simp at h; omega
  have e0 : tRight l = rightRows l := by unfold tRight; rw [decide_eq_true h8]; rfl
  refine FnP.intro Tryz.func12 rfl rfl fun G w => ?_
  repeat (first | refine WK.seq ?_ | refine WK.block ?_ | refine WK.inBlock ?_ | refine WK.skip ?_ | refine WK.label ?_ | refine WK.scope ?_ | refine WK.inScope ?_ | refine WK.exit rfl ?_)
  first | refine WK.reg 100 Tryz.ntmps12 (by kernel_rfl) ?_ | refine WK.regD 100 clsOf (by kernel_rfl) Tryz.ntmps12 (by kernel_rfl) (by kernel_rfl) ?_
  intro A hA Q hQ
  simp
  refine hQ _ _ ?_
  clear hQ hA
  repeat (first | refine WK.seq ?_ | refine WK.block ?_ | refine WK.inBlock ?_ | refine WK.skip ?_ | refine WK.label ?_ | refine WK.scope ?_ | refine WK.inScope ?_ | refine WK.exit rfl ?_)
  first | refine WK.reg 200 Tryz.ntmps12 (by kernel_rfl) ?_ | refine WK.regD 200 clsOf (by kernel_rfl) Tryz.ntmps12 (by kernel_rfl) (by kernel_rfl) ?_
  intro A hA Q hQ
  simp
  refine hQ _ _ ?_
  clear hQ hA
  repeat (first | refine WK.seq ?_ | refine WK.block ?_ | refine WK.inBlock ?_ | refine WK.skip ?_ | refine WK.label ?_ | refine WK.scope ?_ | refine WK.inScope ?_ | refine WK.exit rfl ?_)
  refine WK.cond2 rfl (fun h => ?_) (fun h => ?_)
  · simp at h; omega
  repeat (first | refine WK.seq ?_ | refine WK.block ?_ | refine WK.inBlock ?_ | refine WK.skip ?_ | refine WK.label ?_ | refine WK.scope ?_ | refine WK.inScope ?_ | refine WK.exit rfl ?_)
  first | refine WK.reg 300 Tryz.ntmps12 (by kernel_rfl) ?_ | refine WK.regD 300 clsOf (by kernel_rfl) Tryz.ntmps12 (by kernel_rfl) (by kernel_rfl) ?_
  intro A hA Q hQ
  simp
  refine hQ _ _ ?_
  clear hQ hA
  repeat (first | refine WK.seq ?_ | refine WK.block ?_ | refine WK.inBlock ?_ | refine WK.skip ?_ | refine WK.label ?_ | refine WK.scope ?_ | refine WK.inScope ?_ | refine WK.exit rfl ?_)
  refine WK.loopI (fun n => n) (fun i : Nat => (⟨(upd (upd (upd (upd J 0 (.sl false l.length (flowL l))) 10 (.sl false l.length (flowL l))) 11 (.int .i64 l.length)) 12 (.int .i64 i)), B0, 0⟩ : St)) (fun i => i ≤ l.length ∧ ∀ k, k < i → rightRow l k = true) (fun i => l.length - i) (0) (by repeat (first | exact TmW.nil | refine TmW.upd ?_ (by simp (maxDischargeDepth := 120)))) (by repeat (first | exact BxW.nil | refine BxW.upd ?_ (by simp (maxDischargeDepth := 120)))) (by first | exact InjW.id | exact InjW.nil | exact InjW.one | exact InjW.two (by simp) | exact InjW.three (by simp) (by simp) (by simp)) (⟨by omega, by simp⟩) (fun i hi IH => ?_)
  repeat (first | refine WK.seq ?_ | refine WK.block ?_ | refine WK.inBlock ?_ | refine WK.skip ?_ | refine WK.label ?_ | refine WK.scope ?_ | refine WK.inScope ?_ | refine WK.exit rfl ?_)
  first | refine WK.reg 400 Tryz.ntmps12 (by kernel_rfl) ?_ | refine WK.regD 400 clsOf (by kernel_rfl) Tryz.ntmps12 (by kernel_rfl) (by kernel_rfl) ?_
  intro A hA Q hQ
  simp
  refine hQ _ _ ?_
  clear hQ hA
  repeat (first | refine WK.seq ?_ | refine WK.block ?_ | refine WK.inBlock ?_ | refine WK.skip ?_ | refine WK.label ?_ | refine WK.scope ?_ | refine WK.inScope ?_ | refine WK.exit rfl ?_)
  refine WK.cond2 rfl (fun h1 => ?_) (fun h1 => ?_)
  · simp at h1
    have h2 : i < l.length := by omega
    have h3 : 7 ≤ l.length * 7 - i * 7 := by omega
    have h4 := flow_sub l i h2
    have h6 : IntKind.i64.wrap ((i : Int) + 1) = i + 1 := wrap_i64 (by omega) (by omega)
    have h7 := flow_pre l i
    have h8' : i ≤ l.length := by omega
    obtain ⟨g, hg⟩ : ∃ g, g = nth l i := ⟨_, rfl⟩
    have hgo : FOk g := by rw [hg]; exact hf _ (nth_mem h2)
    rw [← hg] at h4
    repeat (first | refine WK.seq ?_ | refine WK.block ?_ | refine WK.inBlock ?_ | refine WK.skip ?_ | refine WK.label ?_ | refine WK.scope ?_ | refine WK.inScope ?_ | refine WK.exit rfl ?_)
    first | refine WK.reg 500 Tryz.ntmps12 (by kernel_rfl) ?_ | refine WK.regD 500 clsOf (by kernel_rfl) Tryz.ntmps12 (by kernel_rfl) (by kernel_rfl) ?_
    intro A hA Q hQ
    simp [h2, h3, h4]
    refine hQ _ _ ?_
    clear hQ hA
    repeat (first | refine WK.seq ?_ | refine WK.block ?_ | refine WK.inBlock ?_ | refine WK.skip ?_ | refine WK.label ?_ | refine WK.scope ?_ | refine WK.inScope ?_ | refine WK.exit rfl ?_)
    refine WK.ghost (Ghost.frzVar 4 rfl rfl) ?_
    repeat (first | refine WK.seq ?_ | refine WK.block ?_ | refine WK.inBlock ?_ | refine WK.skip ?_ | refine WK.label ?_ | refine WK.scope ?_ | refine WK.inScope ?_ | refine WK.exit rfl ?_)
    first | refine WK.reg 600 Tryz.ntmps12 (by kernel_rfl) ?_ | refine WK.regD 600 clsOf (by kernel_rfl) Tryz.ntmps12 (by kernel_rfl) (by kernel_rfl) ?_
    intro A hA Q hQ
    simp [h7, h8']
    refine hQ _ _ ?_
    clear hQ hA
    repeat (first | refine WK.seq ?_ | refine WK.block ?_ | refine WK.inBlock ?_ | refine WK.skip ?_ | refine WK.label ?_ | refine WK.scope ?_ | refine WK.inScope ?_ | refine WK.exit rfl ?_)
    refine WK.loopI (fun n => n) (fun j : Nat => (⟨(upd (upd (upd (upd (upd (upd (upd (upd J 0 (.sl false l.length (flowL l))) 4 (.iptr g.enc)) 10 (.sl false l.length (flowL l))) 11 (.int .i64 l.length)) 12 (.int .i64 i)) 19 (.sl false i (flowL (l.take i)))) 20 (.int .i64 i)) 21 (.int .i64 j)), B0, 0⟩ : St)) (fun j => j ≤ i ∧ ∀ k, k < j → badPair (nth l i) (nth l k) = false) (fun j => i - j) (0) (by repeat (first | exact TmW.nil | refine TmW.upd ?_ (by simp (maxDischargeDepth := 120) [h7]))) (by repeat (first | exact BxW.nil | refine BxW.upd ?_ (by simp (maxDischargeDepth := 120) [h7]))) (by first | exact InjW.id | exact InjW.nil | exact InjW.one | exact InjW.two (by simp) | exact InjW.three (by simp) (by simp) (by simp)) (⟨by omega, by simp⟩) (fun j hj IHj => ?_)
    repeat (first | refine WK.seq ?_ | refine WK.block ?_ | refine WK.inBlock ?_ | refine WK.skip ?_ | refine WK.label ?_ | refine WK.scope ?_ | refine WK.inScope ?_ | refine WK.exit rfl ?_)
    first | refine WK.reg 700 Tryz.ntmps12 (by kernel_rfl) ?_ | refine WK.regD 700 clsOf (by kernel_rfl) Tryz.ntmps12 (by kernel_rfl) (by kernel_rfl) ?_
    intro A hA Q hQ
    simp
    refine hQ _ _ ?_
    clear hQ hA
    repeat (first | refine WK.seq ?_ | refine WK.block ?_ | refine WK.inBlock ?_ | refine WK.skip ?_ | refine WK.label ?_ | refine WK.scope ?_ | refine WK.inScope ?_ | refine WK.exit rfl ?_)
    refine WK.cond2 rfl (fun h1 => ?_) (fun h1 => ?_)
    · simp at h1
      have j2 : j < i := by omega
      have j2' : j < (l.take i).length := by rw [List.length_take]; omega
      have j3 : 7 ≤ i * 7 - j * 7 := by omega
      have j4 := flow_sub (l.take i) j j2'
      rw [nth_take l i j j2] at j4
      have j5 : (flowL (l.take i)).length = i * 7 := by rw [flowL_len, List.length_take]; congr 1; omega
      have j6 : IntKind.i64.wrap ((j : Int) + 1) = j + 1 := wrap_i64 (by omega) (by omega)
      have hjo : FOk (nth l j) := hf _ (nth_mem (by omega))
      repeat (first | refine WK.seq ?_ | refine WK.block ?_ | refine WK.inBlock ?_ | refine WK.skip ?_ | refine WK.label ?_ | refine WK.scope ?_ | refine WK.inScope ?_ | refine WK.exit rfl ?_)
      first | refine WK.reg 800 Tryz.ntmps12 (by kernel_rfl) ?_ | refine WK.regD 800 clsOf (by kernel_rfl) Tryz.ntmps12 (by kernel_rfl) (by kernel_rfl) ?_
      intro A hA Q hQ
      simp [j2, j3, j4, j5]
      refine hQ _ _ ?_
      clear hQ hA
      repeat (first | refine WK.seq ?_ | refine WK.block ?_ | refine WK.inBlock ?_ | refine WK.skip ?_ | refine WK.label ?_ | refine WK.scope ?_ | refine WK.inScope ?_ | refine WK.exit rfl ?_)
      apply WK.cut (⟨(upd (upd (upd (upd (upd (upd (upd (upd (upd J 0 (.sl false l.length (flowL l))) 4 (.iptr g.enc)) 10 (.sl false l.length (flowL l))) 11 (.int .i64 l.length)) 12 (.int .i64 i)) 19 (.sl false i (flowL (l.take i)))) 20 (.int .i64 i)) 21 (.int .i64 j)) 37 (.bool (badPair g (nth l j)))), B0, 0⟩ : St)
      · intro hcut
        cases k1 : Flow.alike g (nth l j)
        · cases k2 : strictB g.flags
          · have e : badPair g (nth l j) = false := by unfold badPair; rw [k1, k2]; rfl
            repeat (first | refine WK.seq ?_ | refine WK.block ?_ | refine WK.inBlock ?_ | refine WK.skip ?_ | refine WK.label ?_ | refine WK.scope ?_ | refine WK.inScope ?_ | refine WK.exit rfl ?_)
            first | refine WK.reg 900 Tryz.ntmps12 (by kernel_rfl) ?_ | refine WK.regD 900 clsOf (by kernel_rfl) Tryz.ntmps12 (by kernel_rfl) (by kernel_rfl) ?_
            intro A hA Q hQ
            have hg3 : (A[3]?).bind (·.dst) = some 28 := by rw [hA]; rfl
            have hg7 : (A[7]?).bind (·.dst) = some 32 := by rw [hA]; rfl
            simp [Flow.enc, hg3, hg7]
            refine RunQ.call rfl rfl rfl rfl (by rfl) (by simp (maxDischargeDepth := 120) [Flow.enc, k1, hg3, hg7]) (alike_c g (nth l j) hgo hjo) (by simp [Flow.enc, k1, hg3, hg7]) ?_
            refine RunQ.eval ?_
            simp [Flow.enc, k1, hg3, hg7]
            refine RunQ.callG rfl rfl (by simp [k2, hg3, hg7]) rfl (by rfl) (by simp (maxDischargeDepth := 120) [k2, hg3, hg7]) (strict_c g.flags) (by simp [k2, hg3, hg7]) ?_
            refine RunQ.eval ?_
            simp [k2, hg3, hg7]
            refine hQ _ _ ?_
            clear hQ hA
            repeat (first | refine WK.seq ?_ | refine WK.block ?_ | refine WK.inBlock ?_ | refine WK.skip ?_ | refine WK.label ?_ | refine WK.scope ?_ | refine WK.inScope ?_ | refine WK.exit rfl ?_)
            refine WK.next (fun n => n) hcut (by repeat (first | exact TmW.nil | refine TmW.upd ?_ (by simp (maxDischargeDepth := 120) [e, Flow.enc]))) (by repeat (first | exact BxW.nil | refine BxW.upd ?_ (by simp (maxDischargeDepth := 120) [e, Flow.enc]))) (by first | exact InjW.id | exact InjW.nil | exact InjW.one | exact InjW.two (by simp) | exact InjW.three (by simp) (by simp) (by simp))
          · have e : badPair g (nth l j) = Flow.overlap g (nth l j) := by unfold badPair; rw [k1, k2]; rfl
            repeat (first | refine WK.seq ?_ | refine WK.block ?_ | refine WK.inBlock ?_ | refine WK.skip ?_ | refine WK.label ?_ | refine WK.scope ?_ | refine WK.inScope ?_ | refine WK.exit rfl ?_)
            first | refine WK.reg 1000 Tryz.ntmps12 (by kernel_rfl) ?_ | refine WK.regD 1000 clsOf (by kernel_rfl) Tryz.ntmps12 (by kernel_rfl) (by kernel_rfl) ?_
            intro A hA Q hQ
            have hg3 : (A[3]?).bind (·.dst) = some 28 := by rw [hA]; rfl
            have hg7 : (A[7]?).bind (·.dst) = some 32 := by rw [hA]; rfl
            simp [Flow.enc, hg3, hg7]
            refine RunQ.call rfl rfl rfl rfl (by rfl) (by simp (maxDischargeDepth := 120) [Flow.enc, k1, hg3, hg7]) (alike_c g (nth l j) hgo hjo) (by simp [Flow.enc, k1, hg3, hg7]) ?_
            refine RunQ.eval ?_
            simp [Flow.enc, k1, hg3, hg7]
            refine RunQ.callG rfl rfl (by simp [k2, hg3, hg7]) rfl (by rfl) (by simp (maxDischargeDepth := 120) [k2, hg3, hg7]) (strict_c g.flags) (by simp [k2, hg3, hg7]) ?_
            refine RunQ.eval ?_
            simp [k2, hg3, hg7]
            refine RunQ.callG rfl rfl (by simp [Flow.enc, hg3, hg7]) rfl (by rfl) (by simp (maxDischargeDepth := 120) [Flow.enc, hg3, hg7]) (overlap_c g (nth l j) hgo hjo) (by simp [Flow.enc, hg3, hg7]) ?_
            refine RunQ.eval ?_
            simp [Flow.enc, hg3, hg7]
            refine hQ _ _ ?_
            clear hQ hA
            repeat (first | refine WK.seq ?_ | refine WK.block ?_ | refine WK.inBlock ?_ | refine WK.skip ?_ | refine WK.label ?_ | refine WK.scope ?_ | refine WK.inScope ?_ | refine WK.exit rfl ?_)
            refine WK.next (fun n => n) hcut (by repeat (first | exact TmW.nil | refine TmW.upd ?_ (by simp (maxDischargeDepth := 120) [e, Flow.enc]))) (by repeat (first | exact BxW.nil | refine BxW.upd ?_ (by simp (maxDischargeDepth := 120) [e, Flow.enc]))) (by first | exact InjW.id | exact InjW.nil | exact InjW.one | exact InjW.two (by simp) | exact InjW.three (by simp) (by simp) (by simp))
        · have e : badPair g (nth l j) = true := by unfold badPair; rw [k1]; rfl
          repeat (first | refine WK.seq ?_ | refine WK.block ?_ | refine WK.inBlock ?_ | refine WK.skip ?_ | refine WK.label ?_ | refine WK.scope ?_ | refine WK.inScope ?_ | refine WK.exit rfl ?_)
          first | refine WK.reg 1100 Tryz.ntmps12 (by kernel_rfl) ?_ | refine WK.regD 1100 clsOf (by kernel_rfl) Tryz.ntmps12 (by kernel_rfl) (by kernel_rfl) ?_
          intro A hA Q hQ
          have hg3 : (A[3]?).bind (·.dst) = some 28 := by rw [hA]; rfl
          have hg7 : (A[7]?).bind (·.dst) = some 32 := by rw [hA]; rfl
          simp [Flow.enc, hg3, hg7]
          refine RunQ.call rfl rfl rfl rfl (by rfl) (by simp (maxDischargeDepth := 120) [Flow.enc, k1, hg3, hg7]) (alike_c g (nth l j) hgo hjo) (by simp [Flow.enc, k1, hg3, hg7]) ?_
          refine RunQ.eval ?_
          simp [Flow.enc, k1, hg3, hg7]
          refine hQ _ _ ?_
          clear hQ hA
          repeat (first | refine WK.seq ?_ | refine WK.block ?_ | refine WK.inBlock ?_ | refine WK.skip ?_ | refine WK.label ?_ | refine WK.scope ?_ | refine WK.inScope ?_ | refine WK.exit rfl ?_)
          refine WK.next (fun n => n) hcut (by repeat (first | exact TmW.nil | refine TmW.upd ?_ (by simp (maxDischargeDepth := 120) [e, Flow.enc]))) (by repeat (first | exact BxW.nil | refine BxW.upd ?_ (by simp (maxDischargeDepth := 120) [e, Flow.enc]))) (by first | exact InjW.id | exact InjW.nil | exact InjW.one | exact InjW.two (by simp) | exact InjW.three (by simp) (by simp) (by simp))
      repeat (first | refine WK.seq ?_ | refine WK.block ?_ | refine WK.inBlock ?_ | refine WK.skip ?_ | refine WK.label ?_ | refine WK.scope ?_ | refine WK.inScope ?_ | refine WK.exit rfl ?_)
      refine WK.cond2 rfl (fun h => ?_) (fun h => ?_)
      · rw [hg] at h
        have e := rows_false h2 (row_false j2 h)
        repeat (first | refine WK.seq ?_ | refine WK.block ?_ | refine WK.inBlock ?_ | refine WK.skip ?_ | refine WK.label ?_ | refine WK.scope ?_ | refine WK.inScope ?_ | refine WK.exit rfl ?_)
        first | refine WK.reg 1200 Tryz.ntmps12 (by kernel_rfl) ?_ | refine WK.regD 1200 clsOf (by kernel_rfl) Tryz.ntmps12 (by kernel_rfl) (by kernel_rfl) ?_
        intro A hA Q hQ
        simp
        refine hQ _ _ ?_
        clear hQ hA
        repeat (first | refine WK.seq ?_ | refine WK.block ?_ | refine WK.inBlock ?_ | refine WK.skip ?_ | refine WK.label ?_ | refine WK.scope ?_ | refine WK.inScope ?_ | refine WK.exit rfl ?_)
        refine WK.ret Tryz.func12 (by simp (maxDischargeDepth := 120) [Tryz.results12, e0, e]) (by simp [e0, e])
      · rw [hg] at h
        repeat (first | refine WK.seq ?_ | refine WK.block ?_ | refine WK.inBlock ?_ | refine WK.skip ?_ | refine WK.label ?_ | refine WK.scope ?_ | refine WK.inScope ?_ | refine WK.exit rfl ?_)
        first | refine WK.reg 1300 Tryz.ntmps12 (by kernel_rfl) ?_ | refine WK.regD 1300 clsOf (by kernel_rfl) Tryz.ntmps12 (by kernel_rfl) (by kernel_rfl) ?_
        intro A hA Q hQ
        simp [j6]
        refine hQ _ _ ?_
        clear hQ hA
        repeat (first | refine WK.seq ?_ | refine WK.block ?_ | refine WK.inBlock ?_ | refine WK.skip ?_ | refine WK.label ?_ | refine WK.scope ?_ | refine WK.inScope ?_ | refine WK.exit rfl ?_)
        refine WK.next (fun n => n) (IHj (j + 1) (⟨by omega, fun k hk => by by_cases h7 : k = j; (subst h7; exact h); exact hj.2 k (by omega)⟩) (by first | omega | (dsimp only; omega))) (by repeat (first | exact TmW.nil | refine TmW.upd ?_ (by simp (maxDischargeDepth := 120) [j6]))) (by repeat (first | exact BxW.nil | refine BxW.upd ?_ (by simp (maxDischargeDepth := 120) [j6]))) (by first | exact InjW.id | exact InjW.nil | exact InjW.one | exact InjW.two (by simp) | exact InjW.three (by simp) (by simp) (by simp))
    · simp at h1
      have hji : j = i := by omega
      have hr := row_true (l := l) (i := i) (fun k hk => hj.2 k (by omega))
      repeat (first | refine WK.seq ?_ | refine WK.block ?_ | refine WK.inBlock ?_ | refine WK.skip ?_ | refine WK.label ?_ | refine WK.scope ?_ | refine WK.inScope ?_ | refine WK.exit rfl ?_)
      first | refine WK.reg 1400 Tryz.ntmps12 (by kernel_rfl) ?_ | refine WK.regD 1400 clsOf (by kernel_rfl) Tryz.ntmps12 (by kernel_rfl) (by kernel_rfl) ?_
      intro A hA Q hQ
      simp [h6]
      refine hQ _ _ ?_
      clear hQ hA
      repeat (first | refine WK.seq ?_ | refine WK.block ?_ | refine WK.inBlock ?_ | refine WK.skip ?_ | refine WK.label ?_ | refine WK.scope ?_ | refine WK.inScope ?_ | refine WK.exit rfl ?_)
      refine WK.next (fun n => n) (IH (i + 1) (⟨by omega, fun k hk => by by_cases h7 : k = i; (subst h7; exact hr); exact hi.2 k (by omega)⟩) (by first | omega | (dsimp only; omega))) (by repeat (first | exact TmW.nil | refine TmW.upd ?_ (by simp (maxDischargeDepth := 120) [h6]))) (by repeat (first | exact BxW.nil | refine BxW.upd ?_ (by simp (maxDischargeDepth := 120) [h6]))) (by first | exact InjW.id | exact InjW.nil | exact InjW.one | exact InjW.two (by simp) | exact InjW.three (by simp) (by simp) (by simp))
  · simp at h1
    have e := rows_true (l := l) (fun k hk => hi.2 k (by omega))
    repeat (first | refine WK.seq ?_ | refine WK.block ?_ | refine WK.inBlock ?_ | refine WK.skip ?_ | refine WK.label ?_ | refine WK.scope ?_ | refine WK.inScope ?_ | refine WK.exit rfl ?_)
    first | refine WK.reg 1500 Tryz.ntmps12 (by kernel_rfl) ?_ | refine WK.regD 1500 clsOf (by kernel_rfl) Tryz.ntmps12 (by kernel_rfl) (by kernel_rfl) ?_
    intro A hA Q hQ
    simp
    refine hQ _ _ ?_
    clear hQ hA
    repeat (first | refine WK.seq ?_ | refine WK.block ?_ | refine WK.inBlock ?_ | refine WK.skip ?_ | refine WK.label ?_ | refine WK.scope ?_ | refine WK.inScope ?_ | refine WK.exit rfl ?_)
    refine WK.ret Tryz.func12 (by simp (maxDischargeDepth := 120) [Tryz.results12, e0, e]) (by simp [e0, e])
set_option maxHeartbeats 2000000 in
theorem rtright_c (l : List Flow) (hl : l.length ≤ 1000000) (hf : ∀ f, f ∈ l → FOk f) : FnP Tryz.prog 13 [flowS l] (.bool (tRight l)) := by
  unfold flowS
  refine FnP.intro Tryz.func13 rfl rfl fun G w => ?_
  repeat (first | refine WK.seq ?_ | refine WK.block ?_ | refine WK.inBlock ?_ | refine WK.skip ?_ | refine WK.label ?_ | refine WK.scope ?_ | refine WK.inScope ?_ | refine WK.exit rfl ?_)
  first | refine WK.reg 100 Tryz.ntmps13 (by kernel_rfl) ?_ | refine WK.regD 100 clsOf (by kernel_rfl) Tryz.ntmps13 (by kernel_rfl) (by kernel_rfl) ?_
  intro A hA Q hQ
  simp
  refine hQ _ _ ?_
  clear hQ hA
  repeat (first | refine WK.seq ?_ | refine WK.block ?_ | refine WK.inBlock ?_ | refine WK.skip ?_ | refine WK.label ?_ | refine WK.scope ?_ | refine WK.inScope ?_ | refine WK.exit rfl ?_)
  first | refine WK.reg 200 Tryz.ntmps13 (by kernel_rfl) ?_ | refine WK.regD 200 clsOf (by kernel_rfl) Tryz.ntmps13 (by kernel_rfl) (by kernel_rfl) ?_
  intro A hA Q hQ
  simp
  refine hQ _ _ ?_
  clear hQ hA
  repeat (first | refine WK.seq ?_ | refine WK.block ?_ | refine WK.inBlock ?_ | refine WK.skip ?_ | refine WK.label ?_ | refine WK.scope ?_ | refine WK.inScope ?_ | refine WK.exit rfl ?_)
  refine WK.loopI (fun n => n) (fun i : Nat => (⟨(upd (upd J 0 (.sl false l.length (flowL l))) 3 (.int .i64 i)), B0, 0⟩ : St)) (fun i => i ≤ l.length ∧ ∀ k, k < i → rightRow l k = true) (fun i => l.length - i) (0) (by repeat (first | exact TmW.nil | refine TmW.upd ?_ (by simp (maxDischargeDepth := 120)))) (by repeat (first | exact BxW.nil | refine BxW.upd ?_ (by simp (maxDischargeDepth := 120)))) (by first | exact InjW.id | exact InjW.nil | exact InjW.one | exact InjW.two (by simp) | exact InjW.three (by simp) (by simp) (by simp)) (⟨by omega, by simp⟩) (fun i hi IH => ?_)
  repeat (first | refine WK.seq ?_ | refine WK.block ?_ | refine WK.inBlock ?_ | refine WK.skip ?_ | refine WK.label ?_ | refine WK.scope ?_ | refine WK.inScope ?_ | refine WK.exit rfl ?_)
  first | refine WK.reg 300 Tryz.ntmps13 (by kernel_rfl) ?_ | refine WK.regD 300 clsOf (by kernel_rfl) Tryz.ntmps13 (by kernel_rfl) (by kernel_rfl) ?_
  intro A hA Q hQ
  simp
  refine hQ _ _ ?_
  clear hQ hA
  repeat (first | refine WK.seq ?_ | refine WK.block ?_ | refine WK.inBlock ?_ | refine WK.skip ?_ | refine WK.label ?_ | refine WK.scope ?_ | refine WK.inScope ?_ | refine WK.exit rfl ?_)
  refine WK.cond2 rfl (fun h1 => ?_) (fun h1 => ?_)
  · simp at h1
    have h2 : i < l.length := by omega
    have h3 : 7 ≤ l.length * 7 - i * 7 := by omega
    have h4 := flow_sub l i h2
    have h5 := flow_get4 l i h2
    have h6 : IntKind.i64.wrap ((i : Int) + 1) = i + 1 := wrap_i64 (by omega) (by omega)
    have b1 : i * 7 + 4 < l.length * 7 := by omega
    have hgo : FOk (nth l i) := hf _ (nth_mem h2)
    repeat (first | refine WK.seq ?_ | refine WK.block ?_ | refine WK.inBlock ?_ | refine WK.skip ?_ | refine WK.label ?_ | refine WK.scope ?_ | refine WK.inScope ?_ | refine WK.exit rfl ?_)
    first | refine WK.reg 400 Tryz.ntmps13 (by kernel_rfl) ?_ | refine WK.regD 400 clsOf (by kernel_rfl) Tryz.ntmps13 (by kernel_rfl) (by kernel_rfl) ?_
    intro A hA Q hQ
    simp
    refine hQ _ _ ?_
    clear hQ hA
    repeat (first | refine WK.seq ?_ | refine WK.block ?_ | refine WK.inBlock ?_ | refine WK.skip ?_ | refine WK.label ?_ | refine WK.scope ?_ | refine WK.inScope ?_ | refine WK.exit rfl ?_)
    refine WK.loopI (fun n => n) (fun j : Nat => (⟨(upd (upd (upd J 0 (.sl false l.length (flowL l))) 3 (.int .i64 i)) 4 (.int .i64 j)), B0, 0⟩ : St)) (fun j => j ≤ i ∧ ∀ k, k < j → badPair (nth l i) (nth l k) = false) (fun j => i - j) (0) (by repeat (first | exact TmW.nil | refine TmW.upd ?_ (by simp (maxDischargeDepth := 120) [h6]))) (by repeat (first | exact BxW.nil | refine BxW.upd ?_ (by simp (maxDischargeDepth := 120) [h6]))) (by first | exact InjW.id | exact InjW.nil | exact InjW.one | exact InjW.two (by simp) | exact InjW.three (by simp) (by simp) (by simp)) (⟨by omega, by simp⟩) (fun j hj IHj => ?_)
    repeat (first | refine WK.seq ?_ | refine WK.block ?_ | refine WK.inBlock ?_ | refine WK.skip ?_ | refine WK.label ?_ | refine WK.scope ?_ | refine WK.inScope ?_ | refine WK.exit rfl ?_)
    first | refine WK.reg 500 Tryz.ntmps13 (by kernel_rfl) ?_ | refine WK.regD 500 clsOf (by kernel_rfl) Tryz.ntmps13 (by kernel_rfl) (by kernel_rfl) ?_
    intro A hA Q hQ
    simp
    refine hQ _ _ ?_
    clear hQ hA
    repeat (first | refine WK.seq ?_ | refine WK.block ?_ | refine WK.inBlock ?_ | refine WK.skip ?_ | refine WK.label ?_ | refine WK.scope ?_ | refine WK.inScope ?_ | refine WK.exit rfl ?_)
    refine WK.cond2 rfl (fun h1 => ?_) (fun h1 => ?_)
    · simp at h1
      have j2 : j < i := by omega
      have j2' : j < l.length := by omega
      have j3 : 7 ≤ l.length * 7 - j * 7 := by omega
      have j4 := flow_sub l j j2'
      have j6 : IntKind.i64.wrap ((j : Int) + 1) = j + 1 := wrap_i64 (by omega) (by omega)
      have hjo : FOk (nth l j) := hf _ (nth_mem (by omega))
      repeat (first | refine WK.seq ?_ | refine WK.block ?_ | refine WK.inBlock ?_ | refine WK.skip ?_ | refine WK.label ?_ | refine WK.scope ?_ | refine WK.inScope ?_ | refine WK.exit rfl ?_)
      apply WK.cut (⟨(upd (upd (upd (upd J 0 (.sl false l.length (flowL l))) 3 (.int .i64 i)) 4 (.int .i64 j)) 44 (.bool (badPair (nth l i) (nth l j)))), B0, 0⟩ : St)
      · intro hcut
        cases k1 : Flow.alike (nth l i) (nth l j)
        · cases k2 : strictB (nth l i).flags
          · have e : badPair (nth l i) (nth l j) = false := by unfold badPair; rw [k1, k2]; rfl
            unfold strictB at k2
            repeat (first | refine WK.seq ?_ | refine WK.block ?_ | refine WK.inBlock ?_ | refine WK.skip ?_ | refine WK.label ?_ | refine WK.scope ?_ | refine WK.inScope ?_ | refine WK.exit rfl ?_)
            first | refine WK.reg 600 Tryz.ntmps13 (by kernel_rfl) ?_ | refine WK.regD 600 clsOf (by kernel_rfl) Tryz.ntmps13 (by kernel_rfl) (by kernel_rfl) ?_
            intro A hA Q hQ
            have hg9 : (A[9]?).bind (·.dst) = some 25 := by rw [hA]; rfl
            have hg17 : (A[17]?).bind (·.dst) = some 33 := by rw [hA]; rfl
            simp [h2, h3, h4, j2', j3, j4, hg9, hg17]
            refine RunQ.call rfl rfl rfl rfl (by rfl) (by simp (maxDischargeDepth := 120) [k1, hg9, hg17, h2, h3, h4, h5, b1, j2', j3, j4, k2]) (ralike_c (nth l i) (nth l j) hgo hjo) (by simp [k1, hg9, hg17, h2, h3, h4, h5, b1, j2', j3, j4, k2]) ?_
            refine RunQ.eval ?_
            simp [k1, hg9, hg17, h2, h3, h4, h5, b1, j2', j3, j4, k2]
            refine hQ _ _ ?_
            clear hQ hA
            repeat (first | refine WK.seq ?_ | refine WK.block ?_ | refine WK.inBlock ?_ | refine WK.skip ?_ | refine WK.label ?_ | refine WK.scope ?_ | refine WK.inScope ?_ | refine WK.exit rfl ?_)
            refine WK.next (fun n => n) hcut (by repeat (first | exact TmW.nil | refine TmW.upd ?_ (by simp (maxDischargeDepth := 120) [e]))) (by repeat (first | exact BxW.nil | refine BxW.upd ?_ (by simp (maxDischargeDepth := 120) [e]))) (by first | exact InjW.id | exact InjW.nil | exact InjW.one | exact InjW.two (by simp) | exact InjW.three (by simp) (by simp) (by simp))
          · have e : badPair (nth l i) (nth l j) = Flow.overlap (nth l i) (nth l j) := by unfold badPair; rw [k1, k2]; rfl
            unfold strictB at k2
            repeat (first | refine WK.seq ?_ | refine WK.block ?_ | refine WK.inBlock ?_ | refine WK.skip ?_ | refine WK.label ?_ | refine WK.scope ?_ | refine WK.inScope ?_ | refine WK.exit rfl ?_)
            first | refine WK.reg 700 Tryz.ntmps13 (by kernel_rfl) ?_ | refine WK.regD 700 clsOf (by kernel_rfl) Tryz.ntmps13 (by kernel_rfl) (by kernel_rfl) ?_
            intro A hA Q hQ
            have hg9 : (A[9]?).bind (·.dst) = some 25 := by rw [hA]; rfl
            have hg17 : (A[17]?).bind (·.dst) = some 33 := by rw [hA]; rfl
            simp [h2, h3, h4, j2', j3, j4, hg9, hg17]
            refine RunQ.call rfl rfl rfl rfl (by rfl) (by simp (maxDischargeDepth := 120) [k1, hg9, hg17, h2, h3, h4, h5, b1, j2', j3, j4, k2]) (ralike_c (nth l i) (nth l j) hgo hjo) (by simp [k1, hg9, hg17, h2, h3, h4, h5, b1, j2', j3, j4, k2]) ?_
            refine RunQ.eval ?_
            simp [k1, hg9, hg17, h2, h3, h4, h5, b1, j2', j3, j4, k2]
            refine RunQ.callG rfl rfl (by simp [hg9, hg17]) rfl (by rfl) (by simp (maxDischargeDepth := 120) [hg9, hg17]) (roverlap_c (nth l i) (nth l j) hgo hjo) (by simp [hg9, hg17]) ?_
            refine RunQ.eval ?_
            simp [hg9, hg17]
            refine hQ _ _ ?_
            clear hQ hA
            repeat (first | refine WK.seq ?_ | refine WK.block ?_ | refine WK.inBlock ?_ | refine WK.skip ?_ | refine WK.label ?_ | refine WK.scope ?_ | refine WK.inScope ?_ | refine WK.exit rfl ?_)
            refine WK.next (fun n => n) hcut (by repeat (first | exact TmW.nil | refine TmW.upd ?_ (by simp (maxDischargeDepth := 120) [e]))) (by repeat (first | exact BxW.nil | refine BxW.upd ?_ (by simp (maxDischargeDepth := 120) [e]))) (by first | exact InjW.id | exact InjW.nil | exact InjW.one | exact InjW.two (by simp) | exact InjW.three (by simp) (by simp) (by simp))
        · have e : badPair (nth l i) (nth l j) = true := by unfold badPair; rw [k1]; rfl
          repeat (first | refine WK.seq ?_ | refine WK.block ?_ | refine WK.inBlock ?_ | refine WK.skip ?_ | refine WK.label ?_ | refine WK.scope ?_ | refine WK.inScope ?_ | refine WK.exit rfl ?_)
          first | refine WK.reg 800 Tryz.ntmps13 (by kernel_rfl) ?_ | refine WK.regD 800 clsOf (by kernel_rfl) Tryz.ntmps13 (by kernel_rfl) (by kernel_rfl) ?_
          intro A hA Q hQ
          have hg9 : (A[9]?).bind (·.dst) = some 25 := by rw [hA]; rfl
          have hg17 : (A[17]?).bind (·.dst) = some 33 := by rw [hA]; rfl
          simp [h2, h3, h4, j2', j3, j4, hg9, hg17]
          refine RunQ.call rfl rfl rfl rfl (by rfl) (by simp (maxDischargeDepth := 120) [k1, hg9, hg17]) (ralike_c (nth l i) (nth l j) hgo hjo) (by simp [k1, hg9, hg17]) ?_
          refine RunQ.eval ?_
          simp [k1, hg9, hg17]
          refine hQ _ _ ?_
          clear hQ hA
          repeat (first | refine WK.seq ?_ | refine WK.block ?_ | refine WK.inBlock ?_ | refine WK.skip ?_ | refine WK.label ?_ | refine WK.scope ?_ | refine WK.inScope ?_ | refine WK.exit rfl ?_)
          refine WK.next (fun n => n) hcut (by repeat (first | exact TmW.nil | refine TmW.upd ?_ (by simp (maxDischargeDepth := 120) [e]))) (by repeat (first | exact BxW.nil | refine BxW.upd ?_ (by simp (maxDischargeDepth := 120) [e]))) (by first | exact InjW.id | exact InjW.nil | exact InjW.one | exact InjW.two (by simp) | exact InjW.three (by simp) (by simp) (by simp))
      repeat (first | refine WK.seq ?_ | refine WK.block ?_ | refine WK.inBlock ?_ | refine WK.skip ?_ | refine WK.label ?_ | refine WK.scope ?_ | refine WK.inScope ?_ | refine WK.exit rfl ?_)
      refine WK.cond2 rfl (fun h => ?_) (fun h => ?_)
      · have e := rows_false h2 (row_false j2 h)
        repeat (first | refine WK.seq ?_ | refine WK.block ?_ | refine WK.inBlock ?_ | refine WK.skip ?_ | refine WK.label ?_ | refine WK.scope ?_ | refine WK.inScope ?_ | refine WK.exit rfl ?_)
        first | refine WK.reg 900 Tryz.ntmps13 (by kernel_rfl) ?_ | refine WK.regD 900 clsOf (by kernel_rfl) Tryz.ntmps13 (by kernel_rfl) (by kernel_rfl) ?_
        intro A hA Q hQ
        simp
        refine hQ _ _ ?_
        clear hQ hA
        repeat (first | refine WK.seq ?_ | refine WK.block ?_ | refine WK.inBlock ?_ | refine WK.skip ?_ | refine WK.label ?_ | refine WK.scope ?_ | refine WK.inScope ?_ | refine WK.exit rfl ?_)
        refine WK.ret Tryz.func13 (by simp (maxDischargeDepth := 120) [Tryz.results13, tRight, e]) (by simp [tRight, e])
      · repeat (first | refine WK.seq ?_ | refine WK.block ?_ | refine WK.inBlock ?_ | refine WK.skip ?_ | refine WK.label ?_ | refine WK.scope ?_ | refine WK.inScope ?_ | refine WK.exit rfl ?_)
        first | refine WK.reg 1000 Tryz.ntmps13 (by kernel_rfl) ?_ | refine WK.regD 1000 clsOf (by kernel_rfl) Tryz.ntmps13 (by kernel_rfl) (by kernel_rfl) ?_
        intro A hA Q hQ
        simp [j6]
        refine hQ _ _ ?_
        clear hQ hA
        repeat (first | refine WK.seq ?_ | refine WK.block ?_ | refine WK.inBlock ?_ | refine WK.skip ?_ | refine WK.label ?_ | refine WK.scope ?_ | refine WK.inScope ?_ | refine WK.exit rfl ?_)
        refine WK.next (fun n => n) (IHj (j + 1) (⟨by omega, fun k hk => by by_cases h7 : k = j; (subst h7; exact h); exact hj.2 k (by omega)⟩) (by first | omega | (dsimp only; omega))) (by repeat (first | exact TmW.nil | refine TmW.upd ?_ (by simp (maxDischargeDepth := 120) [j6]))) (by repeat (first | exact BxW.nil | refine BxW.upd ?_ (by simp (maxDischargeDepth := 120) [j6]))) (by first | exact InjW.id | exact InjW.nil | exact InjW.one | exact InjW.two (by simp) | exact InjW.three (by simp) (by simp) (by simp))
    · simp at h1
      have hji : j = i := by omega
      have hr := row_true (l := l) (i := i) (fun k hk => hj.2 k (by omega))
      repeat (first | refine WK.seq ?_ | refine WK.block ?_ | refine WK.inBlock ?_ | refine WK.skip ?_ | refine WK.label ?_ | refine WK.scope ?_ | refine WK.inScope ?_ | refine WK.exit rfl ?_)
      first | refine WK.reg 1100 Tryz.ntmps13 (by kernel_rfl) ?_ | refine WK.regD 1100 clsOf (by kernel_rfl) Tryz.ntmps13 (by kernel_rfl) (by kernel_rfl) ?_
      intro A hA Q hQ
      simp [h6]
      refine hQ _ _ ?_
      clear hQ hA
      repeat (first | refine WK.seq ?_ | refine WK.block ?_ | refine WK.inBlock ?_ | refine WK.skip ?_ | refine WK.label ?_ | refine WK.scope ?_ | refine WK.inScope ?_ | refine WK.exit rfl ?_)
      refine WK.next (fun n => n) (IH (i + 1) (⟨by omega, fun k hk => by by_cases h7 : k = i; (subst h7; exact hr); exact hi.2 k (by omega)⟩) (by first | omega | (dsimp only; omega))) (by repeat (first | exact TmW.nil | refine TmW.upd ?_ (by simp (maxDischargeDepth := 120) [h6]))) (by repeat (first | exact BxW.nil | refine BxW.upd ?_ (by simp (maxDischargeDepth := 120) [h6]))) (by first | exact InjW.id | exact InjW.nil | exact InjW.one | exact InjW.two (by simp) | exact InjW.three (by simp) (by simp) (by simp))
  · simp at h1
    have e := rows_true (l := l) (fun k hk => hi.2 k (by omega))
    have hd : decide ((l.length : Int) ≤ 8) = decide (l.length ≤ 8) := decide_eq_decide.2 (by omega)
    repeat (first | refine WK.seq ?_ | refine WK.block ?_ | refine WK.inBlock ?_ | refine WK.skip ?_ | refine WK.label ?_ | refine WK.scope ?_ | refine WK.inScope ?_ | refine WK.exit rfl ?_)
    first | refine WK.reg 1200 Tryz.ntmps13 (by kernel_rfl) ?_ | refine WK.regD 1200 clsOf (by kernel_rfl) Tryz.ntmps13 (by kernel_rfl) (by kernel_rfl) ?_
    intro A hA Q hQ
    simp
    refine hQ _ _ ?_
    clear hQ hA
    repeat (first | refine WK.seq ?_ | refine WK.block ?_ | refine WK.inBlock ?_ | refine WK.skip ?_ | refine WK.label ?_ | refine WK.scope ?_ | refine WK.inScope ?_ | refine WK.exit rfl ?_)
    refine WK.ret Tryz.func13 (by simp (maxDischargeDepth := 120) [Tryz.results13, tRight, e, hd]) (by simp [tRight, e, hd])
end Go.Proofs.YtbncoeoamjcjjaaGreat
