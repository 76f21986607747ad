/- What is yielded, collected; the places of the flows that a change takes. -/
import Derived.Test.YtbncoeoamjcjjaaGreatW15
set_option linter.all false
set_option linter.unnecessarySimpa false
set_option linter.unusedVariables false
set_option linter.unusedSimpArgs false
namespace Go.Proofs.YtbncoeoamjcjjaaGreat
open Go Go.AI Go.Proofs

theorem taken_true (n : Nat) : taken (fun _ => true) n = n := taken_all fun _ _ => rfl
theorem jump_true (jmp : Nat → Option Code) (n : Nat) : jumpAt (fun _ => true) jmp n = none := by cases n <;> simp [jumpAt]
def yInt (l : List Int) : List (List AV) := l.map fun x => [.int .i64 x]
theorem yInt_len (l : List Int) : (yInt l).length = l.length := by simp [yInt]
theorem yInt_get {l : List Int} {i : Nat} {x : List AV} (h : (yInt l)[i]? = some x) : i < l.length ∧ x = [.int .i64 (nth l i)] := by
  simp only [yInt, List.getElem?_map, Option.map_eq_some_iff] at h
  obtain ⟨n, h1, h2⟩ := h
  have hi := (List.getElem?_eq_some_iff.1 h1).1
  refine ⟨hi, ?_⟩
  rw [← h2, nth_eq hi]
  rw [List.getElem?_eq_getElem hi] at h1
  simp only [Option.some.injEq] at h1
  rw [h1]
theorem yInt_all (l : List Int) : ∀ x, x ∈ yInt l → x.length = 1 ∧ ClL x = true := by
  intro x hx
  simp only [yInt, List.mem_map] at hx
  obtain ⟨n, _, rfl⟩ := hx
  exact ⟨rfl, rfl⟩
theorem intL_take {l : List Int} {i : Nat} (h : i < l.length) : intL (l.take (i + 1)) = intL (l.take i) ++ [.int .i64 (nth l i)] := by rw [take_nth h]; simp [intL]
theorem appendSeq_int (fid : Nat) (caps : List AV) (l : List Int) (hcl : ClL caps = true) (hl : l.length ≤ 1000000) (h : FnSeq Tryz.prog fid caps (yInt l)) :
    FnP Tryz.prog 107 [.sl true 0 [], .fn fid caps] (intS l) := by
  have hy := yInt_all l
  refine FnP.intro Tryz.func107 rfl rfl fun G w => ?_
  repeat (first | refine WK.seq ?_ | refine WK.block ?_ | refine WK.inBlock ?_ | refine WK.skip ?_ | refine WK.label ?_ | refine WK.scope ?_ | refine WK.inScope ?_ | refine WK.exit rfl ?_)
  first | refine WK.reg 100 Tryz.ntmps107 (by kernel_rfl) ?_ | refine WK.regD 100 clsOf (by kernel_rfl) Tryz.ntmps107 (by kernel_rfl) (by kernel_rfl) ?_
  intro A hA Q hQ
  simp
  refine hQ _ _ ?_
  clear hQ hA
  repeat (first | refine WK.seq ?_ | refine WK.block ?_ | refine WK.inBlock ?_ | refine WK.skip ?_ | refine WK.label ?_ | refine WK.scope ?_ | refine WK.inScope ?_ | refine WK.exit rfl ?_)
  first | refine WK.reg 200 Tryz.ntmps107 (by kernel_rfl) ?_ | refine WK.regD 200 clsOf (by kernel_rfl) Tryz.ntmps107 (by kernel_rfl) (by kernel_rfl) ?_
  intro A hA Q hQ
  simp
  refine hQ _ _ ?_
  clear hQ hA
  repeat (first | refine WK.seq ?_ | refine WK.block ?_ | refine WK.inBlock ?_ | refine WK.skip ?_ | refine WK.label ?_ | refine WK.scope ?_ | refine WK.inScope ?_ | refine WK.exit rfl ?_)
  refine WK.ghost (Ghost.ownVar 0 0 900 1 rfl rfl rfl) ?_
  repeat (first | refine WK.seq ?_ | refine WK.block ?_ | refine WK.inBlock ?_ | refine WK.skip ?_ | refine WK.label ?_ | refine WK.scope ?_ | refine WK.inScope ?_ | refine WK.exit rfl ?_)
  refine WK.next (st' := ⟨(upd (upd J 2 (.ptr 0 0)) 6 (.fn fid caps)), (fun i : Nat => (upd (upd B0 0 (.var [.msl 1 0 i])) 1 (.buf 1 (intL (l.take i))))) 0, 0⟩) (fun n => if n = 1 then 900 else n) ?_ (by repeat (first | exact TmW.nil | refine TmW.upd ?_ (by simp (maxDischargeDepth := 120) [hcl, intL]))) (by repeat (first | exact BxW.nil | refine BxW.upd ?_ (by simp (maxDischargeDepth := 120) [hcl, intL]))) (by first | exact InjW.id | exact InjW.nil | exact InjW.one | exact InjW.two (by simp) | exact InjW.three (by simp) (by simp) (by simp))
  refine WK.rangeM (yInt l) (fun _ => true) (fun _ => none) (fun i : Nat => (upd (upd B0 0 (.var [.msl 1 0 i])) 1 (.buf 1 (intL (l.take i))))) [0] rfl (h) (by simp [hcl, intL]) (by kernel_rfl) (hy) (fun i => by simp) (by simp) (by repeat (first | exact TmN.nil | refine TmN.upd ?_ (by simp [hcl, intL]))) (fun i x hx hgo lp rc kp E own G w hR => ?_) (fun r => ?_)
  · obtain ⟨h2, rfl⟩ := yInt_get hx
    have h3 : (l.take i).length = i := by rw [List.length_take]; omega
    have hb : (i + 1) * 8 ≤ 140737488355328 := by omega
    have h4 := intL_take h2
    repeat (first | refine WK.seq ?_ | refine WK.block ?_ | refine WK.inBlock ?_ | refine WK.skip ?_ | refine WK.label ?_ | refine WK.scope ?_ | refine WK.inScope ?_ | refine WK.exit rfl ?_)
    first | refine WK.reg 300 Tryz.ntmps107 (by kernel_rfl) ?_ | refine WK.regD 300 clsOf (by kernel_rfl) Tryz.ntmps107 (by kernel_rfl) (by kernel_rfl) ?_
    intro A hA Q hQ
    simp
    refine hQ _ _ ?_
    clear hQ hA
    repeat (first | refine WK.seq ?_ | refine WK.block ?_ | refine WK.inBlock ?_ | refine WK.skip ?_ | refine WK.label ?_ | refine WK.scope ?_ | refine WK.inScope ?_ | refine WK.exit rfl ?_)
    refine WK.beginL hR ?_
    repeat (first | refine WK.seq ?_ | refine WK.block ?_ | refine WK.inBlock ?_ | refine WK.skip ?_ | refine WK.label ?_ | refine WK.scope ?_ | refine WK.inScope ?_ | refine WK.exit rfl ?_)
    first | refine WK.reg 400 Tryz.ntmps107 (by kernel_rfl) ?_ | refine WK.regD 400 clsOf (by kernel_rfl) Tryz.ntmps107 (by kernel_rfl) (by kernel_rfl) ?_
    intro A hA Q hQ
    simp
    refine RunQ.append 901 appInt rfl rfl rfl rfl rfl rfl rfl (by simp [hb, h3]) rfl (by simp [hb, h3]) (by simp [hb, h3]) (by simp [hb, h3]) (by simp [hb, h3]) ?_
    refine RunQ.eval ?_
    simp [hb, h3]
    refine hQ _ _ ?_
    clear hQ hA
    repeat (first | refine WK.seq ?_ | refine WK.block ?_ | refine WK.inBlock ?_ | refine WK.skip ?_ | refine WK.label ?_ | refine WK.scope ?_ | refine WK.inScope ?_ | refine WK.exit rfl ?_)
    refine WK.roundGo (fun n => if n = 1 then 901 else n) hR (rfl) (by repeat (first | exact BxW.nil | refine BxW.upd ?_ (by simp (maxDischargeDepth := 120) [h4]))) (by first | exact InjW.id | exact InjW.nil | exact InjW.one | exact InjW.two (by simp) | exact InjW.three (by simp) (by simp) (by simp)) (by simp)
  · rw [yInt_len, taken_true, jump_true]
    repeat (first | refine WK.seq ?_ | refine WK.block ?_ | refine WK.inBlock ?_ | refine WK.skip ?_ | refine WK.label ?_ | refine WK.scope ?_ | refine WK.inScope ?_ | refine WK.exit rfl ?_)
    first | refine WK.reg 500 Tryz.ntmps107 (by kernel_rfl) ?_ | refine WK.regD 500 clsOf (by kernel_rfl) Tryz.ntmps107 (by kernel_rfl) (by kernel_rfl) ?_
    intro A hA Q hQ
    simp
    refine hQ _ _ ?_
    clear hQ hA
    repeat (first | refine WK.seq ?_ | refine WK.block ?_ | refine WK.inBlock ?_ | refine WK.skip ?_ | refine WK.label ?_ | refine WK.scope ?_ | refine WK.inScope ?_ | refine WK.exit rfl ?_)
    refine WK.ghost (Ghost.frzSl 4 1 rfl rfl) ?_
    repeat (first | refine WK.seq ?_ | refine WK.block ?_ | refine WK.inBlock ?_ | refine WK.skip ?_ | refine WK.label ?_ | refine WK.scope ?_ | refine WK.inScope ?_ | refine WK.exit rfl ?_)
    refine WK.ret Tryz.func107 (by simp (maxDischargeDepth := 120) [Tryz.results107, intS]) (by simp [intS])
theorem collect_int (fid : Nat) (caps : List AV) (l : List Int) (hcl : ClL caps = true) (hl : l.length ≤ 1000000) (h : FnSeq Tryz.prog fid caps (yInt l)) :
    FnP Tryz.prog 80 [.fn fid caps] (intS l) := by
  refine FnP.intro Tryz.func80 rfl rfl fun G w => ?_
  repeat (first | refine WK.seq ?_ | refine WK.block ?_ | refine WK.inBlock ?_ | refine WK.skip ?_ | refine WK.label ?_ | refine WK.scope ?_ | refine WK.inScope ?_ | refine WK.exit rfl ?_)
  first | refine WK.reg 100 Tryz.ntmps80 (by kernel_rfl) ?_ | refine WK.regD 100 clsOf (by kernel_rfl) Tryz.ntmps80 (by kernel_rfl) (by kernel_rfl) ?_
  intro A hA Q hQ
  simp
  refine hQ _ _ ?_
  clear hQ hA
  repeat (first | refine WK.seq ?_ | refine WK.block ?_ | refine WK.inBlock ?_ | refine WK.skip ?_ | refine WK.label ?_ | refine WK.scope ?_ | refine WK.inScope ?_ | refine WK.exit rfl ?_)
  first | refine WK.reg 200 Tryz.ntmps80 (by kernel_rfl) ?_ | refine WK.regD 200 clsOf (by kernel_rfl) Tryz.ntmps80 (by kernel_rfl) (by kernel_rfl) ?_
  intro A hA Q hQ
  simp
  refine RunQ.call rfl rfl rfl rfl (by rfl) (by simp (maxDischargeDepth := 120) [hcl]) (appendSeq_int fid caps l hcl hl h) (by simp [hcl]) ?_
  refine RunQ.eval ?_
  simp [hcl]
  refine hQ _ _ ?_
  clear hQ hA
  repeat (first | refine WK.seq ?_ | refine WK.block ?_ | refine WK.inBlock ?_ | refine WK.skip ?_ | refine WK.label ?_ | refine WK.scope ?_ | refine WK.inScope ?_ | refine WK.exit rfl ?_)
  refine WK.ret Tryz.func80 (by simp (maxDischargeDepth := 120) [Tryz.results80]) (by simp)
/-- the places of the flows that a change takes, up to the `n`-th -/
def tookN (m : FlowMod) (l : List Flow) (n : Nat) : List Nat := (List.range n).filter fun i => FlowMod.takes m (nth l i)
def took (m : FlowMod) (l : List Flow) : List Int := (tookN m l l.length).map fun i : Nat => (i : Int)
theorem tookN_succ (m : FlowMod) (l : List Flow) (i : Nat) : tookN m l (i + 1) = if FlowMod.takes m (nth l i) then tookN m l i ++ [i] else tookN m l i := by
  unfold tookN; rw [List.range_succ, List.filter_append]
  by_cases h : FlowMod.takes m (nth l i) = true <;> simp [h]
theorem tookN_pre (m : FlowMod) (l : List Flow) : ∀ (k i : Nat), ∃ r, tookN m l (i + k) = tookN m l i ++ r
  | 0, i => ⟨[], by simp⟩
  | k + 1, i => by
    obtain ⟨r, hr⟩ := tookN_pre m l k i
    rw [show i + (k + 1) = (i + k) + 1 by omega, tookN_succ, hr]
    split
    · exact ⟨r ++ [i + k], by simp⟩
    · exact ⟨r, rfl⟩
theorem tookN_len (m : FlowMod) (l : List Flow) (i : Nat) : (tookN m l i).length ≤ i := by
  unfold tookN; have := List.length_filter_le (fun i => FlowMod.takes m (nth l i)) (List.range i); simpa using this
theorem took_len (m : FlowMod) (l : List Flow) : (took m l).length = (tookN m l l.length).length := by simp [took]
theorem took_get {m : FlowMod} {l : List Flow} {i : Nat} (h : i < l.length) (ht : FlowMod.takes m (nth l i) = true) :
    (yInt (took m l))[(tookN m l i).length]? = some [.int .i64 i] ∧ (tookN m l i).length < (took m l).length := by
  obtain ⟨r, hr⟩ := tookN_pre m l (l.length - (i + 1)) (i + 1)
  rw [show i + 1 + (l.length - (i + 1)) = l.length by omega, tookN_succ, ht] at hr
  simp only [if_true] at hr
  unfold yInt took
  rw [hr]
  constructor
  · simp
  · simp
theorem seqOf_c (m : FlowMod) (l : List Flow) (hm : FOk (FlowMod.flow m)) (hl : l.length ≤ 1000000) (hf : ∀ f, f ∈ l → FPl f) :
    FnSeq Tryz.prog 78 [.iptr m.enc, .iptr [.sl false l.length (flowL l)]] (yInt (took m l)) := by
  obtain ⟨fid, caps, hr, hcl, hc⟩ := (asks_t m hm).f
  have ha := asks_c m hm
  rw [hr] at ha
  refine FnSeq.intro Tryz.func78 rfl rfl fun lp Y go hW G w own => ?_
  repeat (first | refine WK.seq ?_ | refine WK.block ?_ | refine WK.inBlock ?_ | refine WK.skip ?_ | refine WK.label ?_ | refine WK.scope ?_ | refine WK.inScope ?_ | refine WK.exit rfl ?_)
  first | refine WK.reg 100 Tryz.ntmps78 (by kernel_rfl) ?_ | refine WK.regD 100 clsOf (by kernel_rfl) Tryz.ntmps78 (by kernel_rfl) (by kernel_rfl) ?_
  intro A hA Q hQ
  simp
  refine RunQ.call rfl rfl rfl rfl (by rfl) (by simp (maxDischargeDepth := 120)) (ha) (by simp) ?_
  refine RunQ.eval ?_
  simp
  refine hQ _ _ ?_
  clear hQ hA
  repeat (first | refine WK.seq ?_ | refine WK.block ?_ | refine WK.inBlock ?_ | refine WK.skip ?_ | refine WK.label ?_ | refine WK.scope ?_ | refine WK.inScope ?_ | refine WK.exit rfl ?_)
  first | refine WK.reg 200 Tryz.ntmps78 (by kernel_rfl) ?_ | refine WK.regD 200 clsOf (by kernel_rfl) Tryz.ntmps78 (by kernel_rfl) (by kernel_rfl) ?_
  intro A hA Q hQ
  simp
  refine hQ _ _ ?_
  clear hQ hA
  repeat (first | refine WK.seq ?_ | refine WK.block ?_ | refine WK.inBlock ?_ | refine WK.skip ?_ | refine WK.label ?_ | refine WK.scope ?_ | refine WK.inScope ?_ | refine WK.exit rfl ?_)
  refine WK.loopI (fun n => n) (fun i : Nat => (⟨(upd (upd (upd (upd (upd J 0 (.yv lp)) 4 (.fn fid caps)) 9 (.sl false l.length (flowL l))) 10 (.int .i64 l.length)) 11 (.int .i64 i)), (upd B0 0 (.frn Y (tookN m l i).length)), 0⟩ : St)) (fun i => i ≤ l.length ∧ ∀ j, j < (tookN m l i).length → go j = true) (fun i => l.length - i) (0) (by repeat (first | exact TmW.nil | refine TmW.upd ?_ (by simp (maxDischargeDepth := 120) [hcl, tookN]))) (by repeat (first | exact BxW.nil | refine BxW.upd ?_ (by simp (maxDischargeDepth := 120) [hcl, tookN]))) (by first | exact InjW.id | exact InjW.nil | exact InjW.one | exact InjW.two (by simp) | exact InjW.three (by simp) (by simp) (by simp)) (⟨by omega, by simp [tookN]⟩) (fun i hi IH => ?_)
  repeat (first | refine WK.seq ?_ | refine WK.block ?_ | refine WK.inBlock ?_ | refine WK.skip ?_ | refine WK.label ?_ | refine WK.scope ?_ | refine WK.inScope ?_ | refine WK.exit rfl ?_)
  first | refine WK.reg 300 Tryz.ntmps78 (by kernel_rfl) ?_ | refine WK.regD 300 clsOf (by kernel_rfl) Tryz.ntmps78 (by kernel_rfl) (by kernel_rfl) ?_
  intro A hA Q hQ
  simp
  refine hQ _ _ ?_
  clear hQ hA
  repeat (first | refine WK.seq ?_ | refine WK.block ?_ | refine WK.inBlock ?_ | refine WK.skip ?_ | refine WK.label ?_ | refine WK.scope ?_ | refine WK.inScope ?_ | refine WK.exit rfl ?_)
  refine WK.cond2 rfl (fun h1 => ?_) (fun h1 => ?_)
  · simp at h1
    have h2 : i < l.length := by omega
    have h3 : 7 ≤ l.length * 7 - i * 7 := by omega
    have h4 := flow_sub l i h2
    have h6 : IntKind.i64.wrap ((i : Int) + 1) = i + 1 := wrap_i64 (by omega) (by omega)
    repeat (first | refine WK.seq ?_ | refine WK.block ?_ | refine WK.inBlock ?_ | refine WK.skip ?_ | refine WK.label ?_ | refine WK.scope ?_ | refine WK.inScope ?_ | refine WK.exit rfl ?_)
    first | refine WK.reg 400 Tryz.ntmps78 (by kernel_rfl) ?_ | refine WK.regD 400 clsOf (by kernel_rfl) Tryz.ntmps78 (by kernel_rfl) (by kernel_rfl) ?_
    intro A hA Q hQ
    simp [h2, h3, h4]
    refine hQ _ _ ?_
    clear hQ hA
    repeat (first | refine WK.seq ?_ | refine WK.block ?_ | refine WK.inBlock ?_ | refine WK.skip ?_ | refine WK.label ?_ | refine WK.scope ?_ | refine WK.inScope ?_ | refine WK.exit rfl ?_)
    first | refine WK.reg 500 Tryz.ntmps78 (by kernel_rfl) ?_ | refine WK.regD 500 clsOf (by kernel_rfl) Tryz.ntmps78 (by kernel_rfl) (by kernel_rfl) ?_
    intro A hA Q hQ
    simp
    refine RunQ.call rfl rfl rfl rfl (by rfl) (by simp (maxDischargeDepth := 120) [hcl]) (hc (nth l i) (hf _ (nth_mem h2))) (by simp [hcl]) ?_
    refine RunQ.eval ?_
    simp [hcl]
    refine hQ _ _ ?_
    clear hQ hA
    repeat (first | refine WK.seq ?_ | refine WK.block ?_ | refine WK.inBlock ?_ | refine WK.skip ?_ | refine WK.label ?_ | refine WK.scope ?_ | refine WK.inScope ?_ | refine WK.exit rfl ?_)
    refine WK.cond2 rfl (fun h5 => ?_) (fun h5 => ?_)
    · have h5' : FlowMod.takes m (nth l i) = false := by simpa using h5
      repeat (first | refine WK.seq ?_ | refine WK.block ?_ | refine WK.inBlock ?_ | refine WK.skip ?_ | refine WK.label ?_ | refine WK.scope ?_ | refine WK.inScope ?_ | refine WK.exit rfl ?_)
      first | refine WK.reg 600 Tryz.ntmps78 (by kernel_rfl) ?_ | refine WK.regD 600 clsOf (by kernel_rfl) Tryz.ntmps78 (by kernel_rfl) (by kernel_rfl) ?_
      intro A hA Q hQ
      simp [h6]
      refine hQ _ _ ?_
      clear hQ hA
      repeat (first | refine WK.seq ?_ | refine WK.block ?_ | refine WK.inBlock ?_ | refine WK.skip ?_ | refine WK.label ?_ | refine WK.scope ?_ | refine WK.inScope ?_ | refine WK.exit rfl ?_)
      refine WK.next (fun n => n) (IH (i + 1) (⟨by omega, by rw [tookN_succ, h5']; exact hi.2⟩) (by first | omega | (dsimp only; omega))) (by repeat (first | exact TmW.nil | refine TmW.upd ?_ (by simp (maxDischargeDepth := 120) [hcl, tookN_succ, h5', h6]))) (by repeat (first | exact BxW.nil | refine BxW.upd ?_ (by simp (maxDischargeDepth := 120) [hcl, tookN_succ, h5', h6]))) (by first | exact InjW.id | exact InjW.nil | exact InjW.one | exact InjW.two (by simp) | exact InjW.three (by simp) (by simp) (by simp))
    · have h5' : FlowMod.takes m (nth l i) = true := by simpa using h5
      obtain ⟨hx, hk⟩ := took_get h2 h5'
      repeat (first | refine WK.seq ?_ | refine WK.block ?_ | refine WK.inBlock ?_ | refine WK.skip ?_ | refine WK.label ?_ | refine WK.scope ?_ | refine WK.inScope ?_ | refine WK.exit rfl ?_)
      first | refine WK.reg 700 Tryz.ntmps78 (by kernel_rfl) ?_ | refine WK.regD 700 clsOf (by kernel_rfl) Tryz.ntmps78 (by kernel_rfl) (by kernel_rfl) ?_
      intro A hA Q hQ
      simp
      refine RunQ.yield 0 hW rfl rfl rfl (by simp) rfl rfl (hx) (hi.2) (by simp) (by simp) ?_
      refine RunQ.eval ?_
      simp
      refine hQ _ _ ?_
      clear hQ hA
      repeat (first | refine WK.seq ?_ | refine WK.block ?_ | refine WK.inBlock ?_ | refine WK.skip ?_ | refine WK.label ?_ | refine WK.scope ?_ | refine WK.inScope ?_ | refine WK.exit rfl ?_)
      refine WK.cond2 rfl (fun h7 => ?_) (fun h7 => ?_)
      · have h7' : go (tookN m l i).length = false := by simpa using h7
        have h8 := taken_stop (n := (yInt (took m l)).length) hi.2 h7' (by rw [yInt_len]; exact hk)
        repeat (first | refine WK.seq ?_ | refine WK.block ?_ | refine WK.inBlock ?_ | refine WK.skip ?_ | refine WK.label ?_ | refine WK.scope ?_ | refine WK.inScope ?_ | refine WK.exit rfl ?_)
        refine WK.retY Tryz.func78 (by simp (maxDischargeDepth := 120) [Tryz.results78, h8]) (by simp [h8]) rfl (.inl rfl)
      · have h7' : go (tookN m l i).length = true := by simpa using h7
        repeat (first | refine WK.seq ?_ | refine WK.block ?_ | refine WK.inBlock ?_ | refine WK.skip ?_ | refine WK.label ?_ | refine WK.scope ?_ | refine WK.inScope ?_ | refine WK.exit rfl ?_)
        first | refine WK.reg 800 Tryz.ntmps78 (by kernel_rfl) ?_ | refine WK.regD 800 clsOf (by kernel_rfl) Tryz.ntmps78 (by kernel_rfl) (by kernel_rfl) ?_
        intro A hA Q hQ
        simp [h6]
        refine hQ _ _ ?_
        clear hQ hA
        repeat (first | refine WK.seq ?_ | refine WK.block ?_ | refine WK.inBlock ?_ | refine WK.skip ?_ | refine WK.label ?_ | refine WK.scope ?_ | refine WK.inScope ?_ | refine WK.exit rfl ?_)
        refine WK.next (fun n => n) (IH (i + 1) (⟨by omega, by rw [tookN_succ, h5']; intro j hj; simp at hj; by_cases h9 : j = (tookN m l i).length; (subst h9; exact h7'); exact hi.2 j (by omega)⟩) (by first | omega | (dsimp only; omega))) (by repeat (first | exact TmW.nil | refine TmW.upd ?_ (by simp (maxDischargeDepth := 120) [hcl, tookN_succ, h5', h6]))) (by repeat (first | exact BxW.nil | refine BxW.upd ?_ (by simp (maxDischargeDepth := 120) [hcl, tookN_succ, h5', h6]))) (by first | exact InjW.id | exact InjW.nil | exact InjW.one | exact InjW.two (by simp) | exact InjW.three (by simp) (by simp) (by simp))
  · simp at h1
    have h10 : i = l.length := by omega
    have h8 := taken_all (go := go) (n := (yInt (took m l)).length) (by rw [yInt_len, took_len, ← h10]; exact hi.2)
    have h11 : taken go (yInt (took m l)).length = (tookN m l i).length := by rw [h8, yInt_len, took_len, ← h10]
    repeat (first | refine WK.seq ?_ | refine WK.block ?_ | refine WK.inBlock ?_ | refine WK.skip ?_ | refine WK.label ?_ | refine WK.scope ?_ | refine WK.inScope ?_ | refine WK.exit rfl ?_)
    refine WK.retY Tryz.func78 (by simp (maxDischargeDepth := 120) [Tryz.results78, h11]) (by simp [h11]) rfl (.inl rfl)
theorem pOf_c (m : FlowMod) (l : List Flow) : FnP Tryz.prog 56 [flowS l, .agg m.enc] (.fn 78 [.iptr m.enc, .iptr [.sl false l.length (flowL l)]]) := by
  unfold flowS
  refine FnP.intro Tryz.func56 rfl rfl fun G w => ?_
  repeat (first | refine WK.seq ?_ | refine WK.block ?_ | refine WK.inBlock ?_ | refine WK.skip ?_ | refine WK.label ?_ | refine WK.scope ?_ | refine WK.inScope ?_ | refine WK.exit rfl ?_)
  first | refine WK.reg 100 Tryz.ntmps56 (by kernel_rfl) ?_ | refine WK.regD 100 clsOf (by kernel_rfl) Tryz.ntmps56 (by kernel_rfl) (by kernel_rfl) ?_
  intro A hA Q hQ
  simp
  refine hQ _ _ ?_
  clear hQ hA
  repeat (first | refine WK.seq ?_ | refine WK.block ?_ | refine WK.inBlock ?_ | refine WK.skip ?_ | refine WK.label ?_ | refine WK.scope ?_ | refine WK.inScope ?_ | refine WK.exit rfl ?_)
  refine WK.ghost (Ghost.frzVar 2 rfl rfl) ?_
  refine WK.ghost (Ghost.frzVar 3 rfl rfl) ?_
  repeat (first | refine WK.seq ?_ | refine WK.block ?_ | refine WK.inBlock ?_ | refine WK.skip ?_ | refine WK.label ?_ | refine WK.scope ?_ | refine WK.inScope ?_ | refine WK.exit rfl ?_)
  first | refine WK.reg 200 Tryz.ntmps56 (by kernel_rfl) ?_ | refine WK.regD 200 clsOf (by kernel_rfl) Tryz.ntmps56 (by kernel_rfl) (by kernel_rfl) ?_
  intro A hA Q hQ
  simp
  refine hQ _ _ ?_
  clear hQ hA
  repeat (first | refine WK.seq ?_ | refine WK.block ?_ | refine WK.inBlock ?_ | refine WK.skip ?_ | refine WK.label ?_ | refine WK.scope ?_ | refine WK.inScope ?_ | refine WK.exit rfl ?_)
  refine WK.ret Tryz.func56 (by simp (maxDischargeDepth := 120) [Tryz.results56]) (by simp)
theorem plist_c (m : FlowMod) (l : List Flow) (hm : FOk (FlowMod.flow m)) (hl : l.length ≤ 1000000) (hf : ∀ f, f ∈ l → FPl f) :
    FnP Tryz.prog 57 [flowS l, .agg m.enc] (intS (took m l)) := by
  refine FnP.intro Tryz.func57 rfl rfl fun G w => ?_
  repeat (first | refine WK.seq ?_ | refine WK.block ?_ | refine WK.inBlock ?_ | refine WK.skip ?_ | refine WK.label ?_ | refine WK.scope ?_ | refine WK.inScope ?_ | refine WK.exit rfl ?_)
  first | refine WK.reg 100 Tryz.ntmps57 (by kernel_rfl) ?_ | refine WK.regD 100 clsOf (by kernel_rfl) Tryz.ntmps57 (by kernel_rfl) (by kernel_rfl) ?_
  intro A hA Q hQ
  simp
  refine hQ _ _ ?_
  clear hQ hA
  repeat (first | refine WK.seq ?_ | refine WK.block ?_ | refine WK.inBlock ?_ | refine WK.skip ?_ | refine WK.label ?_ | refine WK.scope ?_ | refine WK.inScope ?_ | refine WK.exit rfl ?_)
  first | refine WK.reg 200 Tryz.ntmps57 (by kernel_rfl) ?_ | refine WK.regD 200 clsOf (by kernel_rfl) Tryz.ntmps57 (by kernel_rfl) (by kernel_rfl) ?_
  intro A hA Q hQ
  simp [flowS]
  refine RunQ.call rfl rfl rfl rfl (by rfl) (by simp (maxDischargeDepth := 120) [flowS]) (pOf_c m l) (by simp [flowS]) ?_
  refine RunQ.eval ?_
  simp [flowS]
  refine RunQ.call rfl rfl rfl rfl (by rfl) (by simp (maxDischargeDepth := 120)) (collect_int 78 [.iptr m.enc, .iptr [.sl false l.length (flowL l)]] (took m l) (by simp) (by rw [took_len]; have := tookN_len m l l.length; omega) (seqOf_c m l hm hl hf)) (by simp) ?_
  refine RunQ.eval ?_
  simp
  refine hQ _ _ ?_
  clear hQ hA
  repeat (first | refine WK.seq ?_ | refine WK.block ?_ | refine WK.inBlock ?_ | refine WK.skip ?_ | refine WK.label ?_ | refine WK.scope ?_ | refine WK.inScope ?_ | refine WK.exit rfl ?_)
  refine WK.ret Tryz.func57 (by simp (maxDischargeDepth := 120) [Tryz.results57]) (by simp)
end Go.Proofs.YtbncoeoamjcjjaaGreat
