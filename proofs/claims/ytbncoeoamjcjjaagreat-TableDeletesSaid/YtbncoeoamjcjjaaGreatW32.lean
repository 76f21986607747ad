/- Tables: modifying and deleting, and any change. -/
import Derived.Test.YtbncoeoamjcjjaaGreatW31
set_option linter.all false
set_option linter.unnecessarySimpa false
set_option linter.unusedVariables false
set_option linter.unusedSimpArgs false
namespace Go.Proofs.YtbncoeoamjcjjaaGreat
open Go Go.AI Go.Proofs

def withInsts (m : FlowMod) (f : Flow) : Flow := ⟨f.cookie, f.prio, f.idle, f.hard, f.flags, f.mat, m.insts⟩
def tMod (l : List Flow) (m : FlowMod) : List Flow := l.map fun f => if FlowMod.takes m f then withInsts m f else f
def tDrop (l : List Flow) (m : FlowMod) : List Flow := l.filter fun f => !FlowMod.takes m f
def tDo (l : List Flow) (m : FlowMod) : List Flow × F3 :=
  if m.command == 0 then tAdd l m
  else if m.command == 1 || m.command == 2 then (tMod l m, F3.zero)
  else if m.command == 3 || m.command == 4 then (tDrop l m, F3.zero)
  else ([], ⟨true, 5, 6⟩)
/-- the flows at some places are given what to do -/
def modAt (m : FlowMod) (l : List Flow) : List Int → List Flow
  | [] => l
  | x :: xs => modAt m (l.set x.toNat (withInsts m (nth l x.toNat))) xs
theorem modAt_len (m : FlowMod) : ∀ (xs : List Int) (l : List Flow), (modAt m l xs).length = l.length
  | [], l => rfl
  | x :: xs, l => by rw [modAt, modAt_len m xs, List.length_set]
theorem modAt_app (m : FlowMod) : ∀ (xs : List Int) (l : List Flow) (x : Int), modAt m l (xs ++ [x]) = (modAt m l xs).set x.toNat (withInsts m (nth (modAt m l xs) x.toNat))
  | [], l, x => rfl
  | y :: ys, l, x => by rw [List.cons_append, modAt, modAt_app m ys, modAt]
theorem modAt_get (m : FlowMod) : ∀ (xs : List Int) (l : List Flow) (i : Nat), i < l.length → (∀ x, x ∈ xs → 0 ≤ x) → nth (modAt m l xs) i = if (i : Int) ∈ xs then withInsts m (nth l i) else nth l i
  | [], l, i, _, _ => by simp [modAt]
  | x :: xs, l, i, h, hp => by
    have h0 := hp x (by simp)
    have ww : ∀ f, withInsts m (withInsts m f) = withInsts m f := fun f => rfl
    rw [modAt, modAt_get m xs _ i (by rw [List.length_set]; exact h) (fun y hy => hp y (List.mem_cons_of_mem _ hy))]
    by_cases hx : (i : Int) = x
    · subst hx
      have e : nth (l.set i (withInsts m (nth l i))) i = withInsts m (nth l i) := by
        unfold nth; rw [List.getD_eq_getElem?_getD, List.getElem?_set_self h]; rfl
      simp only [Int.toNat_natCast, e, ww, List.mem_cons, true_or, if_true]
      split <;> rfl
    · have e : nth (l.set x.toNat (withInsts m (nth l x.toNat))) i = nth l i := by
        unfold nth; rw [List.getD_eq_getElem?_getD, List.getElem?_set_ne (by omega), List.getD_eq_getElem?_getD]
      rw [e]
      simp only [List.mem_cons, hx, false_or]
theorem took_mem {m : FlowMod} {l : List Flow} {i : Nat} (h : i < l.length) : ((i : Int) ∈ took m l) ↔ FlowMod.takes m (nth l i) = true := by
  unfold took tookN
  rw [List.mem_map]
  constructor
  · rintro ⟨j, hj, e⟩
    have : j = i := by omega
    subst this
    exact (List.mem_filter.1 hj).2
  · intro ht
    exact ⟨i, List.mem_filter.2 ⟨List.mem_range.2 h, ht⟩, rfl⟩
theorem nth_ext {α : Type} [Inhabited α] {a b : List α} (h : a.length = b.length) (e : ∀ i, i < a.length → nth a i = nth b i) : a = b := by
  apply List.ext_getElem h
  intro i h1 h2
  have := e i h1
  rwa [nth_eq h1, nth_eq h2] at this
theorem nth_map {α β : Type} [Inhabited α] [Inhabited β] {f : α → β} {l : List α} {i : Nat} (h : i < l.length) : nth (l.map f) i = f (nth l i) := by
  rw [nth_eq (by simpa using h), nth_eq h]; simp
theorem modAt_all (m : FlowMod) (l : List Flow) : modAt m l (took m l) = tMod l m := by
  apply nth_ext (by rw [modAt_len]; simp [tMod])
  intro i hi
  rw [modAt_len] at hi
  rw [modAt_get m _ l i hi (fun x hx => by obtain ⟨p, rfl, _⟩ := took_pos hx; omega)]
  unfold tMod
  rw [nth_map hi]
  by_cases ht : FlowMod.takes m (nth l i) = true
  · rw [if_pos ((took_mem hi).2 ht), if_pos ht]
  · rw [if_neg (fun h => ht ((took_mem hi).1 h)), if_neg ht]
theorem flow_insts (l : List Flow) (i : Nat) (m : FlowMod) (h : i < l.length) :
    (flowL l).take (i * 7 + 6) ++ .sl false m.insts.length (instL m.insts) :: (flowL l).drop (i * 7 + 6 + 1) = flowL (l.set i (withInsts m (nth l i))) := by
  have e := flow_set l i (withInsts m (nth l i)) h
  rw [← e]
  have e1 : (flowL l).take (i * 7 + 6) = (flowL l).take (i * 7) ++ ((flowL l).drop (i * 7)).take 6 := by rw [List.take_add]
  have e2 : ((flowL l).drop (i * 7)).take 6 = (((flowL l).drop (i * 7)).take 7).take 6 := by rw [List.take_take]; rfl
  rw [e1, e2, flow_sub l i h, List.append_assoc]
  rfl
theorem tmod_c (l : List Flow) (m : FlowMod) (hm : FOk (FlowMod.flow m)) (hl : l.length ≤ 1000000) (hf : ∀ f, f ∈ l → FPl f) :
    FnP Tryz.prog 30 [.iptr (chg m l)] (flowS (tMod l m)) := by
  have hlen : (tMod l m).length = l.length := by simp [tMod]
  have hmt : modAt m l [] = l := rfl
  refine FnP.intro Tryz.func30 rfl rfl fun G w => ?_
  repeat (first | refine WK.seq ?_ | refine WK.block ?_ | refine WK.inBlock ?_ | refine WK.skip ?_ | refine WK.label ?_ | refine WK.scope ?_ | refine WK.inScope ?_ | refine WK.exit rfl ?_)
  first | refine WK.reg 100 Tryz.ntmps30 (by kernel_rfl) ?_ | refine WK.regD 100 clsOf (by kernel_rfl) Tryz.ntmps30 (by kernel_rfl) (by kernel_rfl) ?_
  intro A hA Q hQ
  simp
  refine hQ _ _ ?_
  clear hQ hA
  repeat (first | refine WK.seq ?_ | refine WK.block ?_ | refine WK.inBlock ?_ | refine WK.skip ?_ | refine WK.label ?_ | refine WK.scope ?_ | refine WK.inScope ?_ | refine WK.exit rfl ?_)
  first | refine WK.reg 200 Tryz.ntmps30 (by kernel_rfl) ?_ | refine WK.regD 200 clsOf (by kernel_rfl) Tryz.ntmps30 (by kernel_rfl) (by kernel_rfl) ?_
  intro A hA Q hQ
  simp [chg, FlowMod.enc]
  refine RunQ.callO 900 rfl rfl rfl (by simp [flowS]) (by rfl) (by simp (maxDischargeDepth := 120) [flowS]) (fresh_c l hl hf) (by simp [flowS]) (by simp [flowS]) (by simp [flowS]) ?_
  refine RunQ.eval ?_
  simp [flowS]
  refine hQ _ _ ?_
  clear hQ hA
  repeat (first | refine WK.seq ?_ | refine WK.block ?_ | refine WK.inBlock ?_ | refine WK.skip ?_ | refine WK.label ?_ | refine WK.scope ?_ | refine WK.inScope ?_ | refine WK.exit rfl ?_)
  first | refine WK.reg 300 Tryz.ntmps30 (by kernel_rfl) ?_ | refine WK.regD 300 clsOf (by kernel_rfl) Tryz.ntmps30 (by kernel_rfl) (by kernel_rfl) ?_
  intro A hA Q hQ
  simp [chg, FlowMod.enc]
  refine RunQ.call rfl rfl rfl rfl (by rfl) (by simp (maxDischargeDepth := 120) [flowS, FlowMod.enc, intS]) (plist_c m l hm hl hf) (by simp [flowS, FlowMod.enc, intS]) ?_
  refine RunQ.eval ?_
  simp [flowS, FlowMod.enc, intS]
  refine hQ _ _ ?_
  clear hQ hA
  repeat (first | refine WK.seq ?_ | refine WK.block ?_ | refine WK.inBlock ?_ | refine WK.skip ?_ | refine WK.label ?_ | refine WK.scope ?_ | refine WK.inScope ?_ | refine WK.exit rfl ?_)
  refine WK.loopI (fun _ => 900) (fun i : Nat => (⟨(upd (upd (upd (upd (upd J 0 (.iptr (chg m l))) 3 (.msl 1 0 l.length)) 19 (.sl false (took m l).length (intL (took m l)))) 20 (.int .i64 (took m l).length)) 21 (.int .i64 i)), (upd B0 1 (.buf 7 (flowL (modAt m l ((took m l).take i))))), 0⟩ : St)) (fun i => i ≤ (took m l).length) (fun i => (took m l).length - i) (0) (by repeat (first | exact TmW.nil | refine TmW.upd ?_ (by simp (maxDischargeDepth := 120) [hmt, intS, chg, FlowMod.enc]))) (by repeat (first | exact BxW.nil | refine BxW.upd ?_ (by simp (maxDischargeDepth := 120) [hmt, intS, chg, FlowMod.enc]))) (by first | exact InjW.id | exact InjW.nil | exact InjW.one | exact InjW.two (by simp) | exact InjW.three (by simp) (by simp) (by simp)) (by omega) (fun i hi IH => ?_)
  repeat (first | refine WK.seq ?_ | refine WK.block ?_ | refine WK.inBlock ?_ | refine WK.skip ?_ | refine WK.label ?_ | refine WK.scope ?_ | refine WK.inScope ?_ | refine WK.exit rfl ?_)
  first | refine WK.reg 400 Tryz.ntmps30 (by kernel_rfl) ?_ | refine WK.regD 400 clsOf (by kernel_rfl) Tryz.ntmps30 (by kernel_rfl) (by kernel_rfl) ?_
  intro A hA Q hQ
  simp
  refine hQ _ _ ?_
  clear hQ hA
  repeat (first | refine WK.seq ?_ | refine WK.block ?_ | refine WK.inBlock ?_ | refine WK.skip ?_ | refine WK.label ?_ | refine WK.scope ?_ | refine WK.inScope ?_ | refine WK.exit rfl ?_)
  refine WK.cond2 rfl (fun h1 => ?_) (fun h1 => ?_)
  · simp at h1
    have h2 : i < (took m l).length := by omega
    obtain ⟨p, hp, hpl⟩ := took_pos (nth_mem h2)
    have h3 := int_sub (took m l) i h2
    rw [hp] at h3
    have htl : (took m l).length ≤ l.length := by rw [took_len]; exact tookN_len m l l.length
    have h6 : IntKind.i64.wrap ((i : Int) + 1) = i + 1 := wrap_i64 (by omega) (by omega)
    have h7 : (modAt m l ((took m l).take i)).length = l.length := modAt_len _ _ _
    have h8 := flow_insts (modAt m l ((took m l).take i)) p m (by omega)
    have h9 := modAt_app m ((took m l).take i) l p
    rw [Int.toNat_natCast, ← hp, ← take_nth h2] at h9
    rw [← h9] at h8
    have b1 : p * 7 + 6 + 1 ≤ l.length * 7 := by omega
    have b2 : p * 7 + 6 < l.length * 7 := by omega
    repeat (first | refine WK.seq ?_ | refine WK.block ?_ | refine WK.inBlock ?_ | refine WK.skip ?_ | refine WK.label ?_ | refine WK.scope ?_ | refine WK.inScope ?_ | refine WK.exit rfl ?_)
    first | refine WK.reg 500 Tryz.ntmps30 (by kernel_rfl) ?_ | refine WK.regD 500 clsOf (by kernel_rfl) Tryz.ntmps30 (by kernel_rfl) (by kernel_rfl) ?_
    intro A hA Q hQ
    simp [h2, h3]
    refine hQ _ _ ?_
    clear hQ hA
    repeat (first | refine WK.seq ?_ | refine WK.block ?_ | refine WK.inBlock ?_ | refine WK.skip ?_ | refine WK.label ?_ | refine WK.scope ?_ | refine WK.inScope ?_ | refine WK.exit rfl ?_)
    first | refine WK.reg 600 Tryz.ntmps30 (by kernel_rfl) ?_ | refine WK.regD 600 clsOf (by kernel_rfl) Tryz.ntmps30 (by kernel_rfl) (by kernel_rfl) ?_
    intro A hA Q hQ
    simp [chg, FlowMod.enc, hpl, h7, b1, b2]
    refine RunQ.call rfl rfl rfl rfl (by rfl) (by simp (maxDischargeDepth := 120) [FlowMod.enc, FlowMod.flow, Flow.enc, hpl, h7, b1, b2]) (of2_c m hm) (by simp [FlowMod.enc, FlowMod.flow, Flow.enc, hpl, h7, b1, b2]) ?_
    refine RunQ.eval ?_
    simp [FlowMod.enc, FlowMod.flow, Flow.enc, hpl, h7, b1, b2]
    refine hQ _ _ ?_
    clear hQ hA
    repeat (first | refine WK.seq ?_ | refine WK.block ?_ | refine WK.inBlock ?_ | refine WK.skip ?_ | refine WK.label ?_ | refine WK.scope ?_ | refine WK.inScope ?_ | refine WK.exit rfl ?_)
    first | refine WK.reg 700 Tryz.ntmps30 (by kernel_rfl) ?_ | refine WK.regD 700 clsOf (by kernel_rfl) Tryz.ntmps30 (by kernel_rfl) (by kernel_rfl) ?_
    intro A hA Q hQ
    simp [h6]
    refine hQ _ _ ?_
    clear hQ hA
    repeat (first | refine WK.seq ?_ | refine WK.block ?_ | refine WK.inBlock ?_ | refine WK.skip ?_ | refine WK.label ?_ | refine WK.scope ?_ | refine WK.inScope ?_ | refine WK.exit rfl ?_)
    refine WK.next (fun n => n) (IH (i + 1) (by omega) (by first | omega | (dsimp only; omega))) (by repeat (first | exact TmW.nil | refine TmW.upd ?_ (by simp (maxDischargeDepth := 120) [h6, h8, chg, FlowMod.enc]))) (by repeat (first | exact BxW.nil | refine BxW.upd ?_ (by simp (maxDischargeDepth := 120) [h6, h8, chg, FlowMod.enc]))) (by first | exact InjW.id | exact InjW.nil | exact InjW.one | exact InjW.two (by simp) | exact InjW.three (by simp) (by simp) (by simp))
  · simp at h1
    have h2 : i = (took m l).length := by omega
    have h3 : modAt m l ((took m l).take i) = tMod l m := by rw [h2, List.take_length, modAt_all]
    rw [h3]
    repeat (first | refine WK.seq ?_ | refine WK.block ?_ | refine WK.inBlock ?_ | refine WK.skip ?_ | refine WK.label ?_ | refine WK.scope ?_ | refine WK.inScope ?_ | refine WK.exit rfl ?_)
    first | refine WK.reg 800 Tryz.ntmps30 (by kernel_rfl) ?_ | refine WK.regD 800 clsOf (by kernel_rfl) Tryz.ntmps30 (by kernel_rfl) (by kernel_rfl) ?_
    intro A hA Q hQ
    simp
    refine hQ _ _ ?_
    clear hQ hA
    repeat (first | refine WK.seq ?_ | refine WK.block ?_ | refine WK.inBlock ?_ | refine WK.skip ?_ | refine WK.label ?_ | refine WK.scope ?_ | refine WK.inScope ?_ | refine WK.exit rfl ?_)
    refine WK.ghost (Ghost.frzSl 2 7 rfl rfl) ?_
    repeat (first | refine WK.seq ?_ | refine WK.block ?_ | refine WK.inBlock ?_ | refine WK.skip ?_ | refine WK.label ?_ | refine WK.scope ?_ | refine WK.inScope ?_ | refine WK.exit rfl ?_)
    refine WK.ret Tryz.func30 (by simp (maxDischargeDepth := 120) [Tryz.results30, flowS, flow_full, hlen]) (by simp [flowS, flow_full, hlen])
end Go.Proofs.YtbncoeoamjcjjaaGreat
