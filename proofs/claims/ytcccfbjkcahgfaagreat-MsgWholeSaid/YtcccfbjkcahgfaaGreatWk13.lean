/- Streams: what is collected; the law of layer 20 about them. -/
import Derived.Test.YtcccfbjkcahgfaaGreatWk12
set_option linter.all false
set_option linter.unnecessarySimpa false
section
set_option linter.unusedVariables false
set_option linter.unusedSimpArgs false
namespace Go.Proofs.YtcccfbjkcahgfaaGreat
open Go Go.AI Go.Proofs
attribute [local irreducible] FnP FnO FnB FnT FnSeq FnV FnSeqV WK RunQ RunQW RunX RunXW

theorem appBys : AppOk Tryz.prog 46 32 1 24 := ⟨by simp, by simp, by simp, by simp, by simp, by simp, by omega, by omega⟩
def bysL (l : List (List (BitVec 8))) : List AV := l.map byS
@[simp] theorem bysL_len (l : List (List (BitVec 8))) : (bysL l).length = l.length := by simp [bysL]
@[simp] theorem bysL_cl (l : List (List (BitVec 8))) : ClL (bysL l) = true := by
  induction l with
  | nil => rfl
  | cons x l ih => unfold bysL at *; simp [byS, ih]
theorem appendSeq_by (fid : Nat) (caps : List AV) (l : List (List (BitVec 8))) (hcl : ClL caps = true) (hl : l.length ≤ 1000000) (h : FnSeq Tryz.prog fid caps (l.map fun m => [byS m])) :
    FnP Tryz.prog 77 [.sl true 0 [], .fn fid caps] (.sl false l.length (bysL l)) := by
  have hy : ∀ x, x ∈ (l.map fun m => [byS m]) → x.length = 1 ∧ ClL x = true := by
    intro x hx
    simp only [List.mem_map] at hx
    obtain ⟨n, _, rfl⟩ := hx
    exact ⟨rfl, by simp [byS]⟩
  refine FnP.intro Tryz.func77 rfl rfl fun G w => ?_
  repeat (first | refine WK.seq ?_ | refine WK.block ?_ | refine WK.inBlock ?_ | refine WK.skip ?_ | refine WK.label ?_ | refine WK.scope ?_ | refine WK.inScope ?_ | refine WK.exit rfl ?_)
  first | refine WK.reg 100 Tryz.ntmps77 (by kernel_rfl) ?_ | refine WK.regD 100 clsOf (by kernel_rfl) Tryz.ntmps77 (by kernel_rfl) (by kernel_rfl) ?_
  intro A hA Q hQ
  simp
  refine hQ _ _ ?_
  clear hQ hA
  repeat (first | refine WK.seq ?_ | refine WK.block ?_ | refine WK.inBlock ?_ | refine WK.skip ?_ | refine WK.label ?_ | refine WK.scope ?_ | refine WK.inScope ?_ | refine WK.exit rfl ?_)
  first | refine WK.reg 200 Tryz.ntmps77 (by kernel_rfl) ?_ | refine WK.regD 200 clsOf (by kernel_rfl) Tryz.ntmps77 (by kernel_rfl) (by kernel_rfl) ?_
  intro A hA Q hQ
  simp
  refine hQ _ _ ?_
  clear hQ hA
  repeat (first | refine WK.seq ?_ | refine WK.block ?_ | refine WK.inBlock ?_ | refine WK.skip ?_ | refine WK.label ?_ | refine WK.scope ?_ | refine WK.inScope ?_ | refine WK.exit rfl ?_)
  refine WK.ghost (Ghost.ownVar 0 0 900 1 rfl rfl rfl) ?_
  repeat (first | refine WK.seq ?_ | refine WK.block ?_ | refine WK.inBlock ?_ | refine WK.skip ?_ | refine WK.label ?_ | refine WK.scope ?_ | refine WK.inScope ?_ | refine WK.exit rfl ?_)
  refine WK.next (st' := ⟨(upd (upd J 2 (.ptr 0 0)) 6 (.fn fid caps)), (fun i : Nat => (upd (upd B0 0 (.var [.msl 1 0 i])) 1 (.buf 1 (bysL (l.take i))))) 0, 0⟩) (fun n => if n = 1 then 900 else n) ?_ (by repeat (first | exact TmW.nil | refine TmW.upd ?_ (by simp (maxDischargeDepth := 120) [hcl, bysL]))) (by repeat (first | exact BxW.nil | refine BxW.upd ?_ (by simp (maxDischargeDepth := 120) [hcl, bysL]))) (by first | exact InjW.id | exact InjW.nil | exact InjW.one | exact InjW.two (by simp) | exact InjW.three (by simp) (by simp) (by simp))
  refine WK.rangeM ((l.map fun m => [byS m])) (fun _ => true) (fun _ => none) (fun i : Nat => (upd (upd B0 0 (.var [.msl 1 0 i])) 1 (.buf 1 (bysL (l.take i))))) [0] rfl (h) (by simp [hcl, bysL]) (by kernel_rfl) (hy) (fun i => by simp) (by simp) (by repeat (first | exact TmN.nil | refine TmN.upd ?_ (by simp [hcl, bysL]))) (fun i x hx hgo lp rc kp E own G w hR => ?_) (fun r => ?_)
  · have hi : i < l.length := by
      rcases Nat.lt_or_ge i l.length with h | h
      · exact h
      · rw [List.getElem?_eq_none (by rw [List.length_map]; exact h)] at hx; cases hx
    rw [List.getElem?_map, List.getElem?_eq_getElem hi] at hx
    simp only [Option.map_some, Option.some.injEq] at hx
    subst hx
    have h3 : (l.take i).length = i := by rw [List.length_take]; omega
    have hb : (i + 1) * 24 ≤ 140737488355328 := by omega
    have h4 : bysL (l.take (i + 1)) = bysL (l.take i) ++ [byS l[i]] := by unfold bysL; rw [List.take_succ_eq_append_getElem hi, List.map_append]; rfl
    have h5 : byS l[i] = .sl false l[i].length (byL l[i]) := rfl
    rw [h5] at h4 ⊢
    repeat (first | refine WK.seq ?_ | refine WK.block ?_ | refine WK.inBlock ?_ | refine WK.skip ?_ | refine WK.label ?_ | refine WK.scope ?_ | refine WK.inScope ?_ | refine WK.exit rfl ?_)
    first | refine WK.reg 300 Tryz.ntmps77 (by kernel_rfl) ?_ | refine WK.regD 300 clsOf (by kernel_rfl) Tryz.ntmps77 (by kernel_rfl) (by kernel_rfl) ?_
    intro A hA Q hQ
    simp
    refine hQ _ _ ?_
    clear hQ hA
    repeat (first | refine WK.seq ?_ | refine WK.block ?_ | refine WK.inBlock ?_ | refine WK.skip ?_ | refine WK.label ?_ | refine WK.scope ?_ | refine WK.inScope ?_ | refine WK.exit rfl ?_)
    refine WK.beginL hR ?_
    repeat (first | refine WK.seq ?_ | refine WK.block ?_ | refine WK.inBlock ?_ | refine WK.skip ?_ | refine WK.label ?_ | refine WK.scope ?_ | refine WK.inScope ?_ | refine WK.exit rfl ?_)
    first | refine WK.reg 400 Tryz.ntmps77 (by kernel_rfl) ?_ | refine WK.regD 400 clsOf (by kernel_rfl) Tryz.ntmps77 (by kernel_rfl) (by kernel_rfl) ?_
    intro A hA Q hQ
    simp
    refine RunQ.append 901 appBys rfl rfl rfl rfl rfl rfl rfl (by simp [hb, h3]) rfl (by simp [hb, h3]) (by simp [hb, h3]) (by simp [hb, h3]) (by simp [hb, h3]) ?_
    refine RunQ.eval ?_
    simp [hb, h3]
    refine hQ _ _ ?_
    clear hQ hA
    repeat (first | refine WK.seq ?_ | refine WK.block ?_ | refine WK.inBlock ?_ | refine WK.skip ?_ | refine WK.label ?_ | refine WK.scope ?_ | refine WK.inScope ?_ | refine WK.exit rfl ?_)
    refine WK.roundGo (fun n => if n = 1 then 901 else n) hR (rfl) (by repeat (first | exact BxW.nil | refine BxW.upd ?_ (by simp (maxDischargeDepth := 120) [h4]))) (by first | exact InjW.id | exact InjW.nil | exact InjW.one | exact InjW.two (by simp) | exact InjW.three (by simp) (by simp) (by simp)) (by simp)
  · rw [List.length_map, taken_true, jump_true]
    have hft : (bysL l).take l.length = bysL l := List.take_of_length_le (by simp)
    repeat (first | refine WK.seq ?_ | refine WK.block ?_ | refine WK.inBlock ?_ | refine WK.skip ?_ | refine WK.label ?_ | refine WK.scope ?_ | refine WK.inScope ?_ | refine WK.exit rfl ?_)
    first | refine WK.reg 500 Tryz.ntmps77 (by kernel_rfl) ?_ | refine WK.regD 500 clsOf (by kernel_rfl) Tryz.ntmps77 (by kernel_rfl) (by kernel_rfl) ?_
    intro A hA Q hQ
    simp
    refine hQ _ _ ?_
    clear hQ hA
    repeat (first | refine WK.seq ?_ | refine WK.block ?_ | refine WK.inBlock ?_ | refine WK.skip ?_ | refine WK.label ?_ | refine WK.scope ?_ | refine WK.inScope ?_ | refine WK.exit rfl ?_)
    refine WK.ghost (Ghost.frzSl 4 1 rfl rfl) ?_
    repeat (first | refine WK.seq ?_ | refine WK.block ?_ | refine WK.inBlock ?_ | refine WK.skip ?_ | refine WK.label ?_ | refine WK.scope ?_ | refine WK.inScope ?_ | refine WK.exit rfl ?_)
    refine WK.ret Tryz.func77 (by simp (maxDischargeDepth := 120) [Tryz.results77, hft]) (by simp [hft])
theorem collect_by (fid : Nat) (caps : List AV) (l : List (List (BitVec 8))) (hcl : ClL caps = true) (hl : l.length ≤ 1000000) (h : FnSeq Tryz.prog fid caps (l.map fun m => [byS m])) :
    FnP Tryz.prog 44 [.fn fid caps] (.sl false l.length (bysL l)) := by
  refine FnP.intro Tryz.func44 rfl rfl fun G w => ?_
  repeat (first | refine WK.seq ?_ | refine WK.block ?_ | refine WK.inBlock ?_ | refine WK.skip ?_ | refine WK.label ?_ | refine WK.scope ?_ | refine WK.inScope ?_ | refine WK.exit rfl ?_)
  first | refine WK.reg 100 Tryz.ntmps44 (by kernel_rfl) ?_ | refine WK.regD 100 clsOf (by kernel_rfl) Tryz.ntmps44 (by kernel_rfl) (by kernel_rfl) ?_
  intro A hA Q hQ
  simp
  refine hQ _ _ ?_
  clear hQ hA
  repeat (first | refine WK.seq ?_ | refine WK.block ?_ | refine WK.inBlock ?_ | refine WK.skip ?_ | refine WK.label ?_ | refine WK.scope ?_ | refine WK.inScope ?_ | refine WK.exit rfl ?_)
  first | refine WK.reg 200 Tryz.ntmps44 (by kernel_rfl) ?_ | refine WK.regD 200 clsOf (by kernel_rfl) Tryz.ntmps44 (by kernel_rfl) (by kernel_rfl) ?_
  intro A hA Q hQ
  simp
  refine RunQ.call rfl rfl rfl rfl (by rfl) (by simp (maxDischargeDepth := 120) [hcl]) (appendSeq_by fid caps l hcl hl h) (by simp [hcl]) ?_
  refine RunQ.eval ?_
  simp [hcl]
  refine hQ _ _ ?_
  clear hQ hA
  repeat (first | refine WK.seq ?_ | refine WK.block ?_ | refine WK.inBlock ?_ | refine WK.skip ?_ | refine WK.label ?_ | refine WK.scope ?_ | refine WK.inScope ?_ | refine WK.exit rfl ?_)
  refine WK.ret Tryz.func44 (by simp (maxDischargeDepth := 120) [Tryz.results44]) (by simp)
theorem frList_le : ∀ (n : Nat) (b : List (BitVec 8)), b.length ≤ n → (frList b).length ≤ n
  | 0, b, h => by
    cases hs : (frSays b).2
    · rw [(frList_none hs).1]; simp
    · have := frSays_len hs; omega
  | n + 1, b, h => by
    cases hs : (frSays b).2
    · rw [(frList_none hs).1]; simp
    · have := frSays_len hs
      rw [(frList_some hs).1, List.length_cons]
      have := frList_le n (b.drop (frSays b).1) (by rw [List.length_drop]; omega)
      omega
theorem flist_c (b : List (BitVec 8)) (hb : b.length ≤ 1000000) : FnP Tryz.prog 18 [byS b] (.sl false (frList b).length (bysL (frList b))) := by
  have h1 := split_c b
  have h2 := collect_by 78 [.iptr [byS b]] (frList b) (by simp [byS]) (by have := frList_le _ b (Nat.le_refl _); omega) (splitSeq_c b hb)
  unfold byS at *
  refine FnP.intro Tryz.func18 rfl rfl fun G w => ?_
  repeat' (first
   | refine WK.seq ?_
   | refine WK.block ?_
   | refine WK.inBlock ?_
   | refine WK.skip ?_
   | refine WK.label ?_
   | refine WK.scope ?_
   | refine WK.inScope ?_
   | refine WK.exit rfl ?_
   | refine WK.condT rfl ?_
   | refine WK.condF rfl ?_
   | (refine Hid.h hQ _ _ ?_; clear hQ hA)
   | refine WK.condAny rfl ?_ ?_
   | (refine WK.cond2 rfl (fun h => ?_) (fun h => ?_) <;> (first | (simp [*] at h; done) | (have h2 := h; simp at h2; exfalso; omega) | (have h2 := h; simp at h2; try simp only [Bool.not_eq_true', Bool.not_eq_false'] at h) | skip))
   | (refine WK.regH Tryz.ntmps18 (by kernel_rfl) ?_; intro A hA Q hQ; simp [*])
   | (refine RunQ.call rfl rfl rfl rfl rfl ?_ (h1) ?_ ?_; (focus (simp (maxDischargeDepth := 120) [*]; done)); (focus (simp [*]; done)); refine RunQ.evalH ?_; simp [*])
   | (refine RunQ.call rfl rfl rfl rfl rfl ?_ (h2) ?_ ?_; (focus (simp (maxDischargeDepth := 120) [*]; done)); (focus (simp [*]; done)); refine RunQ.evalH ?_; simp [*])
   | (refine WK.ret Tryz.func18 ?_ ?_ <;> simp (maxDischargeDepth := 120) [Tryz.results18, *])
   | fail)
theorem frest_c (b : List (BitVec 8)) (hb : b.length ≤ 1000000) : FnP Tryz.prog 19 [byS b] (byS (frRest b)) := by
  have hp := pieces_c b
  have hq := pseq_c b hb
  have hy := frXs_all b
  have hlen := frXs_len b
  have e0 : frB b 0 = .var [.sl false b.length (byL b)] := rfl
  have hb' : byS b = .sl false b.length (byL b) := rfl
  rw [hb'] at hp ⊢
  refine FnP.intro Tryz.func19 rfl rfl fun G w => ?_
  refine WK.anyNx (n := 100) ?_
  repeat' (first
   | refine WK.seq ?_
   | refine WK.block ?_
   | refine WK.inBlock ?_
   | refine WK.skip ?_
   | refine WK.label ?_
   | refine WK.scope ?_
   | refine WK.inScope ?_
   | refine WK.exit rfl ?_
   | refine WK.condT rfl ?_
   | refine WK.condF rfl ?_
   | (refine Hid.h hQ _ _ ?_; clear hQ hA)
   | refine WK.condAny rfl ?_ ?_
   | (refine WK.cond2 rfl (fun h => ?_) (fun h => ?_) <;> (first | (simp [*] at h; done) | (have h2 := h; simp at h2; exfalso; omega) | (have h2 := h; simp at h2; try simp only [Bool.not_eq_true', Bool.not_eq_false'] at h) | skip))
   | (refine WK.regH Tryz.ntmps19 (by kernel_rfl) ?_; intro A hA Q hQ; simp [*])
   | (refine RunQ.callV 500 rfl rfl rfl rfl rfl ?_ (hp) ?_ rfl ?_ ?_ ?_; (focus (simp (maxDischargeDepth := 120) [*]; done)); (focus (simp [*]; done)); (focus (simp [*]; done)); (focus (simp [*]; done)); refine RunQ.evalH ?_; simp [*])
   | fail)
  repeat (first | refine WK.seq ?_ | refine WK.block ?_ | refine WK.inBlock ?_ | refine WK.skip ?_ | refine WK.label ?_ | refine WK.scope ?_ | refine WK.inScope ?_ | refine WK.exit rfl ?_)
  refine WK.next (st' := ⟨upd ((upd J 3 (.ptr 201 0))) 8 (.fn 79 [.ptr 500 0]), upd ((fun i : Nat => (upd B0 201 (.var [.sl false (frAt b i).length (byL (frAt b i))]))) 0) 500 ((frB b) 0), 0⟩) (fun n => n) ?_ (by repeat (first | exact TmW.nil | refine TmW.upd ?_ (by simp (maxDischargeDepth := 120) [e0, frAt]))) (by repeat (first | exact BxW.nil | refine BxW.upd ?_ (by simp (maxDischargeDepth := 120) [e0, frAt]))) (by first | exact InjW.id | exact InjW.nil | exact InjW.one | exact InjW.two (by simp) | exact InjW.three (by simp) (by simp) (by simp))
  refine WK.rangeVM (tm := (upd J 3 (.ptr 201 0))) 500 (frB b) (frXs b) (fun _ => true) (fun _ => none) (fun i : Nat => (upd B0 201 (.var [.sl false (frAt b i).length (byL (frAt b i))]))) [201] rfl (by simp) (fun i => rfl) (by simp [e0, frAt]) rfl (by simp) (hq) (by repeat (first | exact TmW.nil | refine TmW.upd ?_ (by simp (maxDischargeDepth := 120) [e0, frAt]))) (by repeat (first | exact BxW.nil | refine BxW.upd ?_ (by simp (maxDischargeDepth := 120) [e0, frAt]))) (by kernel_rfl) (hy) (fun i => by simp) (by simp) (by repeat (first | exact TmN.nil | refine TmN.upd ?_ (by simp [e0, frAt]))) (fun i x hx hgo lp rc kp E own G w hR => ?_) (fun r => ?_)
  · have hi : i < (frList b).length := by
      rcases Nat.lt_or_ge i (frList b).length with h | h
      · exact h
      · rw [List.getElem?_eq_none (by rw [hlen]; exact h)] at hx; cases hx
    rw [frXs_get hi] at hx
    simp only [Option.some.injEq] at hx
    subst hx
    unfold frX
    obtain ⟨m, hm⟩ : ∃ m, (frAt b i).take (frSays (frAt b i)).1 = m := ⟨_, rfl⟩
    rw [hm]
    obtain ⟨c, hc⟩ : ∃ c, frAt b (i + 1) = c := ⟨_, rfl⟩
    rw [hc]
    obtain ⟨d, hd⟩ : ∃ d, frAt b i = d := ⟨_, rfl⟩
    rw [hd]
    clear hc hd hm hp hq hy hlen e0 hb' hi
    unfold byS at *
    repeat (first | refine WK.seq ?_ | refine WK.block ?_ | refine WK.inBlock ?_ | refine WK.skip ?_ | refine WK.label ?_ | refine WK.scope ?_ | refine WK.inScope ?_ | refine WK.exit rfl ?_)
    first | refine WK.reg 100 Tryz.ntmps19 (by kernel_rfl) ?_ | refine WK.regD 100 clsOf (by kernel_rfl) Tryz.ntmps19 (by kernel_rfl) (by kernel_rfl) ?_
    intro A hA Q hQ
    simp
    refine hQ _ _ ?_
    clear hQ hA
    repeat (first | refine WK.seq ?_ | refine WK.block ?_ | refine WK.inBlock ?_ | refine WK.skip ?_ | refine WK.label ?_ | refine WK.scope ?_ | refine WK.inScope ?_ | refine WK.exit rfl ?_)
    refine WK.beginL hR ?_
    repeat (first | refine WK.seq ?_ | refine WK.block ?_ | refine WK.inBlock ?_ | refine WK.skip ?_ | refine WK.label ?_ | refine WK.scope ?_ | refine WK.inScope ?_ | refine WK.exit rfl ?_)
    first | refine WK.reg 200 Tryz.ntmps19 (by kernel_rfl) ?_ | refine WK.regD 200 clsOf (by kernel_rfl) Tryz.ntmps19 (by kernel_rfl) (by kernel_rfl) ?_
    intro A hA Q hQ
    simp
    refine hQ _ _ ?_
    clear hQ hA
    repeat (first | refine WK.seq ?_ | refine WK.block ?_ | refine WK.inBlock ?_ | refine WK.skip ?_ | refine WK.label ?_ | refine WK.scope ?_ | refine WK.inScope ?_ | refine WK.exit rfl ?_)
    refine WK.roundGo (fun n => n) hR (rfl) (by repeat (first | exact BxW.nil | refine BxW.upd ?_ (by simp (maxDischargeDepth := 120)))) (by first | exact InjW.id | exact InjW.nil | exact InjW.one | exact InjW.two (by simp) | exact InjW.three (by simp) (by simp) (by simp)) (by simp)
  · rw [hlen, taken_true, jump_true]
    obtain ⟨h1, h2⟩ := (frList_at (frList b).length b).2 rfl
    rw [h2]
    have hr : (frRest b).length ≤ b.length := by rw [← h2]; exact frAt_len b _
    have hs := sclone_c (frRest b) (by omega)
    obtain ⟨c, hc⟩ : ∃ c, frRest b = c := ⟨_, rfl⟩
    rw [hc] at hs ⊢
    clear hc hp hq hy hlen e0 hb' h1 h2 hr
    unfold byS at *
    repeat' (first
     | refine WK.seq ?_
     | refine WK.block ?_
     | refine WK.inBlock ?_
     | refine WK.skip ?_
     | refine WK.label ?_
     | refine WK.scope ?_
     | refine WK.inScope ?_
     | refine WK.exit rfl ?_
     | refine WK.condT rfl ?_
     | refine WK.condF rfl ?_
     | (refine Hid.h hQ _ _ ?_; clear hQ hA)
     | refine WK.condAny rfl ?_ ?_
     | (refine WK.cond2 rfl (fun h => ?_) (fun h => ?_) <;> (first | (simp [*] at h; done) | (have h2 := h; simp at h2; exfalso; omega) | (have h2 := h; simp at h2; try simp only [Bool.not_eq_true', Bool.not_eq_false'] at h) | skip))
     | (refine WK.regH Tryz.ntmps19 (by kernel_rfl) ?_; intro A hA Q hQ; simp [*])
     | (refine RunQ.call rfl rfl rfl rfl rfl ?_ (hs) ?_ ?_; (focus (simp (maxDischargeDepth := 120) [*]; done)); (focus (simp [*]; done)); refine RunQ.evalH ?_; simp [*])
     | (refine WK.ret Tryz.func19 ?_ ?_ <;> simp (maxDischargeDepth := 120) [Tryz.results19, *])
     | fail)
end Go.Proofs.YtcccfbjkcahgfaaGreat
end

section
set_option linter.unusedVariables false
set_option linter.unusedSimpArgs false
namespace Go.Proofs.YtcccfbjkcahgfaaGreat
open Go Go.AI Go.Proofs
attribute [local irreducible] FnP FnO FnB FnT FnSeq FnV FnSeqV WK RunQ RunQW RunX RunXW

theorem mgEnc_one {m : Msg} (h : mgRight m = true) : frList (mgEnc m).1 = [(mgEnc m).1] ∧ frRest (mgEnc m).1 = [] ∧ (mgEnc m).1.length ≤ 65535 ∧ (mgEnc m).2 = 0 := by
  obtain ⟨h1, h2⟩ := mgEnc_head h
  obtain ⟨h3, h4⟩ := mgEnc_val h
  have h5 := frList_cons (b := []) h3 h4
  rw [List.append_nil] at h5
  have h6 : (mgEnc m).1.length ≤ 65535 := by
    rw [h1] at h2 ⊢
    have := frHead_val h2
    omega
  exact ⟨h5.1, h5.2, h6, h2⟩
set_option maxHeartbeats 8000000 in
theorem msgWhole_c (m : Msg) : FnP Tryz.prog 6 [.agg m.enc] (.bool true) := by
  have p1 := pMsg_c m
  cases h1 : msgPlain m
  · rw [h1] at p1
    unfold Msg.enc Flt.enc FlowMod.enc GroupMod.enc at *
    refine FnP.intro Tryz.func6 rfl rfl fun G w => ?_
    repeat' (first
     | refine WK.seq ?_
     | refine WK.block ?_
     | refine WK.inBlock ?_
     | refine WK.skip ?_
     | refine WK.label ?_
     | refine WK.scope ?_
     | refine WK.inScope ?_
     | refine WK.exit rfl ?_
     | refine WK.condT rfl ?_
     | refine WK.condF rfl ?_
     | (refine Hid.h hQ _ _ ?_; clear hQ hA)
     | refine WK.condAny rfl ?_ ?_
     | (refine WK.cond2 rfl (fun h => ?_) (fun h => ?_) <;> (first | (simp [*] at h; done) | (have h2 := h; simp at h2; exfalso; omega) | (have h2 := h; simp at h2; try simp only [Bool.not_eq_true', Bool.not_eq_false'] at h) | skip))
     | (refine Fork.mk (fun h => ?_) (fun h => ?_) <;> (first | (simp [*] at h; done) | (have h2 := h; simp at h2; exfalso; omega) | (have h2 := h; simp at h2; try simp only [Bool.not_eq_true', Bool.not_eq_false'] at h) | skip))
     | (refine WK.regH Tryz.ntmps6 (by kernel_rfl) ?_; intro A hA Q hQ; simp [*])
     | (refine RunQ.gd rfl (by rw [hA.h]; rfl) ?_; simp [*])
     | (refine RunQ.call rfl rfl rfl rfl rfl ?_ (p1) ?_ ?_; (focus (simp (maxDischargeDepth := 120) [*]; done)); (focus (simp [*]; done)); refine RunQ.evalH ?_; simp [*])
     | (refine RunQ.call rfl rfl rfl rfl rfl ?_ (awake20_c) ?_ ?_; (focus (simp (maxDischargeDepth := 120) [*]; done)); (focus (simp [*]; done)); refine RunQ.evalH ?_; simp [*])
     | (refine RunQW.call rfl rfl rfl rfl ?_ (p1) ?_ ?_; (focus (simp (maxDischargeDepth := 120) [*]; done)); (focus (simp [*]; done)); refine RunQ.evalH ?_; simp [*])
     | (refine RunQW.call rfl rfl rfl rfl ?_ (awake20_c) ?_ ?_; (focus (simp (maxDischargeDepth := 120) [*]; done)); (focus (simp [*]; done)); refine RunQ.evalH ?_; simp [*])
     | (refine WK.ret Tryz.func6 ?_ ?_ <;> simp (maxDischargeDepth := 120) [Tryz.results6, *])
     | fail)
  have hm := msgPlain_B h1
  have r1 := mgright_c m hm
  rw [h1] at p1
  cases h2 : mgRight m
  · rw [h2] at r1
    unfold Msg.enc Flt.enc FlowMod.enc GroupMod.enc at *
    clear h1 h2 hm
    refine FnP.intro Tryz.func6 rfl rfl fun G w => ?_
    repeat' (first
     | refine WK.seq ?_
     | refine WK.block ?_
     | refine WK.inBlock ?_
     | refine WK.skip ?_
     | refine WK.label ?_
     | refine WK.scope ?_
     | refine WK.inScope ?_
     | refine WK.exit rfl ?_
     | refine WK.condT rfl ?_
     | refine WK.condF rfl ?_
     | (refine Hid.h hQ _ _ ?_; clear hQ hA)
     | refine WK.condAny rfl ?_ ?_
     | (refine WK.cond2 rfl (fun h => ?_) (fun h => ?_) <;> (first | (simp [*] at h; done) | (have h2 := h; simp at h2; exfalso; omega) | (have h2 := h; simp at h2; try simp only [Bool.not_eq_true', Bool.not_eq_false'] at h) | skip))
     | (refine Fork.mk (fun h => ?_) (fun h => ?_) <;> (first | (simp [*] at h; done) | (have h2 := h; simp at h2; exfalso; omega) | (have h2 := h; simp at h2; try simp only [Bool.not_eq_true', Bool.not_eq_false'] at h) | skip))
     | (refine WK.regH Tryz.ntmps6 (by kernel_rfl) ?_; intro A hA Q hQ; simp [*])
     | (refine RunQ.gd rfl (by rw [hA.h]; rfl) ?_; simp [*])
     | (refine RunQ.call rfl rfl rfl rfl rfl ?_ (p1) ?_ ?_; (focus (simp (maxDischargeDepth := 120) [*]; done)); (focus (simp [*]; done)); refine RunQ.evalH ?_; simp [*])
     | (refine RunQ.call rfl rfl rfl rfl rfl ?_ (r1) ?_ ?_; (focus (simp (maxDischargeDepth := 120) [*]; done)); (focus (simp [*]; done)); refine RunQ.evalH ?_; simp [*])
     | (refine RunQ.call rfl rfl rfl rfl rfl ?_ (awake20_c) ?_ ?_; (focus (simp (maxDischargeDepth := 120) [*]; done)); (focus (simp [*]; done)); refine RunQ.evalH ?_; simp [*])
     | (refine RunQW.call rfl rfl rfl rfl ?_ (p1) ?_ ?_; (focus (simp (maxDischargeDepth := 120) [*]; done)); (focus (simp [*]; done)); refine RunQ.evalH ?_; simp [*])
     | (refine RunQW.call rfl rfl rfl rfl ?_ (r1) ?_ ?_; (focus (simp (maxDischargeDepth := 120) [*]; done)); (focus (simp [*]; done)); refine RunQ.evalH ?_; simp [*])
     | (refine RunQW.call rfl rfl rfl rfl ?_ (awake20_c) ?_ ?_; (focus (simp (maxDischargeDepth := 120) [*]; done)); (focus (simp [*]; done)); refine RunQ.evalH ?_; simp [*])
     | (refine WK.ret Tryz.func6 ?_ ?_ <;> simp (maxDischargeDepth := 120) [Tryz.results6, *])
     | fail)
  have a := mgencP_c m hm
  obtain ⟨e1, e2, e3, e4⟩ := mgEnc_one h2
  rw [h2] at r1
  rw [e4] at a
  obtain ⟨B, hB⟩ : ∃ B, (mgEnc m).1 = B := ⟨_, rfl⟩
  rw [hB] at a e1 e2 e3
  have q := bytesEq_c B B
  have l := flist_c B (by omega)
  have r := frest_c B (by omega)
  rw [beq_self_eq_true] at q
  rw [e1] at l
  rw [e2] at r
  have e5 : bysL [B] = [.sl false B.length (byL B)] := rfl
  rw [e5] at l
  have e3' : (B.length : Int) ≤ 65535 := by omega
  simp only [byS, byL_nil, List.length_nil, List.length_cons, Nat.zero_add] at a q l r
  unfold Msg.enc Flt.enc FlowMod.enc GroupMod.enc at *
  clear h1 h2 hm e1 e2 e4 e5 hB
  refine FnP.intro Tryz.func6 rfl rfl fun G w => ?_
  repeat' (first
   | refine WK.seq ?_
   | refine WK.block ?_
   | refine WK.inBlock ?_
   | refine WK.skip ?_
   | refine WK.label ?_
   | refine WK.scope ?_
   | refine WK.inScope ?_
   | refine WK.exit rfl ?_
   | refine WK.condT rfl ?_
   | refine WK.condF rfl ?_
   | (refine Hid.h hQ _ _ ?_; clear hQ hA)
   | refine WK.condAny rfl ?_ ?_
   | (refine WK.cond2 rfl (fun h => ?_) (fun h => ?_) <;> (first | (simp [*] at h; done) | (have h2 := h; simp at h2; exfalso; omega) | (have h2 := h; simp at h2; try simp only [Bool.not_eq_true', Bool.not_eq_false'] at h) | skip))
   | (refine Fork.mk (fun h => ?_) (fun h => ?_) <;> (first | (simp [*] at h; done) | (have h2 := h; simp at h2; exfalso; omega) | (have h2 := h; simp at h2; try simp only [Bool.not_eq_true', Bool.not_eq_false'] at h) | skip))
   | (refine WK.regH Tryz.ntmps6 (by kernel_rfl) ?_; intro A hA Q hQ; simp [*])
   | (refine RunQ.gd rfl (by rw [hA.h]; rfl) ?_; simp [*])
   | (refine RunQ.call rfl rfl rfl rfl rfl ?_ (p1) ?_ ?_; (focus (simp (maxDischargeDepth := 120) [*]; done)); (focus (simp [*]; done)); refine RunQ.evalH ?_; simp [*])
   | (refine RunQ.call rfl rfl rfl rfl rfl ?_ (r1) ?_ ?_; (focus (simp (maxDischargeDepth := 120) [*]; done)); (focus (simp [*]; done)); refine RunQ.evalH ?_; simp [*])
   | (refine RunQ.call rfl rfl rfl rfl rfl ?_ (a) ?_ ?_; (focus (simp (maxDischargeDepth := 120) [*]; done)); (focus (simp [*]; done)); refine RunQ.evalH ?_; simp [*])
   | (refine RunQ.call rfl rfl rfl rfl rfl ?_ (q) ?_ ?_; (focus (simp (maxDischargeDepth := 120) [*]; done)); (focus (simp [*]; done)); refine RunQ.evalH ?_; simp [*])
   | (refine RunQ.call rfl rfl rfl rfl rfl ?_ (l) ?_ ?_; (focus (simp (maxDischargeDepth := 120) [*]; done)); (focus (simp [*]; done)); refine RunQ.evalH ?_; simp [*])
   | (refine RunQ.call rfl rfl rfl rfl rfl ?_ (r) ?_ ?_; (focus (simp (maxDischargeDepth := 120) [*]; done)); (focus (simp [*]; done)); refine RunQ.evalH ?_; simp [*])
   | (refine RunQ.call rfl rfl rfl rfl rfl ?_ (awake20_c) ?_ ?_; (focus (simp (maxDischargeDepth := 120) [*]; done)); (focus (simp [*]; done)); refine RunQ.evalH ?_; simp [*])
   | (refine RunQW.call rfl rfl rfl rfl ?_ (p1) ?_ ?_; (focus (simp (maxDischargeDepth := 120) [*]; done)); (focus (simp [*]; done)); refine RunQ.evalH ?_; simp [*])
   | (refine RunQW.call rfl rfl rfl rfl ?_ (r1) ?_ ?_; (focus (simp (maxDischargeDepth := 120) [*]; done)); (focus (simp [*]; done)); refine RunQ.evalH ?_; simp [*])
   | (refine RunQW.call rfl rfl rfl rfl ?_ (a) ?_ ?_; (focus (simp (maxDischargeDepth := 120) [*]; done)); (focus (simp [*]; done)); refine RunQ.evalH ?_; simp [*])
   | (refine RunQW.call rfl rfl rfl rfl ?_ (q) ?_ ?_; (focus (simp (maxDischargeDepth := 120) [*]; done)); (focus (simp [*]; done)); refine RunQ.evalH ?_; simp [*])
   | (refine RunQW.call rfl rfl rfl rfl ?_ (l) ?_ ?_; (focus (simp (maxDischargeDepth := 120) [*]; done)); (focus (simp [*]; done)); refine RunQ.evalH ?_; simp [*])
   | (refine RunQW.call rfl rfl rfl rfl ?_ (r) ?_ ?_; (focus (simp (maxDischargeDepth := 120) [*]; done)); (focus (simp [*]; done)); refine RunQ.evalH ?_; simp [*])
   | (refine RunQW.call rfl rfl rfl rfl ?_ (awake20_c) ?_ ?_; (focus (simp (maxDischargeDepth := 120) [*]; done)); (focus (simp [*]; done)); refine RunQ.evalH ?_; simp [*])
   | (refine WK.ret Tryz.func6 ?_ ?_ <;> simp (maxDischargeDepth := 120) [Tryz.results6, *])
   | fail)
end Go.Proofs.YtcccfbjkcahgfaaGreat
end
