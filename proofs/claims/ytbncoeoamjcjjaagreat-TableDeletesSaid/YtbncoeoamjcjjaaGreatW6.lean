/- What is searched for in lists, and what is plain. -/
import Derived.Test.YtbncoeoamjcjjaaGreatW5
set_option linter.all false
set_option linter.unnecessarySimpa false
set_option linter.unusedVariables false
set_option linter.unusedSimpArgs false
namespace Go.Proofs.YtbncoeoamjcjjaaGreat
open Go Go.AI Go.Proofs

/-- the first place of a thing that is asked for, or -1 -/
def idxI {α : Type} (p : α → Bool) (l : List α) : Int := match l.findIdx? p with | some i => i | none => -1
theorem idxI_some {α : Type} [Inhabited α] {p : α → Bool} {l : List α} {i : Nat} (h : i < l.length) (hp : p (nth l i) = true) (hn : ∀ j, j < i → p (nth l j) = false) : idxI p l = i := by
  unfold idxI
  have : l.findIdx? p = some i := by
    rw [List.findIdx?_eq_some_iff_getElem]
    refine ⟨h, by rw [← nth_eq h]; exact hp, fun j hj => ?_⟩
    rw [← nth_eq (by omega)]; simp [hn j hj]
  rw [this]
theorem idxI_none {α : Type} [Inhabited α] {p : α → Bool} {l : List α} (hn : ∀ j, j < l.length → p (nth l j) = false) : idxI p l = -1 := by
  unfold idxI
  have : l.findIdx? p = none := by
    rw [List.findIdx?_eq_none_iff]
    intro x hx
    obtain ⟨i, hi, rfl⟩ := mem_nth hx
    exact hn i hi
  rw [this]
theorem idxI_ge {α : Type} (p : α → Bool) (l : List α) : decide (idxI p l ≥ 0) = l.any p := by
  unfold idxI
  cases h : l.findIdx? p with
  | none =>
    rw [List.findIdx?_eq_none_iff] at h
    have : l.any p = false := by rw [List.any_eq_false]; intro x hx; simp [h x hx]
    simp [this]
  | some i =>
    rw [List.findIdx?_eq_some_iff_getElem] at h
    obtain ⟨hi, hp, _⟩ := h
    have : l.any p = true := List.any_eq_true.2 ⟨_, List.getElem_mem hi, hp⟩
    simp [this]
theorem indexf_inst (fid : Nat) (caps : List AV) (p : Inst → Bool) (l : List Inst) (hcl : ClL caps = true) (hl : l.length ≤ 1000000)
    (hf : ∀ x, x ∈ l → FnP Tryz.prog fid (.agg x.enc :: caps) (.bool (p x))) :
    FnP Tryz.prog 89 [instS l, .fn fid caps] (.int .i64 (idxI p l)) := by
  unfold instS
  refine FnP.intro Tryz.func89 rfl rfl fun G w => ?_
  repeat (first | refine WK.seq ?_ | refine WK.block ?_ | refine WK.inBlock ?_ | refine WK.skip ?_ | refine WK.label ?_ | refine WK.scope ?_ | refine WK.inScope ?_ | refine WK.exit rfl ?_)
  first | refine WK.reg 100 Tryz.ntmps89 (by kernel_rfl) ?_ | refine WK.regD 100 clsOf (by kernel_rfl) Tryz.ntmps89 (by kernel_rfl) (by kernel_rfl) ?_
  intro A hA Q hQ
  simp
  refine hQ _ _ ?_
  clear hQ hA
  repeat (first | refine WK.seq ?_ | refine WK.block ?_ | refine WK.inBlock ?_ | refine WK.skip ?_ | refine WK.label ?_ | refine WK.scope ?_ | refine WK.inScope ?_ | refine WK.exit rfl ?_)
  first | refine WK.reg 200 Tryz.ntmps89 (by kernel_rfl) ?_ | refine WK.regD 200 clsOf (by kernel_rfl) Tryz.ntmps89 (by kernel_rfl) (by kernel_rfl) ?_
  intro A hA Q hQ
  simp
  refine hQ _ _ ?_
  clear hQ hA
  repeat (first | refine WK.seq ?_ | refine WK.block ?_ | refine WK.inBlock ?_ | refine WK.skip ?_ | refine WK.label ?_ | refine WK.scope ?_ | refine WK.inScope ?_ | refine WK.exit rfl ?_)
  refine WK.loopI (fun n => n) (fun i : Nat => (⟨(upd (upd (upd (upd J 0 (.sl false l.length (instL l))) 1 (.fn fid caps)) 7 (.int .i64 l.length)) 8 (.int .i64 i)), B0, 0⟩ : St)) (fun i => i ≤ l.length ∧ ∀ j, j < i → p (nth l j) = false) (fun i => l.length - i) (0) (by repeat (first | exact TmW.nil | refine TmW.upd ?_ (by simp (maxDischargeDepth := 120) [hcl]))) (by repeat (first | exact BxW.nil | refine BxW.upd ?_ (by simp (maxDischargeDepth := 120) [hcl]))) (by first | exact InjW.id | exact InjW.nil | exact InjW.one | exact InjW.two (by simp) | exact InjW.three (by simp) (by simp) (by simp)) (⟨by omega, by simp⟩) (fun i hi IH => ?_)
  repeat (first | refine WK.seq ?_ | refine WK.block ?_ | refine WK.inBlock ?_ | refine WK.skip ?_ | refine WK.label ?_ | refine WK.scope ?_ | refine WK.inScope ?_ | refine WK.exit rfl ?_)
  first | refine WK.reg 300 Tryz.ntmps89 (by kernel_rfl) ?_ | refine WK.regD 300 clsOf (by kernel_rfl) Tryz.ntmps89 (by kernel_rfl) (by kernel_rfl) ?_
  intro A hA Q hQ
  simp
  refine hQ _ _ ?_
  clear hQ hA
  repeat (first | refine WK.seq ?_ | refine WK.block ?_ | refine WK.inBlock ?_ | refine WK.skip ?_ | refine WK.label ?_ | refine WK.scope ?_ | refine WK.inScope ?_ | refine WK.exit rfl ?_)
  refine WK.cond2 rfl (fun h1 => ?_) (fun h1 => ?_)
  · simp at h1
    have h2 : i < l.length := by omega
    have h3 : 7 ≤ l.length * 7 - i * 7 := by omega
    have h4 := inst_sub l i h2
    have h6 : IntKind.i64.wrap ((i : Int) + 1) = i + 1 := wrap_i64 (by omega) (by omega)
    repeat (first | refine WK.seq ?_ | refine WK.block ?_ | refine WK.inBlock ?_ | refine WK.skip ?_ | refine WK.label ?_ | refine WK.scope ?_ | refine WK.inScope ?_ | refine WK.exit rfl ?_)
    first | refine WK.reg 400 Tryz.ntmps89 (by kernel_rfl) ?_ | refine WK.regD 400 clsOf (by kernel_rfl) Tryz.ntmps89 (by kernel_rfl) (by kernel_rfl) ?_
    intro A hA Q hQ
    simp
    refine hQ _ _ ?_
    clear hQ hA
    repeat (first | refine WK.seq ?_ | refine WK.block ?_ | refine WK.inBlock ?_ | refine WK.skip ?_ | refine WK.label ?_ | refine WK.scope ?_ | refine WK.inScope ?_ | refine WK.exit rfl ?_)
    first | refine WK.reg 500 Tryz.ntmps89 (by kernel_rfl) ?_ | refine WK.regD 500 clsOf (by kernel_rfl) Tryz.ntmps89 (by kernel_rfl) (by kernel_rfl) ?_
    intro A hA Q hQ
    simp [h2, h3, h4]
    refine RunQ.call rfl rfl rfl rfl (by rfl) (by simp (maxDischargeDepth := 120) [hcl]) (hf (nth l i) (nth_mem h2)) (by simp [hcl]) ?_
    refine RunQ.eval ?_
    simp [hcl]
    refine hQ _ _ ?_
    clear hQ hA
    repeat (first | refine WK.seq ?_ | refine WK.block ?_ | refine WK.inBlock ?_ | refine WK.skip ?_ | refine WK.label ?_ | refine WK.scope ?_ | refine WK.inScope ?_ | refine WK.exit rfl ?_)
    refine WK.cond2 rfl (fun h5 => ?_) (fun h5 => ?_)
    · have e := idxI_some h2 h5 hi.2
      repeat (first | refine WK.seq ?_ | refine WK.block ?_ | refine WK.inBlock ?_ | refine WK.skip ?_ | refine WK.label ?_ | refine WK.scope ?_ | refine WK.inScope ?_ | refine WK.exit rfl ?_)
      first | refine WK.reg 600 Tryz.ntmps89 (by kernel_rfl) ?_ | refine WK.regD 600 clsOf (by kernel_rfl) Tryz.ntmps89 (by kernel_rfl) (by kernel_rfl) ?_
      intro A hA Q hQ
      simp
      refine hQ _ _ ?_
      clear hQ hA
      repeat (first | refine WK.seq ?_ | refine WK.block ?_ | refine WK.inBlock ?_ | refine WK.skip ?_ | refine WK.label ?_ | refine WK.scope ?_ | refine WK.inScope ?_ | refine WK.exit rfl ?_)
      refine WK.ret Tryz.func89 (by simp (maxDischargeDepth := 120) [Tryz.results89, e]) (by simp [e])
    · repeat (first | refine WK.seq ?_ | refine WK.block ?_ | refine WK.inBlock ?_ | refine WK.skip ?_ | refine WK.label ?_ | refine WK.scope ?_ | refine WK.inScope ?_ | refine WK.exit rfl ?_)
      first | refine WK.reg 700 Tryz.ntmps89 (by kernel_rfl) ?_ | refine WK.regD 700 clsOf (by kernel_rfl) Tryz.ntmps89 (by kernel_rfl) (by kernel_rfl) ?_
      intro A hA Q hQ
      simp [h6]
      refine hQ _ _ ?_
      clear hQ hA
      repeat (first | refine WK.seq ?_ | refine WK.block ?_ | refine WK.inBlock ?_ | refine WK.skip ?_ | refine WK.label ?_ | refine WK.scope ?_ | refine WK.inScope ?_ | refine WK.exit rfl ?_)
      refine WK.next (fun n => n) (IH (i + 1) (⟨by omega, fun j hj => by by_cases h7 : j = i; (subst h7; exact h5); exact hi.2 j (by omega)⟩) (by first | omega | (dsimp only; omega))) (by repeat (first | exact TmW.nil | refine TmW.upd ?_ (by simp (maxDischargeDepth := 120) [hcl]))) (by repeat (first | exact BxW.nil | refine BxW.upd ?_ (by simp (maxDischargeDepth := 120) [hcl]))) (by first | exact InjW.id | exact InjW.nil | exact InjW.one | exact InjW.two (by simp) | exact InjW.three (by simp) (by simp) (by simp))
  · simp at h1
    have e := idxI_none (p := p) (l := l) (fun j hj => hi.2 j (by omega))
    repeat (first | refine WK.seq ?_ | refine WK.block ?_ | refine WK.inBlock ?_ | refine WK.skip ?_ | refine WK.label ?_ | refine WK.scope ?_ | refine WK.inScope ?_ | refine WK.exit rfl ?_)
    first | refine WK.reg 800 Tryz.ntmps89 (by kernel_rfl) ?_ | refine WK.regD 800 clsOf (by kernel_rfl) Tryz.ntmps89 (by kernel_rfl) (by kernel_rfl) ?_
    intro A hA Q hQ
    simp
    refine hQ _ _ ?_
    clear hQ hA
    repeat (first | refine WK.seq ?_ | refine WK.block ?_ | refine WK.inBlock ?_ | refine WK.skip ?_ | refine WK.label ?_ | refine WK.scope ?_ | refine WK.inScope ?_ | refine WK.exit rfl ?_)
    refine WK.ret Tryz.func89 (by simp (maxDischargeDepth := 120) [Tryz.results89, e]) (by simp [e])
theorem containsf_inst (fid : Nat) (caps : List AV) (p : Inst → Bool) (l : List Inst) (hcl : ClL caps = true) (hl : l.length ≤ 1000000)
    (hf : ∀ x, x ∈ l → FnP Tryz.prog fid (.agg x.enc :: caps) (.bool (p x))) :
    FnP Tryz.prog 63 [instS l, .fn fid caps] (.bool (l.any p)) := by
  have e := idxI_ge p l
  simp only [ge_iff_le] at e
  refine FnP.intro Tryz.func63 rfl rfl fun G w => ?_
  repeat (first | refine WK.seq ?_ | refine WK.block ?_ | refine WK.inBlock ?_ | refine WK.skip ?_ | refine WK.label ?_ | refine WK.scope ?_ | refine WK.inScope ?_ | refine WK.exit rfl ?_)
  first | refine WK.reg 100 Tryz.ntmps63 (by kernel_rfl) ?_ | refine WK.regD 100 clsOf (by kernel_rfl) Tryz.ntmps63 (by kernel_rfl) (by kernel_rfl) ?_
  intro A hA Q hQ
  simp
  refine hQ _ _ ?_
  clear hQ hA
  repeat (first | refine WK.seq ?_ | refine WK.block ?_ | refine WK.inBlock ?_ | refine WK.skip ?_ | refine WK.label ?_ | refine WK.scope ?_ | refine WK.inScope ?_ | refine WK.exit rfl ?_)
  first | refine WK.reg 200 Tryz.ntmps63 (by kernel_rfl) ?_ | refine WK.regD 200 clsOf (by kernel_rfl) Tryz.ntmps63 (by kernel_rfl) (by kernel_rfl) ?_
  intro A hA Q hQ
  simp
  refine RunQ.call rfl rfl rfl rfl (by rfl) (by simp (maxDischargeDepth := 120) [hcl]) (indexf_inst fid caps p l hcl hl hf) (by simp [hcl]) ?_
  refine RunQ.eval ?_
  simp [hcl]
  refine hQ _ _ ?_
  clear hQ hA
  repeat (first | refine WK.seq ?_ | refine WK.block ?_ | refine WK.inBlock ?_ | refine WK.skip ?_ | refine WK.label ?_ | refine WK.scope ?_ | refine WK.inScope ?_ | refine WK.exit rfl ?_)
  refine WK.ret Tryz.func63 (by simp (maxDischargeDepth := 120) [Tryz.results63, e]) (by simp [e])
def actsPlain (l : List Action) : Bool := decide (l.length ≤ 12)
def instsPlain (l : List Inst) : Bool := decide (l.length ≤ 8) && l.all fun i => actsPlain i.acts
def Flow.plain (f : Flow) : Bool := decide (f.mat.length ≤ 30) && instsPlain f.insts
def FlowMod.plain (m : FlowMod) : Bool := decide (m.mat.length ≤ 30) && instsPlain m.insts
theorem pacts_c (l : List Action) : FnP Tryz.prog 65 [actS l] (.bool (actsPlain l)) := by
  unfold actS
  refine FnP.intro Tryz.func65 rfl rfl fun G w => ?_
  repeat (first | refine WK.seq ?_ | refine WK.block ?_ | refine WK.inBlock ?_ | refine WK.skip ?_ | refine WK.label ?_ | refine WK.scope ?_ | refine WK.inScope ?_ | refine WK.exit rfl ?_)
  first | refine WK.reg 100 Tryz.ntmps65 (by kernel_rfl) ?_ | refine WK.regD 100 clsOf (by kernel_rfl) Tryz.ntmps65 (by kernel_rfl) (by kernel_rfl) ?_
  intro A hA Q hQ
  simp
  refine hQ _ _ ?_
  clear hQ hA
  repeat (first | refine WK.seq ?_ | refine WK.block ?_ | refine WK.inBlock ?_ | refine WK.skip ?_ | refine WK.label ?_ | refine WK.scope ?_ | refine WK.inScope ?_ | refine WK.exit rfl ?_)
  first | refine WK.reg 200 Tryz.ntmps65 (by kernel_rfl) ?_ | refine WK.regD 200 clsOf (by kernel_rfl) Tryz.ntmps65 (by kernel_rfl) (by kernel_rfl) ?_
  intro A hA Q hQ
  simp
  refine hQ _ _ ?_
  clear hQ hA
  have e : decide ((l.length : Int) ≤ 12) = decide (l.length ≤ 12) := decide_eq_decide.2 (by omega)
  repeat (first | refine WK.seq ?_ | refine WK.block ?_ | refine WK.inBlock ?_ | refine WK.skip ?_ | refine WK.label ?_ | refine WK.scope ?_ | refine WK.inScope ?_ | refine WK.exit rfl ?_)
  refine WK.ret Tryz.func65 (by simp (maxDischargeDepth := 120) [Tryz.results65, actsPlain, e]) (by simp [actsPlain, e])
theorem pinst1_c (i : Inst) : FnP Tryz.prog 64 [.agg i.enc] (.bool (!actsPlain i.acts)) := by
  refine FnP.intro Tryz.func64 rfl rfl fun G w => ?_
  repeat (first | refine WK.seq ?_ | refine WK.block ?_ | refine WK.inBlock ?_ | refine WK.skip ?_ | refine WK.label ?_ | refine WK.scope ?_ | refine WK.inScope ?_ | refine WK.exit rfl ?_)
  first | refine WK.reg 100 Tryz.ntmps64 (by kernel_rfl) ?_ | refine WK.regD 100 clsOf (by kernel_rfl) Tryz.ntmps64 (by kernel_rfl) (by kernel_rfl) ?_
  intro A hA Q hQ
  simp
  refine hQ _ _ ?_
  clear hQ hA
  repeat (first | refine WK.seq ?_ | refine WK.block ?_ | refine WK.inBlock ?_ | refine WK.skip ?_ | refine WK.label ?_ | refine WK.scope ?_ | refine WK.inScope ?_ | refine WK.exit rfl ?_)
  first | refine WK.reg 200 Tryz.ntmps64 (by kernel_rfl) ?_ | refine WK.regD 200 clsOf (by kernel_rfl) Tryz.ntmps64 (by kernel_rfl) (by kernel_rfl) ?_
  intro A hA Q hQ
  simp [Inst.enc]
  refine RunQ.call rfl rfl rfl rfl (by rfl) (by simp (maxDischargeDepth := 120) [actS]) (pacts_c i.acts) (by simp [actS]) ?_
  refine RunQ.eval ?_
  simp [actS]
  refine hQ _ _ ?_
  clear hQ hA
  repeat (first | refine WK.seq ?_ | refine WK.block ?_ | refine WK.inBlock ?_ | refine WK.skip ?_ | refine WK.label ?_ | refine WK.scope ?_ | refine WK.inScope ?_ | refine WK.exit rfl ?_)
  refine WK.ret Tryz.func64 (by simp (maxDischargeDepth := 120) [Tryz.results64]) (by simp)
theorem pinsts_c (l : List Inst) : FnP Tryz.prog 40 [instS l] (.bool (instsPlain l)) := by
  unfold instsPlain
  cases h : decide (l.length ≤ 8)
  · have h2 : ¬ ((l.length : Int) ≤ 8) := by simp at h; omega
    refine FnP.intro Tryz.func40 rfl rfl fun G w => ?_
    repeat (first | refine WK.seq ?_ | refine WK.block ?_ | refine WK.inBlock ?_ | refine WK.skip ?_ | refine WK.label ?_ | refine WK.scope ?_ | refine WK.inScope ?_ | refine WK.exit rfl ?_)
    first | refine WK.reg 100 Tryz.ntmps40 (by kernel_rfl) ?_ | refine WK.regD 100 clsOf (by kernel_rfl) Tryz.ntmps40 (by kernel_rfl) (by kernel_rfl) ?_
    intro A hA Q hQ
    simp
    refine hQ _ _ ?_
    clear hQ hA
    repeat (first | refine WK.seq ?_ | refine WK.block ?_ | refine WK.inBlock ?_ | refine WK.skip ?_ | refine WK.label ?_ | refine WK.scope ?_ | refine WK.inScope ?_ | refine WK.exit rfl ?_)
    first | refine WK.reg 200 Tryz.ntmps40 (by kernel_rfl) ?_ | refine WK.regD 200 clsOf (by kernel_rfl) Tryz.ntmps40 (by kernel_rfl) (by kernel_rfl) ?_
    intro A hA Q hQ
    have hg3 : (A[3]?).bind (·.dst) = some 6 := by rw [hA]; rfl
    simp [instS, h2, hg3]
    refine hQ _ _ ?_
    clear hQ hA
    repeat (first | refine WK.seq ?_ | refine WK.block ?_ | refine WK.inBlock ?_ | refine WK.skip ?_ | refine WK.label ?_ | refine WK.scope ?_ | refine WK.inScope ?_ | refine WK.exit rfl ?_)
    refine WK.ret Tryz.func40 (by simp (maxDischargeDepth := 120) [Tryz.results40, h]) (by simp [h])
  · have h2 : ((l.length : Int) ≤ 8) := by simp at h; omega
    have e : (!(l.any fun i => !actsPlain i.acts)) = l.all fun i => actsPlain i.acts := by rw [← List.not_all_eq_any_not, Bool.not_not]
    refine FnP.intro Tryz.func40 rfl rfl fun G w => ?_
    repeat (first | refine WK.seq ?_ | refine WK.block ?_ | refine WK.inBlock ?_ | refine WK.skip ?_ | refine WK.label ?_ | refine WK.scope ?_ | refine WK.inScope ?_ | refine WK.exit rfl ?_)
    first | refine WK.reg 100 Tryz.ntmps40 (by kernel_rfl) ?_ | refine WK.regD 100 clsOf (by kernel_rfl) Tryz.ntmps40 (by kernel_rfl) (by kernel_rfl) ?_
    intro A hA Q hQ
    simp
    refine hQ _ _ ?_
    clear hQ hA
    repeat (first | refine WK.seq ?_ | refine WK.block ?_ | refine WK.inBlock ?_ | refine WK.skip ?_ | refine WK.label ?_ | refine WK.scope ?_ | refine WK.inScope ?_ | refine WK.exit rfl ?_)
    first | refine WK.reg 200 Tryz.ntmps40 (by kernel_rfl) ?_ | refine WK.regD 200 clsOf (by kernel_rfl) Tryz.ntmps40 (by kernel_rfl) (by kernel_rfl) ?_
    intro A hA Q hQ
    have hg3 : (A[3]?).bind (·.dst) = some 6 := by rw [hA]; rfl
    simp [instS, h2, hg3]
    refine RunQ.callG rfl rfl (by simp [hg3, instS]) rfl (by rfl) (by simp (maxDischargeDepth := 120) [hg3, instS]) (containsf_inst 64 [] (fun i => !actsPlain i.acts) l rfl (by omega) (fun x _ => pinst1_c x)) (by simp [hg3, instS]) ?_
    refine RunQ.eval ?_
    simp [hg3, instS]
    refine hQ _ _ ?_
    clear hQ hA
    repeat (first | refine WK.seq ?_ | refine WK.block ?_ | refine WK.inBlock ?_ | refine WK.skip ?_ | refine WK.label ?_ | refine WK.scope ?_ | refine WK.inScope ?_ | refine WK.exit rfl ?_)
    refine WK.ret Tryz.func40 (by simp (maxDischargeDepth := 120) [Tryz.results40, e]) (by simp [e])
theorem pFlow_c (f : Flow) : FnP Tryz.prog 26 [.agg f.enc] (.bool (Flow.plain f)) := by
  unfold Flow.plain
  cases h : decide (f.mat.length ≤ 30)
  · have h2 : ¬ ((f.mat.length : Int) ≤ 30) := by simp at h; omega
    refine FnP.intro Tryz.func26 rfl rfl fun G w => ?_
    repeat (first | refine WK.seq ?_ | refine WK.block ?_ | refine WK.inBlock ?_ | refine WK.skip ?_ | refine WK.label ?_ | refine WK.scope ?_ | refine WK.inScope ?_ | refine WK.exit rfl ?_)
    first | refine WK.reg 100 Tryz.ntmps26 (by kernel_rfl) ?_ | refine WK.regD 100 clsOf (by kernel_rfl) Tryz.ntmps26 (by kernel_rfl) (by kernel_rfl) ?_
    intro A hA Q hQ
    simp
    refine hQ _ _ ?_
    clear hQ hA
    repeat (first | refine WK.seq ?_ | refine WK.block ?_ | refine WK.inBlock ?_ | refine WK.skip ?_ | refine WK.label ?_ | refine WK.scope ?_ | refine WK.inScope ?_ | refine WK.exit rfl ?_)
    first | refine WK.reg 200 Tryz.ntmps26 (by kernel_rfl) ?_ | refine WK.regD 200 clsOf (by kernel_rfl) Tryz.ntmps26 (by kernel_rfl) (by kernel_rfl) ?_
    intro A hA Q hQ
    have hg4 : (A[4]?).bind (·.dst) = some 7 := by rw [hA]; rfl
    simp [Flow.enc, h2, hg4]
    refine hQ _ _ ?_
    clear hQ hA
    repeat (first | refine WK.seq ?_ | refine WK.block ?_ | refine WK.inBlock ?_ | refine WK.skip ?_ | refine WK.label ?_ | refine WK.scope ?_ | refine WK.inScope ?_ | refine WK.exit rfl ?_)
    refine WK.ret Tryz.func26 (by simp (maxDischargeDepth := 120) [Tryz.results26, h]) (by simp [h])
  · have h2 : ((f.mat.length : Int) ≤ 30) := by simp at h; omega
    refine FnP.intro Tryz.func26 rfl rfl fun G w => ?_
    repeat (first | refine WK.seq ?_ | refine WK.block ?_ | refine WK.inBlock ?_ | refine WK.skip ?_ | refine WK.label ?_ | refine WK.scope ?_ | refine WK.inScope ?_ | refine WK.exit rfl ?_)
    first | refine WK.reg 100 Tryz.ntmps26 (by kernel_rfl) ?_ | refine WK.regD 100 clsOf (by kernel_rfl) Tryz.ntmps26 (by kernel_rfl) (by kernel_rfl) ?_
    intro A hA Q hQ
    simp
    refine hQ _ _ ?_
    clear hQ hA
    repeat (first | refine WK.seq ?_ | refine WK.block ?_ | refine WK.inBlock ?_ | refine WK.skip ?_ | refine WK.label ?_ | refine WK.scope ?_ | refine WK.inScope ?_ | refine WK.exit rfl ?_)
    first | refine WK.reg 200 Tryz.ntmps26 (by kernel_rfl) ?_ | refine WK.regD 200 clsOf (by kernel_rfl) Tryz.ntmps26 (by kernel_rfl) (by kernel_rfl) ?_
    intro A hA Q hQ
    have hg4 : (A[4]?).bind (·.dst) = some 7 := by rw [hA]; rfl
    simp [Flow.enc, h2, hg4]
    refine RunQ.callG rfl rfl (by simp [hg4, instS]) rfl (by rfl) (by simp (maxDischargeDepth := 120) [hg4, instS]) (pinsts_c f.insts) (by simp [hg4, instS]) ?_
    refine RunQ.eval ?_
    simp [hg4, instS]
    refine hQ _ _ ?_
    clear hQ hA
    repeat (first | refine WK.seq ?_ | refine WK.block ?_ | refine WK.inBlock ?_ | refine WK.skip ?_ | refine WK.label ?_ | refine WK.scope ?_ | refine WK.inScope ?_ | refine WK.exit rfl ?_)
    refine WK.ret Tryz.func26 (by simp (maxDischargeDepth := 120) [Tryz.results26]) (by simp)
theorem pMod_c (m : FlowMod) : FnP Tryz.prog 15 [.agg m.enc] (.bool (FlowMod.plain m)) := by
  unfold FlowMod.plain
  cases h : decide (m.mat.length ≤ 30)
  · have h2 : ¬ ((m.mat.length : Int) ≤ 30) := by simp at h; omega
    refine FnP.intro Tryz.func15 rfl rfl fun G w => ?_
    repeat (first | refine WK.seq ?_ | refine WK.block ?_ | refine WK.inBlock ?_ | refine WK.skip ?_ | refine WK.label ?_ | refine WK.scope ?_ | refine WK.inScope ?_ | refine WK.exit rfl ?_)
    first | refine WK.reg 100 Tryz.ntmps15 (by kernel_rfl) ?_ | refine WK.regD 100 clsOf (by kernel_rfl) Tryz.ntmps15 (by kernel_rfl) (by kernel_rfl) ?_
    intro A hA Q hQ
    simp
    refine hQ _ _ ?_
    clear hQ hA
    repeat (first | refine WK.seq ?_ | refine WK.block ?_ | refine WK.inBlock ?_ | refine WK.skip ?_ | refine WK.label ?_ | refine WK.scope ?_ | refine WK.inScope ?_ | refine WK.exit rfl ?_)
    first | refine WK.reg 200 Tryz.ntmps15 (by kernel_rfl) ?_ | refine WK.regD 200 clsOf (by kernel_rfl) Tryz.ntmps15 (by kernel_rfl) (by kernel_rfl) ?_
    intro A hA Q hQ
    have hg4 : (A[4]?).bind (·.dst) = some 7 := by rw [hA]; rfl
    simp [FlowMod.enc, h2, hg4]
    refine hQ _ _ ?_
    clear hQ hA
    repeat (first | refine WK.seq ?_ | refine WK.block ?_ | refine WK.inBlock ?_ | refine WK.skip ?_ | refine WK.label ?_ | refine WK.scope ?_ | refine WK.inScope ?_ | refine WK.exit rfl ?_)
    refine WK.ret Tryz.func15 (by simp (maxDischargeDepth := 120) [Tryz.results15, h]) (by simp [h])
  · have h2 : ((m.mat.length : Int) ≤ 30) := by simp at h; omega
    refine FnP.intro Tryz.func15 rfl rfl fun G w => ?_
    repeat (first | refine WK.seq ?_ | refine WK.block ?_ | refine WK.inBlock ?_ | refine WK.skip ?_ | refine WK.label ?_ | refine WK.scope ?_ | refine WK.inScope ?_ | refine WK.exit rfl ?_)
    first | refine WK.reg 100 Tryz.ntmps15 (by kernel_rfl) ?_ | refine WK.regD 100 clsOf (by kernel_rfl) Tryz.ntmps15 (by kernel_rfl) (by kernel_rfl) ?_
    intro A hA Q hQ
    simp
    refine hQ _ _ ?_
    clear hQ hA
    repeat (first | refine WK.seq ?_ | refine WK.block ?_ | refine WK.inBlock ?_ | refine WK.skip ?_ | refine WK.label ?_ | refine WK.scope ?_ | refine WK.inScope ?_ | refine WK.exit rfl ?_)
    first | refine WK.reg 200 Tryz.ntmps15 (by kernel_rfl) ?_ | refine WK.regD 200 clsOf (by kernel_rfl) Tryz.ntmps15 (by kernel_rfl) (by kernel_rfl) ?_
    intro A hA Q hQ
    have hg4 : (A[4]?).bind (·.dst) = some 7 := by rw [hA]; rfl
    simp [FlowMod.enc, h2, hg4]
    refine RunQ.callG rfl rfl (by simp [hg4, instS]) rfl (by rfl) (by simp (maxDischargeDepth := 120) [hg4, instS]) (pinsts_c m.insts) (by simp [hg4, instS]) ?_
    refine RunQ.eval ?_
    simp [hg4, instS]
    refine hQ _ _ ?_
    clear hQ hA
    repeat (first | refine WK.seq ?_ | refine WK.block ?_ | refine WK.inBlock ?_ | refine WK.skip ?_ | refine WK.label ?_ | refine WK.scope ?_ | refine WK.inScope ?_ | refine WK.exit rfl ?_)
    refine WK.ret Tryz.func15 (by simp (maxDischargeDepth := 120) [Tryz.results15]) (by simp)
end Go.Proofs.YtbncoeoamjcjjaaGreat
