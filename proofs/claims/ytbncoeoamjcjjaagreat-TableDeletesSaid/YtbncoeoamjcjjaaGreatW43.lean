/- Deleting in place. -/
import Derived.Test.YtbncoeoamjcjjaaGreatW38
import Derived.Test.YtbncoeoamjcjjaaGreatA21
set_option linter.all false
set_option linter.unnecessarySimpa false
set_option linter.unusedVariables false
set_option linter.unusedSimpArgs false
namespace Go.Proofs.YtbncoeoamjcjjaaGreat
open Go Go.AI Go.Proofs

def keepN {α : Type} (p : α → Bool) (l : List α) (j : Nat) : List α := (l.take j).filter fun x => !p x
def delSeq {α : Type} [Inhabited α] (p : α → Bool) (l : List α) : Nat → List α
  | 0 => l
  | j + 1 => if p (nth l j) then delSeq p l j else (delSeq p l j).set (keepN p l j).length (nth l j)
theorem keepN_succ {α : Type} [Inhabited α] {p : α → Bool} {l : List α} {j : Nat} (h : j < l.length) : keepN p l (j + 1) = if p (nth l j) then keepN p l j else keepN p l j ++ [nth l j] := by
  unfold keepN
  rw [take_nth h, List.filter_append]
  by_cases hp : p (nth l j) = true <;> simp [hp]
theorem keepN_len {α : Type} (p : α → Bool) (l : List α) (j : Nat) : (keepN p l j).length ≤ j := by
  unfold keepN
  have := List.length_filter_le (fun x => !p x) (l.take j)
  have := List.length_take_le j l
  omega
theorem delSeq_len {α : Type} [Inhabited α] (p : α → Bool) (l : List α) : ∀ j, (delSeq p l j).length = l.length
  | 0 => rfl
  | j + 1 => by rw [delSeq]; split; exact delSeq_len p l j; rw [List.length_set]; exact delSeq_len p l j
theorem set_nth {α : Type} [Inhabited α] {l : List α} {p i : Nat} {x : α} (h : p < l.length) : nth (l.set p x) i = if i = p then x else nth l i := by
  unfold nth
  rw [List.getD_eq_getElem?_getD, List.getElem?_set]
  by_cases e : p = i
  · subst e; simp [h]
  · have e2 : ¬ i = p := fun h => e h.symm
    simp [e, e2]
theorem snoc_nth {α : Type} [Inhabited α] {l : List α} {i : Nat} {x : α} (h : i < l.length + 1) : nth (l ++ [x]) i = if i = l.length then x else nth l i := by
  unfold nth
  rw [List.getD_eq_getElem?_getD]
  by_cases e : i = l.length
  · subst e; simp
  · rw [List.getElem?_append_left (by omega), if_neg e, List.getD_eq_getElem?_getD]
theorem delSeq_get {α : Type} [Inhabited α] (p : α → Bool) (l : List α) : ∀ j, j ≤ l.length → (∀ x, j ≤ x → nth (delSeq p l j) x = nth l x) ∧ ∀ x, x < (keepN p l j).length → nth (delSeq p l j) x = nth (keepN p l j) x
  | 0, _ => ⟨fun _ _ => rfl, fun x hx => by have := keepN_len p l 0; omega⟩
  | j + 1, h => by
    obtain ⟨h1, h2⟩ := delSeq_get p l j (by omega)
    have hk := keepN_len p l j
    have hl := delSeq_len p l j
    rw [delSeq, keepN_succ (show j < l.length by omega)]
    by_cases hp : p (nth l j) = true
    · rw [if_pos hp, if_pos hp]
      exact ⟨fun x hx => h1 x (by omega), h2⟩
    · rw [if_neg hp, if_neg hp]
      refine ⟨fun x hx => ?_, fun x hx => ?_⟩
      · rw [set_nth (by omega), if_neg (by omega)]; exact h1 x (by omega)
      · rw [List.length_append, List.length_singleton] at hx
        rw [set_nth (by omega), snoc_nth hx]
        split
        · rfl
        · exact h2 x (by omega)
theorem delSeq_same {α : Type} [Inhabited α] (p : α → Bool) (l : List α) : ∀ j, j ≤ l.length → (∀ x, x < j → p (nth l x) = false) → delSeq p l j = l ∧ keepN p l j = l.take j
  | 0, _, _ => ⟨rfl, by simp [keepN]⟩
  | j + 1, h, hn => by
    obtain ⟨h1, h2⟩ := delSeq_same p l j (by omega) (fun x hx => hn x (by omega))
    have hj := hn j (by omega)
    constructor
    · rw [delSeq, hj, h1, h2]
      simp only [Bool.false_eq_true, if_false, List.length_take]
      rw [show min j l.length = j by omega, nth_eq (show j < l.length by omega), List.set_getElem_self]
    · rw [keepN_succ (show j < l.length by omega), hj, h2, take_nth (show j < l.length by omega)]; rfl
theorem delSeq_take {α : Type} [Inhabited α] (p : α → Bool) (l : List α) : (delSeq p l l.length).take (keepN p l l.length).length = keepN p l l.length := by
  have hk := keepN_len p l l.length
  have hl := delSeq_len p l l.length
  obtain ⟨_, h2⟩ := delSeq_get p l l.length (Nat.le_refl _)
  apply List.ext_getElem
  · rw [List.length_take]; omega
  · intro i h3 h4
    rw [List.getElem_take, ← nth_eq (show i < (delSeq p l l.length).length by omega), ← nth_eq h4]
    exact h2 i h4
theorem keepN_all {α : Type} (p : α → Bool) (l : List α) : keepN p l l.length = l.filter fun x => !p x := by unfold keepN; rw [List.take_length]
theorem idx_cases {α : Type} [Inhabited α] (p : α → Bool) (l : List α) : (idxI p l = -1 ∧ ∀ j, j < l.length → p (nth l j) = false) ∨
    ∃ i, i < l.length ∧ idxI p l = i ∧ p (nth l i) = true ∧ ∀ j, j < i → p (nth l j) = false := by
  have go : ∀ n, n ≤ l.length → (∀ j, j < n → p (nth l j) = false) ∨ ∃ i, i < n ∧ p (nth l i) = true ∧ ∀ j, j < i → p (nth l j) = false := by
    intro n
    induction n with
    | zero => intro _; exact .inl fun j h => by omega
    | succ n ih =>
      intro h
      rcases ih (by omega) with h1 | ⟨i, h1, h2, h3⟩
      · cases hp : p (nth l n)
        · exact .inl fun j hj => by
            by_cases e : j = n
            · rw [e]; exact hp
            · exact h1 j (by omega)
        · exact .inr ⟨n, by omega, hp, h1⟩
      · exact .inr ⟨i, by omega, h2, h3⟩
  rcases go l.length (Nat.le_refl _) with h | ⟨i, h1, h2, h3⟩
  · exact .inl ⟨idxI_none h, h⟩
  · exact .inr ⟨i, h1, idxI_some h1 h2 h3, h2, h3⟩
noncomputable def flowZ (n : Nat) : List AV := (List.replicate n (zr Tryz.prog 41).cells).flatten
theorem flowZ_len (n : Nat) : (flowZ n).length = n * 7 := by
  have h : (zr Tryz.prog 41).cells.length = 7 := (appFlow).zl
  unfold flowZ
  simp [h]
@[simp] theorem flowZ_cl (n : Nat) : ClL (flowZ n) = true := by
  unfold flowZ
  induction n with
  | zero => rfl
  | succ n ih => rw [List.replicate_succ, List.flatten_cons]; simp only [ClL_append, ih]; simp
theorem indexB_flow (fid : Nat) (caps : List AV) (p : Flow → Bool) (L : List Flow) (hcl : ClL caps = true) (hl : L.length ≤ 1000000)
    (hf : ∀ x, x ∈ L → FnP Tryz.prog fid (.agg x.enc :: caps) (.bool (p x))) :
    FnB Tryz.prog 47 [.msl 0 0 L.length, .fn fid caps] (.buf 7 (flowL L)) (.int .i64 (idxI p L)) (.buf 7 (flowL L)) := by
  refine FnB.intro Tryz.func47 rfl rfl fun G w l => ?_
  repeat (first | refine WK.seq ?_ | refine WK.block ?_ | refine WK.inBlock ?_ | refine WK.skip ?_ | refine WK.label ?_ | refine WK.scope ?_ | refine WK.inScope ?_ | refine WK.exit rfl ?_)
  first | refine WK.reg 100 Tryz.ntmps47 (by kernel_rfl) ?_ | refine WK.regD 100 clsOf (by kernel_rfl) Tryz.ntmps47 (by kernel_rfl) (by kernel_rfl) ?_
  intro A hA Q hQ
  simp
  refine hQ _ _ ?_
  clear hQ hA
  repeat (first | refine WK.seq ?_ | refine WK.block ?_ | refine WK.inBlock ?_ | refine WK.skip ?_ | refine WK.label ?_ | refine WK.scope ?_ | refine WK.inScope ?_ | refine WK.exit rfl ?_)
  first | refine WK.reg 200 Tryz.ntmps47 (by kernel_rfl) ?_ | refine WK.regD 200 clsOf (by kernel_rfl) Tryz.ntmps47 (by kernel_rfl) (by kernel_rfl) ?_
  intro A hA Q hQ
  simp
  refine hQ _ _ ?_
  clear hQ hA
  repeat (first | refine WK.seq ?_ | refine WK.block ?_ | refine WK.inBlock ?_ | refine WK.skip ?_ | refine WK.label ?_ | refine WK.scope ?_ | refine WK.inScope ?_ | refine WK.exit rfl ?_)
  refine WK.loopI (fun n => n) (fun i : Nat => (⟨(upd (upd (upd (upd J 0 (.msl 0 0 L.length)) 1 (.fn fid caps)) 7 (.int .i64 L.length)) 8 (.int .i64 i)), (upd B0 0 (.buf 7 (flowL L))), 0⟩ : St)) (fun i => i ≤ L.length ∧ ∀ j, j < i → p (nth L j) = false) (fun i => L.length - i) (0) (by repeat (first | exact TmW.nil | refine TmW.upd ?_ (by simp (maxDischargeDepth := 120) [hcl]))) (by repeat (first | exact BxW.nil | refine BxW.upd ?_ (by simp (maxDischargeDepth := 120) [hcl]))) (by first | exact InjW.id | exact InjW.nil | exact InjW.one | exact InjW.two (by simp) | exact InjW.three (by simp) (by simp) (by simp)) (⟨by omega, by simp⟩) (fun i hi IH => ?_)
  repeat (first | refine WK.seq ?_ | refine WK.block ?_ | refine WK.inBlock ?_ | refine WK.skip ?_ | refine WK.label ?_ | refine WK.scope ?_ | refine WK.inScope ?_ | refine WK.exit rfl ?_)
  first | refine WK.reg 300 Tryz.ntmps47 (by kernel_rfl) ?_ | refine WK.regD 300 clsOf (by kernel_rfl) Tryz.ntmps47 (by kernel_rfl) (by kernel_rfl) ?_
  intro A hA Q hQ
  simp
  refine hQ _ _ ?_
  clear hQ hA
  repeat (first | refine WK.seq ?_ | refine WK.block ?_ | refine WK.inBlock ?_ | refine WK.skip ?_ | refine WK.label ?_ | refine WK.scope ?_ | refine WK.inScope ?_ | refine WK.exit rfl ?_)
  refine WK.cond2 rfl (fun h1 => ?_) (fun h1 => ?_)
  · simp at h1
    have h2 : i < L.length := by omega
    have h3 : 7 ≤ L.length * 7 - i * 7 := by omega
    have h3' : i * 7 + 7 ≤ L.length * 7 := by omega
    have h4 := flow_sub L i h2
    have h6 : IntKind.i64.wrap ((i : Int) + 1) = i + 1 := wrap_i64 (by omega) (by omega)
    repeat (first | refine WK.seq ?_ | refine WK.block ?_ | refine WK.inBlock ?_ | refine WK.skip ?_ | refine WK.label ?_ | refine WK.scope ?_ | refine WK.inScope ?_ | refine WK.exit rfl ?_)
    first | refine WK.reg 400 Tryz.ntmps47 (by kernel_rfl) ?_ | refine WK.regD 400 clsOf (by kernel_rfl) Tryz.ntmps47 (by kernel_rfl) (by kernel_rfl) ?_
    intro A hA Q hQ
    simp
    refine hQ _ _ ?_
    clear hQ hA
    repeat (first | refine WK.seq ?_ | refine WK.block ?_ | refine WK.inBlock ?_ | refine WK.skip ?_ | refine WK.label ?_ | refine WK.scope ?_ | refine WK.inScope ?_ | refine WK.exit rfl ?_)
    first | refine WK.reg 500 Tryz.ntmps47 (by kernel_rfl) ?_ | refine WK.regD 500 clsOf (by kernel_rfl) Tryz.ntmps47 (by kernel_rfl) (by kernel_rfl) ?_
    intro A hA Q hQ
    simp [h2, h3, h3', h4]
    refine RunQ.call rfl rfl rfl rfl (by rfl) (by simp (maxDischargeDepth := 120) [hcl]) (hf (nth L i) (nth_mem h2)) (by simp [hcl]) ?_
    refine RunQ.eval ?_
    simp [hcl]
    refine hQ _ _ ?_
    clear hQ hA
    repeat (first | refine WK.seq ?_ | refine WK.block ?_ | refine WK.inBlock ?_ | refine WK.skip ?_ | refine WK.label ?_ | refine WK.scope ?_ | refine WK.inScope ?_ | refine WK.exit rfl ?_)
    refine WK.cond2 rfl (fun h5 => ?_) (fun h5 => ?_)
    · have e := idxI_some h2 h5 hi.2
      repeat (first | refine WK.seq ?_ | refine WK.block ?_ | refine WK.inBlock ?_ | refine WK.skip ?_ | refine WK.label ?_ | refine WK.scope ?_ | refine WK.inScope ?_ | refine WK.exit rfl ?_)
      first | refine WK.reg 600 Tryz.ntmps47 (by kernel_rfl) ?_ | refine WK.regD 600 clsOf (by kernel_rfl) Tryz.ntmps47 (by kernel_rfl) (by kernel_rfl) ?_
      intro A hA Q hQ
      simp
      refine hQ _ _ ?_
      clear hQ hA
      repeat (first | refine WK.seq ?_ | refine WK.block ?_ | refine WK.inBlock ?_ | refine WK.skip ?_ | refine WK.label ?_ | refine WK.scope ?_ | refine WK.inScope ?_ | refine WK.exit rfl ?_)
      refine WK.retB Tryz.func47 (by simp (maxDischargeDepth := 120) [Tryz.results47, e]) (by simp [e]) rfl (.inr ⟨_, rfl⟩)
    · repeat (first | refine WK.seq ?_ | refine WK.block ?_ | refine WK.inBlock ?_ | refine WK.skip ?_ | refine WK.label ?_ | refine WK.scope ?_ | refine WK.inScope ?_ | refine WK.exit rfl ?_)
      first | refine WK.reg 700 Tryz.ntmps47 (by kernel_rfl) ?_ | refine WK.regD 700 clsOf (by kernel_rfl) Tryz.ntmps47 (by kernel_rfl) (by kernel_rfl) ?_
      intro A hA Q hQ
      simp [h6]
      refine hQ _ _ ?_
      clear hQ hA
      repeat (first | refine WK.seq ?_ | refine WK.block ?_ | refine WK.inBlock ?_ | refine WK.skip ?_ | refine WK.label ?_ | refine WK.scope ?_ | refine WK.inScope ?_ | refine WK.exit rfl ?_)
      refine WK.next (fun n => n) (IH (i + 1) (⟨by omega, fun j hj => by by_cases h7 : j = i; (subst h7; exact h5); exact hi.2 j (by omega)⟩) (by first | omega | (dsimp only; omega))) (by repeat (first | exact TmW.nil | refine TmW.upd ?_ (by simp (maxDischargeDepth := 120) [hcl]))) (by repeat (first | exact BxW.nil | refine BxW.upd ?_ (by simp (maxDischargeDepth := 120) [hcl]))) (by first | exact InjW.id | exact InjW.nil | exact InjW.one | exact InjW.two (by simp) | exact InjW.three (by simp) (by simp) (by simp))
  · simp at h1
    have e := idxI_none (p := p) (l := L) (fun j hj => hi.2 j (by omega))
    repeat (first | refine WK.seq ?_ | refine WK.block ?_ | refine WK.inBlock ?_ | refine WK.skip ?_ | refine WK.label ?_ | refine WK.scope ?_ | refine WK.inScope ?_ | refine WK.exit rfl ?_)
    first | refine WK.reg 800 Tryz.ntmps47 (by kernel_rfl) ?_ | refine WK.regD 800 clsOf (by kernel_rfl) Tryz.ntmps47 (by kernel_rfl) (by kernel_rfl) ?_
    intro A hA Q hQ
    simp
    refine hQ _ _ ?_
    clear hQ hA
    repeat (first | refine WK.seq ?_ | refine WK.block ?_ | refine WK.inBlock ?_ | refine WK.skip ?_ | refine WK.label ?_ | refine WK.scope ?_ | refine WK.inScope ?_ | refine WK.exit rfl ?_)
    refine WK.retB Tryz.func47 (by simp (maxDischargeDepth := 120) [Tryz.results47, e]) (by simp [e]) rfl (.inr ⟨_, rfl⟩)
set_option maxHeartbeats 2000000 in
theorem delete_flow (fid : Nat) (caps : List AV) (p : Flow → Bool) (L : List Flow) (hcl : ClL caps = true) (hl : L.length ≤ 1000000)
    (hf : ∀ x, x ∈ L → FnP Tryz.prog fid (.agg x.enc :: caps) (.bool (p x))) :
    FnB Tryz.prog 19 [.msl 0 0 L.length, .fn fid caps] (.buf 7 (flowL L)) (.msl 0 0 (keepN p L L.length).length)
      (.buf 7 (flowL (keepN p L L.length) ++ flowZ (L.length - (keepN p L L.length).length))) := by
  rcases idx_cases p L with ⟨e, hn⟩ | ⟨i0, hi0, e, hp, hn⟩
  · have h1 := delSeq_same p L L.length (Nat.le_refl _) hn
    have h2 : keepN p L L.length = L := by rw [h1.2, List.take_length]
    have h3 : flowZ 0 = [] := rfl
    rw [h2]
    refine FnB.intro Tryz.func19 rfl rfl fun G w l => ?_
    repeat (first | refine WK.seq ?_ | refine WK.block ?_ | refine WK.inBlock ?_ | refine WK.skip ?_ | refine WK.label ?_ | refine WK.scope ?_ | refine WK.inScope ?_ | refine WK.exit rfl ?_)
    first | refine WK.reg 100 Tryz.ntmps19 (by kernel_rfl) ?_ | refine WK.regD 100 clsOf (by kernel_rfl) Tryz.ntmps19 (by kernel_rfl) (by kernel_rfl) ?_
    intro A hA Q hQ
    simp
    refine hQ _ _ ?_
    clear hQ hA
    repeat (first | refine WK.seq ?_ | refine WK.block ?_ | refine WK.inBlock ?_ | refine WK.skip ?_ | refine WK.label ?_ | refine WK.scope ?_ | refine WK.inScope ?_ | refine WK.exit rfl ?_)
    first | refine WK.reg 200 Tryz.ntmps19 (by kernel_rfl) ?_ | refine WK.regD 200 clsOf (by kernel_rfl) Tryz.ntmps19 (by kernel_rfl) (by kernel_rfl) ?_
    intro A hA Q hQ
    simp [hcl]
    refine RunQ.callB 0 rfl rfl rfl (by simp [hcl, e]) (by rfl) (indexB_flow fid caps p L hcl hl hf) (by simp (maxDischargeDepth := 120) [hcl, e]) (by simp (maxDischargeDepth := 120) [hcl, e]) rfl rfl (by simp [hcl, e]) (by simp [hcl, e]) ?_
    refine RunQ.eval ?_
    simp [hcl, e]
    refine hQ _ _ ?_
    clear hQ hA
    repeat (first | refine WK.seq ?_ | refine WK.block ?_ | refine WK.inBlock ?_ | refine WK.skip ?_ | refine WK.label ?_ | refine WK.scope ?_ | refine WK.inScope ?_ | refine WK.exit rfl ?_)
    first | refine WK.reg 300 Tryz.ntmps19 (by kernel_rfl) ?_ | refine WK.regD 300 clsOf (by kernel_rfl) Tryz.ntmps19 (by kernel_rfl) (by kernel_rfl) ?_
    intro A hA Q hQ
    simp
    refine hQ _ _ ?_
    clear hQ hA
    repeat (first | refine WK.seq ?_ | refine WK.block ?_ | refine WK.inBlock ?_ | refine WK.skip ?_ | refine WK.label ?_ | refine WK.scope ?_ | refine WK.inScope ?_ | refine WK.exit rfl ?_)
    refine WK.cond2 rfl (fun h => ?_) (fun h => ?_)
    · repeat (first | refine WK.seq ?_ | refine WK.block ?_ | refine WK.inBlock ?_ | refine WK.skip ?_ | refine WK.label ?_ | refine WK.scope ?_ | refine WK.inScope ?_ | refine WK.exit rfl ?_)
      first | refine WK.reg 400 Tryz.ntmps19 (by kernel_rfl) ?_ | refine WK.regD 400 clsOf (by kernel_rfl) Tryz.ntmps19 (by kernel_rfl) (by kernel_rfl) ?_
      intro A hA Q hQ
      simp
      refine hQ _ _ ?_
      clear hQ hA
      repeat (first | refine WK.seq ?_ | refine WK.block ?_ | refine WK.inBlock ?_ | refine WK.skip ?_ | refine WK.label ?_ | refine WK.scope ?_ | refine WK.inScope ?_ | refine WK.exit rfl ?_)
      refine WK.retB Tryz.func19 (by simp (maxDischargeDepth := 120) [Tryz.results19, h3]) (by simp [h3]) rfl (.inr ⟨_, rfl⟩)
    · cases h
  · have h6 : IntKind.i64.wrap ((i0 : Int) + 1) = i0 + 1 := wrap_i64 (by omega) (by omega)
    have s1 := delSeq_same p L i0 (by omega) hn
    have s2 : delSeq p L (i0 + 1) = L := by rw [delSeq, hp]; exact s1.1
    have s3 : (keepN p L (i0 + 1)).length = i0 := by rw [keepN_succ hi0, hp, s1.2]; simp; omega
    refine FnB.intro Tryz.func19 rfl rfl fun G w l => ?_
    repeat (first | refine WK.seq ?_ | refine WK.block ?_ | refine WK.inBlock ?_ | refine WK.skip ?_ | refine WK.label ?_ | refine WK.scope ?_ | refine WK.inScope ?_ | refine WK.exit rfl ?_)
    first | refine WK.reg 100 Tryz.ntmps19 (by kernel_rfl) ?_ | refine WK.regD 100 clsOf (by kernel_rfl) Tryz.ntmps19 (by kernel_rfl) (by kernel_rfl) ?_
    intro A hA Q hQ
    simp
    refine hQ _ _ ?_
    clear hQ hA
    repeat (first | refine WK.seq ?_ | refine WK.block ?_ | refine WK.inBlock ?_ | refine WK.skip ?_ | refine WK.label ?_ | refine WK.scope ?_ | refine WK.inScope ?_ | refine WK.exit rfl ?_)
    first | refine WK.reg 200 Tryz.ntmps19 (by kernel_rfl) ?_ | refine WK.regD 200 clsOf (by kernel_rfl) Tryz.ntmps19 (by kernel_rfl) (by kernel_rfl) ?_
    intro A hA Q hQ
    simp [hcl]
    refine RunQ.callB 0 rfl rfl rfl (by simp [hcl, e]) (by rfl) (indexB_flow fid caps p L hcl hl hf) (by simp (maxDischargeDepth := 120) [hcl, e]) (by simp (maxDischargeDepth := 120) [hcl, e]) rfl rfl (by simp [hcl, e]) (by simp [hcl, e]) ?_
    refine RunQ.eval ?_
    simp [hcl, e]
    refine hQ _ _ ?_
    clear hQ hA
    repeat (first | refine WK.seq ?_ | refine WK.block ?_ | refine WK.inBlock ?_ | refine WK.skip ?_ | refine WK.label ?_ | refine WK.scope ?_ | refine WK.inScope ?_ | refine WK.exit rfl ?_)
    first | refine WK.reg 300 Tryz.ntmps19 (by kernel_rfl) ?_ | refine WK.regD 300 clsOf (by kernel_rfl) Tryz.ntmps19 (by kernel_rfl) (by kernel_rfl) ?_
    intro A hA Q hQ
    simp
    refine hQ _ _ ?_
    clear hQ hA
    repeat (first | refine WK.seq ?_ | refine WK.block ?_ | refine WK.inBlock ?_ | refine WK.skip ?_ | refine WK.label ?_ | refine WK.scope ?_ | refine WK.inScope ?_ | refine WK.exit rfl ?_)
    refine WK.cond2 rfl (fun h => ?_) (fun h => ?_)
    · simp at h
    repeat (first | refine WK.seq ?_ | refine WK.block ?_ | refine WK.inBlock ?_ | refine WK.skip ?_ | refine WK.label ?_ | refine WK.scope ?_ | refine WK.inScope ?_ | refine WK.exit rfl ?_)
    first | refine WK.reg 400 Tryz.ntmps19 (by kernel_rfl) ?_ | refine WK.regD 400 clsOf (by kernel_rfl) Tryz.ntmps19 (by kernel_rfl) (by kernel_rfl) ?_
    intro A hA Q hQ
    simp [h6]
    refine hQ _ _ ?_
    clear hQ hA
    repeat (first | refine WK.seq ?_ | refine WK.block ?_ | refine WK.inBlock ?_ | refine WK.skip ?_ | refine WK.label ?_ | refine WK.scope ?_ | refine WK.inScope ?_ | refine WK.exit rfl ?_)
    refine WK.loopI (fun n => n) (fun j : Nat => (⟨(upd (upd (upd (upd J 0 (.msl 0 0 L.length)) 1 (.fn fid caps)) 5 (.int .i64 (keepN p L j).length)) 6 (.int .i64 j)), (upd B0 0 (.buf 7 (flowL (delSeq p L j)))), 0⟩ : St)) (fun j => i0 + 1 ≤ j ∧ j ≤ L.length ∧ (keepN p L j).length < j) (fun j => L.length - j) (i0 + 1) (by repeat (first | exact TmW.nil | refine TmW.upd ?_ (by simp (maxDischargeDepth := 120) [hcl, s2, s3]))) (by repeat (first | exact BxW.nil | refine BxW.upd ?_ (by simp (maxDischargeDepth := 120) [hcl, s2, s3]))) (by first | exact InjW.id | exact InjW.nil | exact InjW.one | exact InjW.two (by simp) | exact InjW.three (by simp) (by simp) (by simp)) (⟨Nat.le_refl _, by omega, by omega⟩) (fun j hj IHj => ?_)
    have dl := delSeq_len p L j
    repeat (first | refine WK.seq ?_ | refine WK.block ?_ | refine WK.inBlock ?_ | refine WK.skip ?_ | refine WK.label ?_ | refine WK.scope ?_ | refine WK.inScope ?_ | refine WK.exit rfl ?_)
    first | refine WK.reg 500 Tryz.ntmps19 (by kernel_rfl) ?_ | refine WK.regD 500 clsOf (by kernel_rfl) Tryz.ntmps19 (by kernel_rfl) (by kernel_rfl) ?_
    intro A hA Q hQ
    simp
    refine hQ _ _ ?_
    clear hQ hA
    repeat (first | refine WK.seq ?_ | refine WK.block ?_ | refine WK.inBlock ?_ | refine WK.skip ?_ | refine WK.label ?_ | refine WK.scope ?_ | refine WK.inScope ?_ | refine WK.exit rfl ?_)
    refine WK.cond2 rfl (fun h1 => ?_) (fun h1 => ?_)
    · simp at h1
      have h2 : j < L.length := by omega
      have h3' : j * 7 + 7 ≤ L.length * 7 := by omega
      have g := (delSeq_get p L j hj.2.1).1 j (Nat.le_refl _)
      have h4 := flow_sub (delSeq p L j) j (by omega)
      rw [g] at h4
      have h7 : IntKind.i64.wrap ((j : Int) + 1) = j + 1 := wrap_i64 (by omega) (by omega)
      have hs := keepN_succ (p := p) h2
      have hd : delSeq p L (j + 1) = if p (nth L j) then delSeq p L j else (delSeq p L j).set (keepN p L j).length (nth L j) := rfl
      cases hpj : p (nth L j)
      · rw [hpj] at hs hd
        simp only [Bool.false_eq_true, if_false] at hs hd
        have hk : (keepN p L j).length < L.length := by omega
        have b1 : (keepN p L j).length * 7 + 7 ≤ L.length * 7 := by omega
        have e2 := flow_set (delSeq p L j) (keepN p L j).length (nth L j) (by omega)
        rw [← hd] at e2
        have h8 : IntKind.i64.wrap (((keepN p L j).length : Int) + 1) = (keepN p L j).length + 1 := wrap_i64 (by omega) (by omega)
        have hs2 : (keepN p L (j + 1)).length = (keepN p L j).length + 1 := by rw [hs, List.length_append]; rfl
        repeat (first | refine WK.seq ?_ | refine WK.block ?_ | refine WK.inBlock ?_ | refine WK.skip ?_ | refine WK.label ?_ | refine WK.scope ?_ | refine WK.inScope ?_ | refine WK.exit rfl ?_)
        first | refine WK.reg 600 Tryz.ntmps19 (by kernel_rfl) ?_ | refine WK.regD 600 clsOf (by kernel_rfl) Tryz.ntmps19 (by kernel_rfl) (by kernel_rfl) ?_
        intro A hA Q hQ
        simp [h2, h3', h4, dl]
        refine hQ _ _ ?_
        clear hQ hA
        repeat (first | refine WK.seq ?_ | refine WK.block ?_ | refine WK.inBlock ?_ | refine WK.skip ?_ | refine WK.label ?_ | refine WK.scope ?_ | refine WK.inScope ?_ | refine WK.exit rfl ?_)
        first | refine WK.reg 700 Tryz.ntmps19 (by kernel_rfl) ?_ | refine WK.regD 700 clsOf (by kernel_rfl) Tryz.ntmps19 (by kernel_rfl) (by kernel_rfl) ?_
        intro A hA Q hQ
        simp [hcl]
        refine RunQ.call rfl rfl rfl rfl (by rfl) (by simp (maxDischargeDepth := 120) [hcl, hpj]) (hf (nth L j) (nth_mem h2)) (by simp [hcl, hpj]) ?_
        refine RunQ.eval ?_
        simp [hcl, hpj]
        refine hQ _ _ ?_
        clear hQ hA
        repeat (first | refine WK.seq ?_ | refine WK.block ?_ | refine WK.inBlock ?_ | refine WK.skip ?_ | refine WK.label ?_ | refine WK.scope ?_ | refine WK.inScope ?_ | refine WK.exit rfl ?_)
        refine WK.cond2 rfl (fun h5 => ?_) (fun h5 => ?_)
        · repeat (first | refine WK.seq ?_ | refine WK.block ?_ | refine WK.inBlock ?_ | refine WK.skip ?_ | refine WK.label ?_ | refine WK.scope ?_ | refine WK.inScope ?_ | refine WK.exit rfl ?_)
          first | refine WK.reg 800 Tryz.ntmps19 (by kernel_rfl) ?_ | refine WK.regD 800 clsOf (by kernel_rfl) Tryz.ntmps19 (by kernel_rfl) (by kernel_rfl) ?_
          intro A hA Q hQ
          simp [hk, b1, dl]
          refine hQ _ _ ?_
          clear hQ hA
          repeat (first | refine WK.seq ?_ | refine WK.block ?_ | refine WK.inBlock ?_ | refine WK.skip ?_ | refine WK.label ?_ | refine WK.scope ?_ | refine WK.inScope ?_ | refine WK.exit rfl ?_)
          first | refine WK.reg 900 Tryz.ntmps19 (by kernel_rfl) ?_ | refine WK.regD 900 clsOf (by kernel_rfl) Tryz.ntmps19 (by kernel_rfl) (by kernel_rfl) ?_
          intro A hA Q hQ
          simp [h8]
          refine hQ _ _ ?_
          clear hQ hA
          repeat (first | refine WK.seq ?_ | refine WK.block ?_ | refine WK.inBlock ?_ | refine WK.skip ?_ | refine WK.label ?_ | refine WK.scope ?_ | refine WK.inScope ?_ | refine WK.exit rfl ?_)
          first | refine WK.reg 1000 Tryz.ntmps19 (by kernel_rfl) ?_ | refine WK.regD 1000 clsOf (by kernel_rfl) Tryz.ntmps19 (by kernel_rfl) (by kernel_rfl) ?_
          intro A hA Q hQ
          simp [h7]
          refine hQ _ _ ?_
          clear hQ hA
          repeat (first | refine WK.seq ?_ | refine WK.block ?_ | refine WK.inBlock ?_ | refine WK.skip ?_ | refine WK.label ?_ | refine WK.scope ?_ | refine WK.inScope ?_ | refine WK.exit rfl ?_)
          refine WK.next (fun n => n) (IHj (j + 1) (⟨by omega, by omega, by omega⟩) (by first | omega | (dsimp only; omega))) (by repeat (first | exact TmW.nil | refine TmW.upd ?_ (by simp (maxDischargeDepth := 120) [hcl, e2, hs2, h7, h8]))) (by repeat (first | exact BxW.nil | refine BxW.upd ?_ (by simp (maxDischargeDepth := 120) [hcl, e2, hs2, h7, h8]))) (by first | exact InjW.id | exact InjW.nil | exact InjW.one | exact InjW.two (by simp) | exact InjW.three (by simp) (by simp) (by simp))
        · cases h5
      · rw [hpj] at hs hd
        simp only [if_true] at hs hd
        repeat (first | refine WK.seq ?_ | refine WK.block ?_ | refine WK.inBlock ?_ | refine WK.skip ?_ | refine WK.label ?_ | refine WK.scope ?_ | refine WK.inScope ?_ | refine WK.exit rfl ?_)
        first | refine WK.reg 1100 Tryz.ntmps19 (by kernel_rfl) ?_ | refine WK.regD 1100 clsOf (by kernel_rfl) Tryz.ntmps19 (by kernel_rfl) (by kernel_rfl) ?_
        intro A hA Q hQ
        simp [h2, h3', h4, dl]
        refine hQ _ _ ?_
        clear hQ hA
        repeat (first | refine WK.seq ?_ | refine WK.block ?_ | refine WK.inBlock ?_ | refine WK.skip ?_ | refine WK.label ?_ | refine WK.scope ?_ | refine WK.inScope ?_ | refine WK.exit rfl ?_)
        first | refine WK.reg 1200 Tryz.ntmps19 (by kernel_rfl) ?_ | refine WK.regD 1200 clsOf (by kernel_rfl) Tryz.ntmps19 (by kernel_rfl) (by kernel_rfl) ?_
        intro A hA Q hQ
        simp [hcl]
        refine RunQ.call rfl rfl rfl rfl (by rfl) (by simp (maxDischargeDepth := 120) [hcl, hpj]) (hf (nth L j) (nth_mem h2)) (by simp [hcl, hpj]) ?_
        refine RunQ.eval ?_
        simp [hcl, hpj]
        refine hQ _ _ ?_
        clear hQ hA
        repeat (first | refine WK.seq ?_ | refine WK.block ?_ | refine WK.inBlock ?_ | refine WK.skip ?_ | refine WK.label ?_ | refine WK.scope ?_ | refine WK.inScope ?_ | refine WK.exit rfl ?_)
        refine WK.cond2 rfl (fun h5 => ?_) (fun h5 => ?_)
        · cases h5
        · repeat (first | refine WK.seq ?_ | refine WK.block ?_ | refine WK.inBlock ?_ | refine WK.skip ?_ | refine WK.label ?_ | refine WK.scope ?_ | refine WK.inScope ?_ | refine WK.exit rfl ?_)
          first | refine WK.reg 1300 Tryz.ntmps19 (by kernel_rfl) ?_ | refine WK.regD 1300 clsOf (by kernel_rfl) Tryz.ntmps19 (by kernel_rfl) (by kernel_rfl) ?_
          intro A hA Q hQ
          simp [h7]
          refine hQ _ _ ?_
          clear hQ hA
          repeat (first | refine WK.seq ?_ | refine WK.block ?_ | refine WK.inBlock ?_ | refine WK.skip ?_ | refine WK.label ?_ | refine WK.scope ?_ | refine WK.inScope ?_ | refine WK.exit rfl ?_)
          refine WK.next (fun n => n) (IHj (j + 1) (⟨by omega, by omega, by rw [hs]; omega⟩) (by first | omega | (dsimp only; omega))) (by repeat (first | exact TmW.nil | refine TmW.upd ?_ (by simp (maxDischargeDepth := 120) [hcl, hd, hs, h7]))) (by repeat (first | exact BxW.nil | refine BxW.upd ?_ (by simp (maxDischargeDepth := 120) [hcl, hd, hs, h7]))) (by first | exact InjW.id | exact InjW.nil | exact InjW.one | exact InjW.two (by simp) | exact InjW.three (by simp) (by simp) (by simp))
    · simp at h1
      have hje : j = L.length := by omega
      subst hje
      obtain ⟨k, hk⟩ : ∃ k, k = (keepN p L L.length).length := ⟨_, rfl⟩
      have hkl : k < L.length := by omega
      have hkl' : k ≤ L.length := by omega
      have hpre := delSeq_take p L
      rw [← hk] at hpre ⊢
      have hz := flowZ_len (L.length - k)
      have hsp : splice (flowL (delSeq p L L.length)) (k * 7) (flowZ (L.length - k)) = flowL (keepN p L L.length) ++ flowZ (L.length - k) := by
        have e1 : (flowL (delSeq p L L.length)).take (k * 7) = flowL (keepN p L L.length) := by rw [show flowL = fun l => l.flatMap Flow.enc from rfl]; dsimp only; rw [fm_take Flow.len, hpre]
        unfold splice
        rw [e1, List.drop_of_length_le (by rw [hz, flowL_len, dl]; omega), List.append_nil]
      have hb : k * 7 + (L.length - k) * 7 ≤ (flowL (delSeq p L L.length)).length := by rw [flowL_len, dl]; omega
      repeat (first | refine WK.seq ?_ | refine WK.block ?_ | refine WK.inBlock ?_ | refine WK.skip ?_ | refine WK.label ?_ | refine WK.scope ?_ | refine WK.inScope ?_ | refine WK.exit rfl ?_)
      first | refine WK.reg 1400 Tryz.ntmps19 (by kernel_rfl) ?_ | refine WK.regD 1400 clsOf (by kernel_rfl) Tryz.ntmps19 (by kernel_rfl) (by kernel_rfl) ?_
      intro A hA Q hQ
      simp
      refine RunQ.slOwn (a := k) (b := L.length) appFlow rfl (by simp [hkl']) rfl rfl rfl (by simp [boundsA, intA, hkl']) (by first | exact .inr rfl | (left; omega)) ?_
      refine RunQ.eval ?_
      simp [hkl']
      refine RunQ.clear (k := L.length - k) (appFlow) rfl rfl rfl rfl (by simp) rfl rfl rfl hb ?_
      rw [show (List.replicate (L.length - k) (zr Tryz.prog 41).cells).flatten = flowZ (L.length - k) from rfl, hsp]
      refine RunQ.eval ?_
      simp
      refine hQ _ _ ?_
      clear hQ hA
      repeat (first | refine WK.seq ?_ | refine WK.block ?_ | refine WK.inBlock ?_ | refine WK.skip ?_ | refine WK.label ?_ | refine WK.scope ?_ | refine WK.inScope ?_ | refine WK.exit rfl ?_)
      first | refine WK.reg 1500 Tryz.ntmps19 (by kernel_rfl) ?_ | refine WK.regD 1500 clsOf (by kernel_rfl) Tryz.ntmps19 (by kernel_rfl) (by kernel_rfl) ?_
      intro A hA Q hQ
      simp
      refine RunQ.slOwn (a := 0) (b := k) appFlow rfl (by simp [hkl']) rfl rfl rfl (by simp [boundsA, intA, hkl']) (by first | exact .inr rfl | (left; omega)) ?_
      refine RunQ.eval ?_
      simp [hkl']
      refine hQ _ _ ?_
      clear hQ hA
      repeat (first | refine WK.seq ?_ | refine WK.block ?_ | refine WK.inBlock ?_ | refine WK.skip ?_ | refine WK.label ?_ | refine WK.scope ?_ | refine WK.inScope ?_ | refine WK.exit rfl ?_)
      refine WK.retB Tryz.func19 (by simp (maxDischargeDepth := 120) [Tryz.results19]) (by simp) rfl (.inr ⟨_, rfl⟩)
end Go.Proofs.YtbncoeoamjcjjaaGreat
