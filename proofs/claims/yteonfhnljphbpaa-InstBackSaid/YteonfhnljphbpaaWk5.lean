/- Actions: their bytes by the reference. -/
import Derived.Test.YteonfhnljphbpaaWk4
set_option linter.all false
set_option linter.unnecessarySimpa false
section
set_option linter.unusedVariables false
set_option linter.unusedSimpArgs false
namespace Go.Proofs.Yteonfhnljphbpaa
open Go Go.AI Go.Proofs
attribute [local irreducible] FnP FnO FnB FnT FnSeq WK RunQ RunQW RunX RunXW

theorem putN_ok {b : List (BitVec 8)} {n : Int} {s : Nat} (h : numOk n s = true) : (putN b n s).length = b.length + s := by
  unfold putN; rw [h, if_pos rfl, List.length_append, beN_len]
/-- what is known of an action that may be, by its kind -/
theorem right_cases {a : Action} (h : Action.right a = true) : (a.kind = 0 ∧ numOk a.port 4 = true ∧ numOk a.max 2 = true) ∨ (a.kind = 22 ∧ numOk a.group 4 = true) ∨ (a.kind = 17 ∧ numOk a.ether 2 = true) ∨
    a.kind = 18 ∨ (a.kind = 25 ∧ Oxm.right a.oxm = true) := by
  unfold Action.right Action.fine at h
  rw [Bool.and_eq_true] at h
  obtain ⟨h, _⟩ := h
  unfold aGoes aMost at h
  unfold numOk
  split at h
  · rename_i k; left
    simp only [Bool.and_eq_true, Bool.or_eq_true, decide_eq_true_eq, beq_iff_eq] at h ⊢
    refine ⟨k, ?_, ?_⟩ <;> omega
  split at h
  · rename_i k; right; left
    simp only [Bool.and_eq_true, Bool.or_eq_true, decide_eq_true_eq, beq_iff_eq] at h ⊢
    refine ⟨k, ?_⟩; omega
  split at h
  · rename_i k; right; right; left
    simp only [Bool.and_eq_true, Bool.or_eq_true, decide_eq_true_eq, beq_iff_eq] at h ⊢
    refine ⟨k, ?_⟩; omega
  split at h
  · rename_i k; exact .inr (.inr (.inr (.inl k)))
  split at h
  · rename_i k; right; right; right; right
    simp only [Bool.and_eq_true] at h
    exact ⟨k, h.1⟩
  · cases h
theorem oEnc_ge {o : Oxm} (h : Oxm.right o = true) : 5 ≤ (oEnc o).1.length := by
  have hf := right_field h
  have hs : 1 ≤ fSize o.field := by
    unfold fRight at hf
    rw [Bool.and_eq_true, decide_eq_true_eq, decide_eq_true_eq] at hf
    unfold fSize fBits fRow
    rw [if_pos ⟨hf.1, hf.2⟩]
    have hl : o.field.toNat < fRows.length := by show o.field.toNat < 24; omega
    have : ∀ r, r ∈ fRows → 2 ≤ r.2.1 := by decide
    have := this _ (nth_mem hl)
    omega
  have hid : 0 ≤ oNum o ∧ oNum o < 256 := by
    have hp : 0 ≤ fID o.field ∧ fID o.field ≤ 34 := by
      unfold fRight at hf
      rw [Bool.and_eq_true, decide_eq_true_eq, decide_eq_true_eq] at hf
      unfold fID fRow
      rw [if_pos ⟨hf.1, hf.2⟩]
      have hl : o.field.toNat < fRows.length := by show o.field.toNat < 24; omega
      have : ∀ r, r ∈ fRows → 0 ≤ r.1 ∧ r.1 ≤ 34 := by decide
      exact this _ (nth_mem hl)
    unfold oNum; split <;> omega
  have hbl := oBody_len o
  have h16 := fSize_le o.field
  have hb : (oBody o).length ≤ 32 ∧ 1 ≤ (oBody o).length := by rw [hbl]; split <;> omega
  have a1 : (putN [] 32768 2).length = 2 := putN_ok (b := []) (n := 32768) (s := 2) rfl
  have a2 : (putN (putN [] 32768 2) (oNum o) 1).length = 3 := by rw [putN_ok (by unfold numOk; simp; omega), a1]
  have a3 : (oHead o).length = 4 := by unfold oHead; rw [putN_ok (by unfold numOk; simp; omega), a2]
  unfold oEnc; rw [if_pos h]; simp only [List.length_append]; omega
end Go.Proofs.Yteonfhnljphbpaa
end

section
set_option linter.unusedVariables false
set_option linter.unusedSimpArgs false
namespace Go.Proofs.Yteonfhnljphbpaa
open Go Go.AI Go.Proofs
attribute [local irreducible] FnP FnO FnB FnT FnSeq WK RunQ RunQW RunX RunXW

theorem Sz4 : Sz 4 := .inr (.inr rfl)
theorem Sz2 : Sz 2 := .inr (.inl rfl)
end Go.Proofs.Yteonfhnljphbpaa
end

section
set_option linter.unusedVariables false
set_option linter.unusedSimpArgs false
namespace Go.Proofs.Yteonfhnljphbpaa
open Go Go.AI Go.Proofs
attribute [local irreducible] FnP FnO FnB FnT FnSeq WK RunQ RunQW RunX RunXW

theorem indexf_by (fid : Nat) (caps : List AV) (p : BitVec 8 → Bool) (l : List (BitVec 8)) (hcl : ClL caps = true) (hl : l.length ≤ 9223372036854775807)
    (hf : ∀ x, x ∈ l → FnP Try.prog fid (.int .u8 (bI x) :: caps) (.bool (p x))) :
    FnP Try.prog 127 [byS l, .fn fid caps] (.int .i64 (idxI p l)) := by
  unfold byS
  refine FnP.intro Try.func127 rfl rfl fun G w => ?_
  repeat' (first
   | refine WK.seq ?_
   | refine WK.block ?_
   | refine WK.inBlock ?_
   | refine WK.skip ?_
   | refine WK.label ?_
   | refine WK.scope ?_
   | refine WK.inScope ?_
   | refine WK.exit rfl ?_
   | refine WK.condT rfl ?_
   | refine WK.condF rfl ?_
   | (refine Hid.h hQ _ _ ?_; clear hQ hA)
   | refine WK.condAny rfl ?_ ?_
   | ((first | refine WK.cond2 rfl (fun h => ?_) (fun h => ?_)) <;> (first | (simp [*] at h; done) | (have h2 := h; simp at h2; exfalso; omega) | (have h2 := h; simp at h2; try simp only [Bool.not_eq_true', Bool.not_eq_false'] at h) | skip))
   | (refine WK.regH Try.ntmps127 (by kernel_rfl) ?_; intro A hA Q hQ; simp [*])
   | fail)
  repeat (first | refine WK.seq ?_ | refine WK.block ?_ | refine WK.inBlock ?_ | refine WK.skip ?_ | refine WK.label ?_ | refine WK.scope ?_ | refine WK.inScope ?_ | refine WK.exit rfl ?_)
  refine WK.loopI (fun n => n) (fun i : Nat => (⟨(upd (upd (upd (upd J 0 (.sl false l.length (byL l))) 1 (.fn fid caps)) 7 (.int .i64 l.length)) 8 (.int .i64 i)), B0, 0⟩ : St)) (fun i => i ≤ l.length ∧ ∀ j, j < i → p (nth l j) = false) (fun i => l.length - i) (0) (by repeat (first | exact TmW.nil | refine TmW.upd ?_ (by simp (maxDischargeDepth := 120) [hcl]))) (by repeat (first | exact BxW.nil | refine BxW.upd ?_ (by simp (maxDischargeDepth := 120) [hcl]))) (by first | exact InjW.id | exact InjW.nil | exact InjW.one | exact InjW.two (by simp) | exact InjW.three (by simp) (by simp) (by simp)) (⟨by omega, by simp⟩) (fun i hi IH => ?_)
  by_cases h1 : i < l.length
  · have h4 := by_get l i h1
    have h6 : IntKind.i64.wrap ((i : Int) + 1) = i + 1 := wrap_i64 (by omega) (by omega)
    have hc := hf (nth l i) (nth_mem h1)
    cases h5 : p (nth l i)
    · repeat' (first
       | refine WK.seq ?_
       | refine WK.block ?_
       | refine WK.inBlock ?_
       | refine WK.skip ?_
       | refine WK.label ?_
       | refine WK.scope ?_
       | refine WK.inScope ?_
       | refine WK.exit rfl ?_
       | refine WK.condT rfl ?_
       | refine WK.condF rfl ?_
       | (refine Hid.h hQ _ _ ?_; clear hQ hA)
       | refine WK.condAny rfl ?_ ?_
       | ((first | refine WK.cond2 rfl (fun h => ?_) (fun h => ?_)) <;> (first | (simp [*] at h; done) | (have h2 := h; simp at h2; exfalso; omega) | (have h2 := h; simp at h2; try simp only [Bool.not_eq_true', Bool.not_eq_false'] at h) | skip))
       | (refine WK.regH Try.ntmps127 (by kernel_rfl) ?_; intro A hA Q hQ; simp [*])
       | ((refine RunQ.call rfl rfl rfl rfl rfl ?_ (hc) ?_ ?_; (focus (simp (maxDischargeDepth := 120) [*]; done))); (focus (simp [*]; done)); refine RunQ.evalH ?_; simp [*])
       | fail)
      repeat (first | refine WK.seq ?_ | refine WK.block ?_ | refine WK.inBlock ?_ | refine WK.skip ?_ | refine WK.label ?_ | refine WK.scope ?_ | refine WK.inScope ?_ | refine WK.exit rfl ?_)
      refine WK.next (fun n => n) (IH (i + 1) (⟨by omega, fun j hj => by by_cases h7 : j = i; (subst h7; exact h5); exact hi.2 j (by omega)⟩) (by first | omega | (dsimp only; omega))) (by repeat (first | exact TmW.nil | refine TmW.upd ?_ (by simp (maxDischargeDepth := 120) [hcl]))) (by repeat (first | exact BxW.nil | refine BxW.upd ?_ (by simp (maxDischargeDepth := 120) [hcl]))) (by first | exact InjW.id | exact InjW.nil | exact InjW.one | exact InjW.two (by simp) | exact InjW.three (by simp) (by simp) (by simp))
    · have e := idxI_some h1 h5 hi.2
      repeat' (first
       | refine WK.seq ?_
       | refine WK.block ?_
       | refine WK.inBlock ?_
       | refine WK.skip ?_
       | refine WK.label ?_
       | refine WK.scope ?_
       | refine WK.inScope ?_
       | refine WK.exit rfl ?_
       | refine WK.condT rfl ?_
       | refine WK.condF rfl ?_
       | (refine Hid.h hQ _ _ ?_; clear hQ hA)
       | refine WK.condAny rfl ?_ ?_
       | ((first | refine WK.cond2 rfl (fun h => ?_) (fun h => ?_)) <;> (first | (simp [*] at h; done) | (have h2 := h; simp at h2; exfalso; omega) | (have h2 := h; simp at h2; try simp only [Bool.not_eq_true', Bool.not_eq_false'] at h) | skip))
       | (refine WK.regH Try.ntmps127 (by kernel_rfl) ?_; intro A hA Q hQ; simp [*])
       | ((refine RunQ.call rfl rfl rfl rfl rfl ?_ (hc) ?_ ?_; (focus (simp (maxDischargeDepth := 120) [*]; done))); (focus (simp [*]; done)); refine RunQ.evalH ?_; simp [*])
       | (refine WK.ret Try.func127 ?_ ?_ <;> simp (maxDischargeDepth := 120) [Try.results127, *])
       | fail)
  · have e := idxI_none (p := p) (l := l) (fun j hj => hi.2 j (by omega))
    repeat' (first
     | refine WK.seq ?_
     | refine WK.block ?_
     | refine WK.inBlock ?_
     | refine WK.skip ?_
     | refine WK.label ?_
     | refine WK.scope ?_
     | refine WK.inScope ?_
     | refine WK.exit rfl ?_
     | refine WK.condT rfl ?_
     | refine WK.condF rfl ?_
     | (refine Hid.h hQ _ _ ?_; clear hQ hA)
     | refine WK.condAny rfl ?_ ?_
     | ((first | refine WK.cond2 rfl (fun h => ?_) (fun h => ?_)) <;> (first | (simp [*] at h; done) | (have h2 := h; simp at h2; exfalso; omega) | (have h2 := h; simp at h2; try simp only [Bool.not_eq_true', Bool.not_eq_false'] at h) | skip))
     | (refine WK.regH Try.ntmps127 (by kernel_rfl) ?_; intro A hA Q hQ; simp [*])
     | (refine WK.ret Try.func127 ?_ ?_ <;> simp (maxDischargeDepth := 120) [Try.results127, *])
     | fail)
theorem containsf_by (fid : Nat) (caps : List AV) (p : BitVec 8 → Bool) (l : List (BitVec 8)) (hcl : ClL caps = true) (hl : l.length ≤ 9223372036854775807)
    (hf : ∀ x, x ∈ l → FnP Try.prog fid (.int .u8 (bI x) :: caps) (.bool (p x))) :
    FnP Try.prog 108 [byS l, .fn fid caps] (.bool (l.any p)) := by
  have e := idxI_ge p l
  simp only [ge_iff_le] at e
  have hi := indexf_by fid caps p l hcl hl hf
  refine FnP.intro Try.func108 rfl rfl fun G w => ?_
  repeat' (first
   | refine WK.seq ?_
   | refine WK.block ?_
   | refine WK.inBlock ?_
   | refine WK.skip ?_
   | refine WK.label ?_
   | refine WK.scope ?_
   | refine WK.inScope ?_
   | refine WK.exit rfl ?_
   | refine WK.condT rfl ?_
   | refine WK.condF rfl ?_
   | (refine Hid.h hQ _ _ ?_; clear hQ hA)
   | refine WK.condAny rfl ?_ ?_
   | ((first | refine WK.cond2 rfl (fun h => ?_) (fun h => ?_)) <;> (first | (simp [*] at h; done) | (have h2 := h; simp at h2; exfalso; omega) | (have h2 := h; simp at h2; try simp only [Bool.not_eq_true', Bool.not_eq_false'] at h) | skip))
   | (refine WK.regH Try.ntmps108 (by kernel_rfl) ?_; intro A hA Q hQ; simp [*])
   | ((refine RunQ.call rfl rfl rfl rfl rfl ?_ (hi) ?_ ?_; (focus (simp (maxDischargeDepth := 120) [*]; done))); (focus (simp [*]; done)); refine RunQ.evalH ?_; simp [*])
   | (refine WK.ret Try.func108 ?_ ?_ <;> simp (maxDischargeDepth := 120) [Try.results108, *])
   | fail)
def allZ (b : List (BitVec 8)) : Bool := b.all fun x => x == 0#8
theorem bI_zero (x : BitVec 8) : (bI x == 0) = (x == 0#8) := by
  rw [Bool.eq_iff_iff, beq_iff_eq, beq_iff_eq]
  unfold bI
  constructor
  · intro h; exact BitVec.eq_of_toNat_eq (by simp; omega)
  · intro h; subst h; rfl
theorem empty1_c (x : BitVec 8) : FnP Try.prog 118 [.int .u8 (bI x)] (.bool (!(x == 0#8))) := by
  have e := bI_zero x
  refine FnP.intro Try.func118 rfl rfl fun G w => ?_
  repeat' (first
   | refine WK.seq ?_
   | refine WK.block ?_
   | refine WK.inBlock ?_
   | refine WK.skip ?_
   | refine WK.label ?_
   | refine WK.scope ?_
   | refine WK.inScope ?_
   | refine WK.exit rfl ?_
   | refine WK.condT rfl ?_
   | refine WK.condF rfl ?_
   | (refine Hid.h hQ _ _ ?_; clear hQ hA)
   | refine WK.condAny rfl ?_ ?_
   | ((first | refine WK.cond2 rfl (fun h => ?_) (fun h => ?_)) <;> (first | (simp [*] at h; done) | (have h2 := h; simp at h2; exfalso; omega) | (have h2 := h; simp at h2; try simp only [Bool.not_eq_true', Bool.not_eq_false'] at h) | skip))
   | (refine WK.regH Try.ntmps118 (by kernel_rfl) ?_; intro A hA Q hQ; simp [bne, *])
   | (refine WK.ret Try.func118 ?_ ?_ <;> simp (maxDischargeDepth := 120) [Try.results118, bne, *])
   | fail)
theorem aempty_c (b : List (BitVec 8)) (hb : b.length ≤ 9223372036854775807) : FnP Try.prog 94 [byS b] (.bool (allZ b)) := by
  have h := containsf_by 118 [] (fun x => !(x == 0#8)) b rfl hb (fun x _ => empty1_c x)
  have e : allZ b = !(b.any fun x => !(x == 0#8)) := by unfold allZ; rw [List.any_eq_not_all_not]; simp
  rw [e]
  refine FnP.intro Try.func94 rfl rfl fun G w => ?_
  repeat' (first
   | refine WK.seq ?_
   | refine WK.block ?_
   | refine WK.inBlock ?_
   | refine WK.skip ?_
   | refine WK.label ?_
   | refine WK.scope ?_
   | refine WK.inScope ?_
   | refine WK.exit rfl ?_
   | refine WK.condT rfl ?_
   | refine WK.condF rfl ?_
   | (refine Hid.h hQ _ _ ?_; clear hQ hA)
   | refine WK.condAny rfl ?_ ?_
   | ((first | refine WK.cond2 rfl (fun h => ?_) (fun h => ?_)) <;> (first | (simp [*] at h; done) | (have h2 := h; simp at h2; exfalso; omega) | (have h2 := h; simp at h2; try simp only [Bool.not_eq_true', Bool.not_eq_false'] at h) | skip))
   | (refine WK.regH Try.ntmps94 (by kernel_rfl) ?_; intro A hA Q hQ; simp [*])
   | ((refine RunQ.call rfl rfl rfl rfl rfl ?_ (h) ?_ ?_; (focus (simp (maxDischargeDepth := 120) [*]; done))); (focus (simp [*]; done)); refine RunQ.evalH ?_; simp [*])
   | (refine WK.ret Try.func94 ?_ ?_ <;> simp (maxDischargeDepth := 120) [Try.results94, *])
   | fail)
theorem bequal_c (l m : List (BitVec 8)) (hl : l.length ≤ 9223372036854775807) : FnP Try.prog 18 [byS l, byS m] (.bool (l == m)) := by
  unfold byS
  by_cases hlm : l.length = m.length
  case neg =>
    have e : (l == m) = false := by rw [beq_eq_false_iff_ne]; intro h; subst h; exact hlm rfl
    have e2 : ((l.length : Int) == (m.length : Int)) = false := by rw [beq_eq_false_iff_ne]; omega
    refine FnP.intro Try.func18 rfl rfl fun G w => ?_
    repeat' (first
     | refine WK.seq ?_
     | refine WK.block ?_
     | refine WK.inBlock ?_
     | refine WK.skip ?_
     | refine WK.label ?_
     | refine WK.scope ?_
     | refine WK.inScope ?_
     | refine WK.exit rfl ?_
     | refine WK.condT rfl ?_
     | refine WK.condF rfl ?_
     | (refine Hid.h hQ _ _ ?_; clear hQ hA)
     | refine WK.condAny rfl ?_ ?_
     | ((first | refine WK.cond2 rfl (fun h => ?_) (fun h => ?_)) <;> (first | (simp [*] at h; done) | (have h2 := h; simp at h2; exfalso; omega) | (have h2 := h; simp at h2; try simp only [Bool.not_eq_true', Bool.not_eq_false'] at h) | skip))
     | ((first | refine WK.regH Try.ntmps18 (by kernel_rfl) ?_ | refine WK.regX (by kernel_rfl) Try.ntmps18 (by kernel_rfl) ?_); intro A hA Q hQ; simp [bne, *])
     | (refine Hid.h hQ _ _ _ (by decide +kernel) ?_; clear hQ hA)
     | (refine WK.ret Try.func18 ?_ ?_ <;> simp (maxDischargeDepth := 120) [Try.results18, bne, *])
     | fail)
  refine FnP.intro Try.func18 rfl rfl fun G w => ?_
  repeat' (first
   | refine WK.seq ?_
   | refine WK.block ?_
   | refine WK.inBlock ?_
   | refine WK.skip ?_
   | refine WK.label ?_
   | refine WK.scope ?_
   | refine WK.inScope ?_
   | refine WK.exit rfl ?_
   | refine WK.condT rfl ?_
   | refine WK.condF rfl ?_
   | (refine Hid.h hQ _ _ ?_; clear hQ hA)
   | refine WK.condAny rfl ?_ ?_
   | ((first | refine WK.cond2 rfl (fun h => ?_) (fun h => ?_)) <;> (first | (simp [*] at h; done) | (have h2 := h; simp at h2; exfalso; omega) | (have h2 := h; simp at h2; try simp only [Bool.not_eq_true', Bool.not_eq_false'] at h) | skip))
   | ((first | refine WK.regH Try.ntmps18 (by kernel_rfl) ?_ | refine WK.regX (by kernel_rfl) Try.ntmps18 (by kernel_rfl) ?_); intro A hA Q hQ; simp [bne, *])
   | (refine Hid.h hQ _ _ _ (by decide +kernel) ?_; clear hQ hA)
   | fail)
  repeat (first | refine WK.seq ?_ | refine WK.block ?_ | refine WK.inBlock ?_ | refine WK.skip ?_ | refine WK.label ?_ | refine WK.scope ?_ | refine WK.inScope ?_ | refine WK.exit rfl ?_)
  refine WK.loopI (fun n => n) (fun i : Nat => (⟨(upd (upd (upd (upd J 0 (.sl false l.length (byL l))) 1 (.sl false m.length (byL m))) 12 (.int .i64 l.length)) 13 (.int .i64 i)), B0, 0⟩ : St)) (fun i => i ≤ l.length ∧ ∀ j, j < i → nth l j = nth m j) (fun i => l.length - i) (0) (by repeat (first | exact TmW.nil | refine TmW.upd ?_ (by simp (maxDischargeDepth := 120) [hlm]))) (by repeat (first | exact BxW.nil | refine BxW.upd ?_ (by simp (maxDischargeDepth := 120) [hlm]))) (by first | exact InjW.id | exact InjW.nil | exact InjW.one | exact InjW.two (by simp) | exact InjW.three (by simp) (by simp) (by simp)) (⟨by omega, by simp⟩) (fun i hi IH => ?_)
  by_cases h1 : i < l.length
  · have h4 := by_get l i h1
    have h1' : i < m.length := by omega
    have h4' := by_get m i h1'
    have h6 : IntKind.i64.wrap ((i : Int) + 1) = i + 1 := wrap_i64 (by omega) (by omega)
    have h7 : (bI (nth l i) == bI (nth m i)) = (nth l i == nth m i) := by
      rw [Bool.eq_iff_iff, beq_iff_eq, beq_iff_eq]
      constructor
      · intro h; exact BitVec.eq_of_toNat_eq (by unfold bI at h; omega)
      · intro h; rw [h]
    cases h5 : nth l i == nth m i
    · have e : (l == m) = false := by rw [beq_eq_false_iff_ne]; intro h; subst h; simp at h5
      clear hlm
      rw [h5] at h7
      repeat' (first
       | refine WK.seq ?_
       | refine WK.block ?_
       | refine WK.inBlock ?_
       | refine WK.skip ?_
       | refine WK.label ?_
       | refine WK.scope ?_
       | refine WK.inScope ?_
       | refine WK.exit rfl ?_
       | refine WK.condT rfl ?_
       | refine WK.condF rfl ?_
       | (refine Hid.h hQ _ _ ?_; clear hQ hA)
       | refine WK.condAny rfl ?_ ?_
       | ((first | refine WK.cond2 rfl (fun h => ?_) (fun h => ?_)) <;> (first | (simp [*] at h; done) | (have h2 := h; simp at h2; exfalso; omega) | (have h2 := h; simp at h2; try simp only [Bool.not_eq_true', Bool.not_eq_false'] at h) | skip))
       | ((first | refine WK.regH Try.ntmps18 (by kernel_rfl) ?_ | refine WK.regX (by kernel_rfl) Try.ntmps18 (by kernel_rfl) ?_); intro A hA Q hQ; simp [bne, *])
       | (refine Hid.h hQ _ _ _ (by decide +kernel) ?_; clear hQ hA)
       | (refine WK.ret Try.func18 ?_ ?_ <;> simp (maxDischargeDepth := 120) [Try.results18, bne, *])
       | fail)
    · rw [h5] at h7
      clear hlm
      repeat' (first
       | refine WK.seq ?_
       | refine WK.block ?_
       | refine WK.inBlock ?_
       | refine WK.skip ?_
       | refine WK.label ?_
       | refine WK.scope ?_
       | refine WK.inScope ?_
       | refine WK.exit rfl ?_
       | refine WK.condT rfl ?_
       | refine WK.condF rfl ?_
       | (refine Hid.h hQ _ _ ?_; clear hQ hA)
       | refine WK.condAny rfl ?_ ?_
       | ((first | refine WK.cond2 rfl (fun h => ?_) (fun h => ?_)) <;> (first | (simp [*] at h; done) | (have h2 := h; simp at h2; exfalso; omega) | (have h2 := h; simp at h2; try simp only [Bool.not_eq_true', Bool.not_eq_false'] at h) | skip))
       | ((first | refine WK.regH Try.ntmps18 (by kernel_rfl) ?_ | refine WK.regX (by kernel_rfl) Try.ntmps18 (by kernel_rfl) ?_); intro A hA Q hQ; simp [bne, *])
       | (refine Hid.h hQ _ _ _ (by decide +kernel) ?_; clear hQ hA)
       | fail)
      repeat (first | refine WK.seq ?_ | refine WK.block ?_ | refine WK.inBlock ?_ | refine WK.skip ?_ | refine WK.label ?_ | refine WK.scope ?_ | refine WK.inScope ?_ | refine WK.exit rfl ?_)
      refine WK.next (fun n => n) (IH (i + 1) (⟨by omega, fun j hj => by by_cases h7 : j = i; (subst h7; simpa using h5); exact hi.2 j (by omega)⟩) (by first | omega | (dsimp only; omega))) (by repeat (first | exact TmW.nil | refine TmW.upd ?_ (by simp (maxDischargeDepth := 120)))) (by repeat (first | exact BxW.nil | refine BxW.upd ?_ (by simp (maxDischargeDepth := 120)))) (by first | exact InjW.id | exact InjW.nil | exact InjW.one | exact InjW.two (by simp) | exact InjW.three (by simp) (by simp) (by simp))
  · have e : (l == m) = true := by
      rw [beq_iff_eq]
      refine List.ext_getElem hlm fun j h1 h2 => ?_
      rw [← nth_eq h1, ← nth_eq h2]; exact hi.2 j (by omega)
    repeat' (first
     | refine WK.seq ?_
     | refine WK.block ?_
     | refine WK.inBlock ?_
     | refine WK.skip ?_
     | refine WK.label ?_
     | refine WK.scope ?_
     | refine WK.inScope ?_
     | refine WK.exit rfl ?_
     | refine WK.condT rfl ?_
     | refine WK.condF rfl ?_
     | (refine Hid.h hQ _ _ ?_; clear hQ hA)
     | refine WK.condAny rfl ?_ ?_
     | ((first | refine WK.cond2 rfl (fun h => ?_) (fun h => ?_)) <;> (first | (simp [*] at h; done) | (have h2 := h; simp at h2; exfalso; omega) | (have h2 := h; simp at h2; try simp only [Bool.not_eq_true', Bool.not_eq_false'] at h) | skip))
     | ((first | refine WK.regH Try.ntmps18 (by kernel_rfl) ?_ | refine WK.regX (by kernel_rfl) Try.ntmps18 (by kernel_rfl) ?_); intro A hA Q hQ; simp [*])
     | (refine Hid.h hQ _ _ _ (by decide +kernel) ?_; clear hQ hA)
     | (refine WK.ret Try.func18 ?_ ?_ <;> simp (maxDischargeDepth := 120) [Try.results18, *])
     | fail)
end Go.Proofs.Yteonfhnljphbpaa
end

section
set_option linter.unusedVariables false
set_option linter.unusedSimpArgs false
namespace Go.Proofs.Yteonfhnljphbpaa
open Go Go.AI Go.Proofs
attribute [local irreducible] FnP FnO FnB FnT FnSeq WK RunQ RunQW RunX RunXW

theorem bNot7b_all : ∀ n : Fin 512, bNot .i64 (n.val : Int) 7 = ((n.val / 8 * 8 : Nat) : Int) := by decide +kernel
theorem bNot7b (n : Nat) (h : n < 512) : bNot .i64 (n : Int) 7 = ((n / 8 * 8 : Nat) : Int) := bNot7b_all ⟨n, h⟩
theorem bAnd7 (n : Nat) (h : n < 65536) : bAnd .i64 (n : Int) 7 = ((n % 8 : Nat) : Int) := by
  unfold bAnd
  show IntKind.wrap .i64 (((BitVec.ofInt 64 (n : Int) &&& BitVec.ofInt 64 7).toNat : Nat) : Int) = _
  rw [show BitVec.ofInt 64 (n : Int) = BitVec.ofNat 64 n from by rw [← BitVec.ofInt_natCast], show BitVec.ofInt 64 7 = BitVec.ofNat 64 7 from rfl, BitVec.toNat_and, BitVec.toNat_ofNat, BitVec.toNat_ofNat, Nat.mod_eq_of_lt (by omega), Nat.mod_eq_of_lt (by omega)]
  have e3 : n &&& 7 = n % 8 := Nat.and_two_pow_sub_one_eq_mod n 3
  rw [e3, wrap_i64 (by omega) (by omega)]
def aBad (c : Int) : Action × Int × Option Int := (act0, 0, some c)
def aFault : Option Int → List AV
  | none => [.bool false, .int .i64 0, .int .i64 0]
  | some c => [.bool true, .int .i64 2, .int .i64 c]
def aRes (r : Action × Int × Option Int) : AV := .tup [.agg r.1.enc, .int .i64 r.2.1, .agg (aFault r.2.2)]
@[simp] theorem aFault_cl (c : Option Int) : ClL (aFault c) = true := by cases c <;> rfl
@[simp] theorem aRes_cl (r : Action × Int × Option Int) : Cl (aRes r) = true := by simp [aRes, Cl, ClL]
theorem abad_c (c : Int) : FnP Try.prog 91 [.int .i64 c] (aRes (aBad c)) := by
  refine FnP.intro Try.func91 rfl rfl fun G w => ?_
  repeat' (first
   | refine WK.seq ?_
   | refine WK.block ?_
   | refine WK.inBlock ?_
   | refine WK.skip ?_
   | refine WK.label ?_
   | refine WK.scope ?_
   | refine WK.inScope ?_
   | refine WK.exit rfl ?_
   | refine WK.condT rfl ?_
   | refine WK.condF rfl ?_
   | (refine Hid.h hQ _ _ ?_; clear hQ hA)
   | refine WK.condAny rfl ?_ ?_
   | ((first | refine WK.cond2 rfl (fun h => ?_) (fun h => ?_)) <;> (first | (simp [*] at h; done) | (have h2 := h; simp at h2; exfalso; omega) | (have h2 := h; simp at h2; try simp only [Bool.not_eq_true', Bool.not_eq_false'] at h) | skip))
   | (refine WK.regH Try.ntmps91 (by kernel_rfl) ?_; intro A hA Q hQ; simp [*])
   | (refine WK.ret Try.func91 ?_ ?_ <;> simp (maxDischargeDepth := 120) [Try.results91, aRes, aBad, aFault, act0, Action.enc, oxm0, wideZ, uI_zero, *])
   | fail)
def aLength (k : Int) : Nat × Nat := if k = 0 then (16, 10) else if k = 22 then (8, 8) else if k = 17 then (8, 6) else if k = 18 then (8, 4) else (0, 0)
theorem alength_c (k : Int) : FnP Try.prog 93 [.int .i64 k] (.tup [.int .i64 ((aLength k).1 : Int), .int .i64 ((aLength k).2 : Int)]) := by
  refine FnP.intro Try.func93 rfl rfl fun G w => ?_
  repeat' (first
   | refine WK.seq ?_
   | refine WK.block ?_
   | refine WK.inBlock ?_
   | refine WK.skip ?_
   | refine WK.label ?_
   | refine WK.scope ?_
   | refine WK.inScope ?_
   | refine WK.exit rfl ?_
   | refine WK.condT rfl ?_
   | refine WK.condF rfl ?_
   | (refine Hid.h hQ _ _ ?_; clear hQ hA)
   | refine WK.condAny rfl ?_ ?_
   | ((first | refine WK.cond2 rfl (fun h => ?_) (fun h => ?_)) <;> (first | (simp [*] at h; done) | (have h2 := h; simp at h2; exfalso; omega) | (have h2 := h; simp at h2; try simp only [Bool.not_eq_true', Bool.not_eq_false'] at h) | skip))
   | (refine WK.regH Try.ntmps93 (by kernel_rfl) ?_; intro A hA Q hQ; simp [*])
   | (refine WK.ret Try.func93 ?_ ?_ <;> simp (maxDischargeDepth := 120) [Try.results93, aLength, *])
   | fail)
def aOf (k : Int) (b : List (BitVec 8)) : Action := if k = 0 then ⟨0, (getN b 4 4).1, (getN b 8 2).1, 0, 0, oxm0⟩ else if k = 22 then ⟨22, 0, 0, (getN b 4 4).1, 0, oxm0⟩ else if k = 17 then ⟨17, 0, 0, 0, (getN b 4 2).1, oxm0⟩ else ⟨k, 0, 0, 0, 0, oxm0⟩
def aPlain (k : Int) (b : List (BitVec 8)) : Action × Int × Option Int :=
  if k = 0 ∧ aGoes (getN b 4 4).1 = false then aBad 4 else if Action.right (aOf k b) = true then (aOf k b, b.length, none) else aBad (if k = 22 then 9 else 5)
set_option maxHeartbeats 4000000 in
theorem aplain_c (k : Int) (b : List (BitVec 8)) (hb : b.length ≤ 9223372036854775807) : FnP Try.prog 95 [.int .i64 k, byS b] (aRes (aPlain k b)) := by
  have hr := aright_c (aOf k b)
  have g1 := nget_c b 4 4 Sz4 hb (by omega)
  have g2 := nget_c b 8 2 Sz2 hb (by omega)
  have g3 := nget_c b 4 2 Sz2 hb (by omega)
  have b4 := abad_c 4
  have b5 := abad_c 5
  have b9 := abad_c 9
  obtain ⟨r, hre⟩ : ∃ r, Action.right (aOf k b) = r := ⟨_, rfl⟩
  rw [hre] at hr
  unfold byS at *
  by_cases k0 : k = 0
  · subst k0
    cases hg : aGoes (getN b 4 4).1
    · have e : aPlain 0 b = aBad 4 := by unfold aPlain; rw [if_pos ⟨rfl, hg⟩]
      clear hr hre
      refine FnP.intro Try.func95 rfl rfl fun G w => ?_
      repeat' (first
       | refine WK.seq ?_
       | refine WK.block ?_
       | refine WK.inBlock ?_
       | refine WK.skip ?_
       | refine WK.label ?_
       | refine WK.scope ?_
       | refine WK.inScope ?_
       | refine WK.exit rfl ?_
       | refine WK.condT rfl ?_
       | refine WK.condF rfl ?_
       | (refine Hid.h hQ _ _ ?_; clear hQ hA)
       | refine WK.condAny rfl ?_ ?_
       | ((first | refine WK.cond2 rfl (fun h => ?_) (fun h => ?_)) <;> (first | (simp [*] at h; done) | (have h2 := h; simp at h2; exfalso; omega) | (have h2 := h; simp at h2; try simp only [Bool.not_eq_true', Bool.not_eq_false'] at h) | skip))
       | (refine WK.regH Try.ntmps95 (by kernel_rfl) ?_; intro A hA Q hQ; simp [aRes, aBad, act0, Action.enc, oxm0, wideZ, uI_zero, aFault, *])
       | ((first | (refine RunQ.call rfl rfl rfl rfl rfl ?_ (g1) ?_ ?_; (focus (simp (maxDischargeDepth := 120) [aRes, aBad, act0, Action.enc, oxm0, wideZ, uI_zero, aFault, *]; done))) | (refine RunQ.call rfl rfl rfl rfl rfl ?_ (g2) ?_ ?_; (focus (simp (maxDischargeDepth := 120) [aRes, aBad, act0, Action.enc, oxm0, wideZ, uI_zero, aFault, *]; done))) | (refine RunQ.call rfl rfl rfl rfl rfl ?_ (agoes_c (getN b 4 4).1) ?_ ?_; (focus (simp (maxDischargeDepth := 120) [aRes, aBad, act0, Action.enc, oxm0, wideZ, uI_zero, aFault, *]; done))) | (refine RunQ.call rfl rfl rfl rfl rfl ?_ (b4) ?_ ?_; (focus (simp (maxDischargeDepth := 120) [aRes, aBad, act0, Action.enc, oxm0, wideZ, uI_zero, aFault, *]; done)))); (focus (simp [aRes, aBad, act0, Action.enc, oxm0, wideZ, uI_zero, aFault, *]; done)); refine RunQ.evalH ?_; simp [aRes, aBad, act0, Action.enc, oxm0, wideZ, uI_zero, aFault, *])
       | (refine WK.ret Try.func95 ?_ ?_ <;> simp (maxDischargeDepth := 120) [Try.results95, aRes, aBad, act0, Action.enc, oxm0, wideZ, uI_zero, aFault, *])
       | fail)
    · have e : aPlain 0 b = if r = true then (aOf 0 b, (b.length : Int), none) else aBad 5 := by unfold aPlain; rw [if_neg (by simp [hg]), hre]; rfl
      simp only [aOf, if_pos rfl, Action.enc, oxm0, wideZ, uI_zero] at hr
      clear hre
      refine FnP.intro Try.func95 rfl rfl fun G w => ?_
      cases r
      · repeat' (first
         | refine WK.seq ?_
         | refine WK.block ?_
         | refine WK.inBlock ?_
         | refine WK.skip ?_
         | refine WK.label ?_
         | refine WK.scope ?_
         | refine WK.inScope ?_
         | refine WK.exit rfl ?_
         | refine WK.condT rfl ?_
         | refine WK.condF rfl ?_
         | (refine Hid.h hQ _ _ ?_; clear hQ hA)
         | refine WK.condAny rfl ?_ ?_
         | ((first | refine WK.cond2 rfl (fun h => ?_) (fun h => ?_)) <;> (first | (simp [*] at h; done) | (have h2 := h; simp at h2; exfalso; omega) | (have h2 := h; simp at h2; try simp only [Bool.not_eq_true', Bool.not_eq_false'] at h) | skip))
         | (refine WK.regH Try.ntmps95 (by kernel_rfl) ?_; intro A hA Q hQ; simp [aRes, aBad, act0, Action.enc, oxm0, wideZ, uI_zero, aFault, *])
         | ((first | (refine RunQ.call rfl rfl rfl rfl rfl ?_ (g1) ?_ ?_; (focus (simp (maxDischargeDepth := 120) [aRes, aBad, act0, Action.enc, oxm0, wideZ, uI_zero, aFault, *]; done))) | (refine RunQ.call rfl rfl rfl rfl rfl ?_ (g2) ?_ ?_; (focus (simp (maxDischargeDepth := 120) [aRes, aBad, act0, Action.enc, oxm0, wideZ, uI_zero, aFault, *]; done))) | (refine RunQ.call rfl rfl rfl rfl rfl ?_ (agoes_c (getN b 4 4).1) ?_ ?_; (focus (simp (maxDischargeDepth := 120) [aRes, aBad, act0, Action.enc, oxm0, wideZ, uI_zero, aFault, *]; done))) | (refine RunQ.call rfl rfl rfl rfl rfl ?_ (hr) ?_ ?_; (focus (simp (maxDischargeDepth := 120) [aRes, aBad, act0, Action.enc, oxm0, wideZ, uI_zero, aFault, *]; done))) | (refine RunQ.call rfl rfl rfl rfl rfl ?_ (b5) ?_ ?_; (focus (simp (maxDischargeDepth := 120) [aRes, aBad, act0, Action.enc, oxm0, wideZ, uI_zero, aFault, *]; done)))); (focus (simp [aRes, aBad, act0, Action.enc, oxm0, wideZ, uI_zero, aFault, *]; done)); refine RunQ.evalH ?_; simp [aRes, aBad, act0, Action.enc, oxm0, wideZ, uI_zero, aFault, *])
         | (refine WK.ret Try.func95 ?_ ?_ <;> simp (maxDischargeDepth := 120) [Try.results95, aRes, aBad, act0, Action.enc, oxm0, wideZ, uI_zero, aFault, *])
         | fail)
      · repeat' (first
         | refine WK.seq ?_
         | refine WK.block ?_
         | refine WK.inBlock ?_
         | refine WK.skip ?_
         | refine WK.label ?_
         | refine WK.scope ?_
         | refine WK.inScope ?_
         | refine WK.exit rfl ?_
         | refine WK.condT rfl ?_
         | refine WK.condF rfl ?_
         | (refine Hid.h hQ _ _ ?_; clear hQ hA)
         | refine WK.condAny rfl ?_ ?_
         | ((first | refine WK.cond2 rfl (fun h => ?_) (fun h => ?_)) <;> (first | (simp [*] at h; done) | (have h2 := h; simp at h2; exfalso; omega) | (have h2 := h; simp at h2; try simp only [Bool.not_eq_true', Bool.not_eq_false'] at h) | skip))
         | (refine WK.regH Try.ntmps95 (by kernel_rfl) ?_; intro A hA Q hQ; simp [aRes, aBad, act0, Action.enc, oxm0, wideZ, uI_zero, aFault, *])
         | ((first | (refine RunQ.call rfl rfl rfl rfl rfl ?_ (g1) ?_ ?_; (focus (simp (maxDischargeDepth := 120) [aRes, aBad, act0, Action.enc, oxm0, wideZ, uI_zero, aFault, *]; done))) | (refine RunQ.call rfl rfl rfl rfl rfl ?_ (g2) ?_ ?_; (focus (simp (maxDischargeDepth := 120) [aRes, aBad, act0, Action.enc, oxm0, wideZ, uI_zero, aFault, *]; done))) | (refine RunQ.call rfl rfl rfl rfl rfl ?_ (agoes_c (getN b 4 4).1) ?_ ?_; (focus (simp (maxDischargeDepth := 120) [aRes, aBad, act0, Action.enc, oxm0, wideZ, uI_zero, aFault, *]; done))) | (refine RunQ.call rfl rfl rfl rfl rfl ?_ (hr) ?_ ?_; (focus (simp (maxDischargeDepth := 120) [aRes, aBad, act0, Action.enc, oxm0, wideZ, uI_zero, aFault, *]; done)))); (focus (simp [aRes, aBad, act0, Action.enc, oxm0, wideZ, uI_zero, aFault, *]; done)); refine RunQ.evalH ?_; simp [aRes, aBad, act0, Action.enc, oxm0, wideZ, uI_zero, aFault, *])
         | (refine WK.ret Try.func95 ?_ ?_ <;> simp (maxDischargeDepth := 120) [Try.results95, aRes, aBad, act0, Action.enc, oxm0, wideZ, uI_zero, aFault, aOf, *])
         | fail)
  by_cases k1 : k = 22
  · subst k1
    have e : aPlain 22 b = if r = true then (aOf 22 b, (b.length : Int), none) else aBad 9 := by unfold aPlain; rw [if_neg (by simp), hre]; rfl
    simp only [aOf, if_neg k0, if_pos rfl, Action.enc, oxm0, wideZ, uI_zero] at hr
    clear hre
    refine FnP.intro Try.func95 rfl rfl fun G w => ?_
    cases r
    · repeat' (first
       | refine WK.seq ?_
       | refine WK.block ?_
       | refine WK.inBlock ?_
       | refine WK.skip ?_
       | refine WK.label ?_
       | refine WK.scope ?_
       | refine WK.inScope ?_
       | refine WK.exit rfl ?_
       | refine WK.condT rfl ?_
       | refine WK.condF rfl ?_
       | (refine Hid.h hQ _ _ ?_; clear hQ hA)
       | refine WK.condAny rfl ?_ ?_
       | ((first | refine WK.cond2 rfl (fun h => ?_) (fun h => ?_)) <;> (first | (simp [*] at h; done) | (have h2 := h; simp at h2; exfalso; omega) | (have h2 := h; simp at h2; try simp only [Bool.not_eq_true', Bool.not_eq_false'] at h) | skip))
       | (refine WK.regH Try.ntmps95 (by kernel_rfl) ?_; intro A hA Q hQ; simp [aRes, aBad, act0, Action.enc, oxm0, wideZ, uI_zero, aFault, *])
       | ((first | (refine RunQ.call rfl rfl rfl rfl rfl ?_ (g1) ?_ ?_; (focus (simp (maxDischargeDepth := 120) [aRes, aBad, act0, Action.enc, oxm0, wideZ, uI_zero, aFault, *]; done))) | (refine RunQ.call rfl rfl rfl rfl rfl ?_ (hr) ?_ ?_; (focus (simp (maxDischargeDepth := 120) [aRes, aBad, act0, Action.enc, oxm0, wideZ, uI_zero, aFault, *]; done))) | (refine RunQ.call rfl rfl rfl rfl rfl ?_ (b9) ?_ ?_; (focus (simp (maxDischargeDepth := 120) [aRes, aBad, act0, Action.enc, oxm0, wideZ, uI_zero, aFault, *]; done)))); (focus (simp [aRes, aBad, act0, Action.enc, oxm0, wideZ, uI_zero, aFault, *]; done)); refine RunQ.evalH ?_; simp [aRes, aBad, act0, Action.enc, oxm0, wideZ, uI_zero, aFault, *])
       | (refine WK.ret Try.func95 ?_ ?_ <;> simp (maxDischargeDepth := 120) [Try.results95, aRes, aBad, act0, Action.enc, oxm0, wideZ, uI_zero, aFault, *])
       | fail)
    · repeat' (first
       | refine WK.seq ?_
       | refine WK.block ?_
       | refine WK.inBlock ?_
       | refine WK.skip ?_
       | refine WK.label ?_
       | refine WK.scope ?_
       | refine WK.inScope ?_
       | refine WK.exit rfl ?_
       | refine WK.condT rfl ?_
       | refine WK.condF rfl ?_
       | (refine Hid.h hQ _ _ ?_; clear hQ hA)
       | refine WK.condAny rfl ?_ ?_
       | ((first | refine WK.cond2 rfl (fun h => ?_) (fun h => ?_)) <;> (first | (simp [*] at h; done) | (have h2 := h; simp at h2; exfalso; omega) | (have h2 := h; simp at h2; try simp only [Bool.not_eq_true', Bool.not_eq_false'] at h) | skip))
       | (refine WK.regH Try.ntmps95 (by kernel_rfl) ?_; intro A hA Q hQ; simp [aRes, aBad, act0, Action.enc, oxm0, wideZ, uI_zero, aFault, *])
       | ((first | (refine RunQ.call rfl rfl rfl rfl rfl ?_ (g1) ?_ ?_; (focus (simp (maxDischargeDepth := 120) [aRes, aBad, act0, Action.enc, oxm0, wideZ, uI_zero, aFault, *]; done))) | (refine RunQ.call rfl rfl rfl rfl rfl ?_ (hr) ?_ ?_; (focus (simp (maxDischargeDepth := 120) [aRes, aBad, act0, Action.enc, oxm0, wideZ, uI_zero, aFault, *]; done)))); (focus (simp [aRes, aBad, act0, Action.enc, oxm0, wideZ, uI_zero, aFault, *]; done)); refine RunQ.evalH ?_; simp [aRes, aBad, act0, Action.enc, oxm0, wideZ, uI_zero, aFault, *])
       | (refine WK.ret Try.func95 ?_ ?_ <;> simp (maxDischargeDepth := 120) [Try.results95, aRes, aBad, act0, Action.enc, oxm0, wideZ, uI_zero, aFault, aOf, *])
       | fail)
  by_cases k2 : k = 17
  · subst k2
    have e : aPlain 17 b = if r = true then (aOf 17 b, (b.length : Int), none) else aBad 5 := by unfold aPlain; rw [if_neg (by simp), hre]; rfl
    simp only [aOf, if_neg k0, if_neg k1, if_pos rfl, Action.enc, oxm0, wideZ, uI_zero] at hr
    clear hre
    refine FnP.intro Try.func95 rfl rfl fun G w => ?_
    cases r
    · repeat' (first
       | refine WK.seq ?_
       | refine WK.block ?_
       | refine WK.inBlock ?_
       | refine WK.skip ?_
       | refine WK.label ?_
       | refine WK.scope ?_
       | refine WK.inScope ?_
       | refine WK.exit rfl ?_
       | refine WK.condT rfl ?_
       | refine WK.condF rfl ?_
       | (refine Hid.h hQ _ _ ?_; clear hQ hA)
       | refine WK.condAny rfl ?_ ?_
       | ((first | refine WK.cond2 rfl (fun h => ?_) (fun h => ?_)) <;> (first | (simp [*] at h; done) | (have h2 := h; simp at h2; exfalso; omega) | (have h2 := h; simp at h2; try simp only [Bool.not_eq_true', Bool.not_eq_false'] at h) | skip))
       | (refine WK.regH Try.ntmps95 (by kernel_rfl) ?_; intro A hA Q hQ; simp [aRes, aBad, act0, Action.enc, oxm0, wideZ, uI_zero, aFault, *])
       | ((first | (refine RunQ.call rfl rfl rfl rfl rfl ?_ (g3) ?_ ?_; (focus (simp (maxDischargeDepth := 120) [aRes, aBad, act0, Action.enc, oxm0, wideZ, uI_zero, aFault, *]; done))) | (refine RunQ.call rfl rfl rfl rfl rfl ?_ (hr) ?_ ?_; (focus (simp (maxDischargeDepth := 120) [aRes, aBad, act0, Action.enc, oxm0, wideZ, uI_zero, aFault, *]; done))) | (refine RunQ.call rfl rfl rfl rfl rfl ?_ (b5) ?_ ?_; (focus (simp (maxDischargeDepth := 120) [aRes, aBad, act0, Action.enc, oxm0, wideZ, uI_zero, aFault, *]; done)))); (focus (simp [aRes, aBad, act0, Action.enc, oxm0, wideZ, uI_zero, aFault, *]; done)); refine RunQ.evalH ?_; simp [aRes, aBad, act0, Action.enc, oxm0, wideZ, uI_zero, aFault, *])
       | (refine WK.ret Try.func95 ?_ ?_ <;> simp (maxDischargeDepth := 120) [Try.results95, aRes, aBad, act0, Action.enc, oxm0, wideZ, uI_zero, aFault, *])
       | fail)
    · repeat' (first
       | refine WK.seq ?_
       | refine WK.block ?_
       | refine WK.inBlock ?_
       | refine WK.skip ?_
       | refine WK.label ?_
       | refine WK.scope ?_
       | refine WK.inScope ?_
       | refine WK.exit rfl ?_
       | refine WK.condT rfl ?_
       | refine WK.condF rfl ?_
       | (refine Hid.h hQ _ _ ?_; clear hQ hA)
       | refine WK.condAny rfl ?_ ?_
       | ((first | refine WK.cond2 rfl (fun h => ?_) (fun h => ?_)) <;> (first | (simp [*] at h; done) | (have h2 := h; simp at h2; exfalso; omega) | (have h2 := h; simp at h2; try simp only [Bool.not_eq_true', Bool.not_eq_false'] at h) | skip))
       | (refine WK.regH Try.ntmps95 (by kernel_rfl) ?_; intro A hA Q hQ; simp [aRes, aBad, act0, Action.enc, oxm0, wideZ, uI_zero, aFault, *])
       | ((first | (refine RunQ.call rfl rfl rfl rfl rfl ?_ (g3) ?_ ?_; (focus (simp (maxDischargeDepth := 120) [aRes, aBad, act0, Action.enc, oxm0, wideZ, uI_zero, aFault, *]; done))) | (refine RunQ.call rfl rfl rfl rfl rfl ?_ (hr) ?_ ?_; (focus (simp (maxDischargeDepth := 120) [aRes, aBad, act0, Action.enc, oxm0, wideZ, uI_zero, aFault, *]; done)))); (focus (simp [aRes, aBad, act0, Action.enc, oxm0, wideZ, uI_zero, aFault, *]; done)); refine RunQ.evalH ?_; simp [aRes, aBad, act0, Action.enc, oxm0, wideZ, uI_zero, aFault, *])
       | (refine WK.ret Try.func95 ?_ ?_ <;> simp (maxDischargeDepth := 120) [Try.results95, aRes, aBad, act0, Action.enc, oxm0, wideZ, uI_zero, aFault, aOf, *])
       | fail)
  have e : aPlain k b = if r = true then (aOf k b, (b.length : Int), none) else aBad 5 := by unfold aPlain; rw [if_neg (by simp [k0]), hre, if_neg k1]
  simp only [aOf, if_neg k0, if_neg k1, if_neg k2, Action.enc, oxm0, wideZ, uI_zero] at hr
  clear hre
  refine FnP.intro Try.func95 rfl rfl fun G w => ?_
  cases r
  · repeat' (first
     | refine WK.seq ?_
     | refine WK.block ?_
     | refine WK.inBlock ?_
     | refine WK.skip ?_
     | refine WK.label ?_
     | refine WK.scope ?_
     | refine WK.inScope ?_
     | refine WK.exit rfl ?_
     | refine WK.condT rfl ?_
     | refine WK.condF rfl ?_
     | (refine Hid.h hQ _ _ ?_; clear hQ hA)
     | refine WK.condAny rfl ?_ ?_
     | ((first | refine WK.cond2 rfl (fun h => ?_) (fun h => ?_)) <;> (first | (simp [*] at h; done) | (have h2 := h; simp at h2; exfalso; omega) | (have h2 := h; simp at h2; try simp only [Bool.not_eq_true', Bool.not_eq_false'] at h) | skip))
     | (refine WK.regH Try.ntmps95 (by kernel_rfl) ?_; intro A hA Q hQ; simp [aRes, aBad, act0, Action.enc, oxm0, wideZ, uI_zero, aFault, *])
     | ((first | (refine RunQ.call rfl rfl rfl rfl rfl ?_ (hr) ?_ ?_; (focus (simp (maxDischargeDepth := 120) [aRes, aBad, act0, Action.enc, oxm0, wideZ, uI_zero, aFault, *]; done))) | (refine RunQ.call rfl rfl rfl rfl rfl ?_ (b5) ?_ ?_; (focus (simp (maxDischargeDepth := 120) [aRes, aBad, act0, Action.enc, oxm0, wideZ, uI_zero, aFault, *]; done)))); (focus (simp [aRes, aBad, act0, Action.enc, oxm0, wideZ, uI_zero, aFault, *]; done)); refine RunQ.evalH ?_; simp [aRes, aBad, act0, Action.enc, oxm0, wideZ, uI_zero, aFault, *])
     | (refine WK.ret Try.func95 ?_ ?_ <;> simp (maxDischargeDepth := 120) [Try.results95, aRes, aBad, act0, Action.enc, oxm0, wideZ, uI_zero, aFault, *])
     | fail)
  · repeat' (first
     | refine WK.seq ?_
     | refine WK.block ?_
     | refine WK.inBlock ?_
     | refine WK.skip ?_
     | refine WK.label ?_
     | refine WK.scope ?_
     | refine WK.inScope ?_
     | refine WK.exit rfl ?_
     | refine WK.condT rfl ?_
     | refine WK.condF rfl ?_
     | (refine Hid.h hQ _ _ ?_; clear hQ hA)
     | refine WK.condAny rfl ?_ ?_
     | ((first | refine WK.cond2 rfl (fun h => ?_) (fun h => ?_)) <;> (first | (simp [*] at h; done) | (have h2 := h; simp at h2; exfalso; omega) | (have h2 := h; simp at h2; try simp only [Bool.not_eq_true', Bool.not_eq_false'] at h) | skip))
     | (refine WK.regH Try.ntmps95 (by kernel_rfl) ?_; intro A hA Q hQ; simp [aRes, aBad, act0, Action.enc, oxm0, wideZ, uI_zero, aFault, *])
     | ((refine RunQ.call rfl rfl rfl rfl rfl ?_ (hr) ?_ ?_; (focus (simp (maxDischargeDepth := 120) [aRes, aBad, act0, Action.enc, oxm0, wideZ, uI_zero, aFault, *]; done))); (focus (simp [aRes, aBad, act0, Action.enc, oxm0, wideZ, uI_zero, aFault, *]; done)); refine RunQ.evalH ?_; simp [aRes, aBad, act0, Action.enc, oxm0, wideZ, uI_zero, aFault, *])
     | (refine WK.ret Try.func95 ?_ ?_ <;> simp (maxDischargeDepth := 120) [Try.results95, aRes, aBad, act0, Action.enc, oxm0, wideZ, uI_zero, aFault, aOf, *])
     | fail)
end Go.Proofs.Yteonfhnljphbpaa
end

section
set_option linter.unusedVariables false
set_option linter.unusedSimpArgs false
namespace Go.Proofs.Yteonfhnljphbpaa
open Go Go.AI Go.Proofs
attribute [local irreducible] FnP FnO FnB FnT FnSeq WK RunQ RunQW RunX RunXW

/-- how many bytes a part's reading takes -/
def oLen (b : List (BitVec 8)) : Nat := (oDec b).2.1.toNat
theorem oLen_eq (b : List (BitVec 8)) : (oDec b).2.1 = (oLen b : Int) ∧ oLen b ≤ 259 := by
  have h : 0 ≤ (oDec b).2.1 ∧ (oDec b).2.1 ≤ 259 := by
    have := bAt_lt b 3
    unfold oDec
    split
    · split <;> (simp only; omega)
    · simp
  unfold oLen; omega
def aSetD (b : List (BitVec 8)) : Action × Int × Option Int :=
  if (oDec (b.drop 4)).2.2 = 1 then aBad 14 else if (oDec (b.drop 4)).2.2 = 6 then aBad 13 else if (oDec (b.drop 4)).2.2 = 0 then
    (if b.length = (4 + oLen (b.drop 4) + 7) / 8 * 8 then (if allZ (b.drop (4 + oLen (b.drop 4))) = true then (if aSets (oDec (b.drop 4)).1.field = true then
      (if (oDec (b.drop 4)).1.masked = true then aBad 15 else (⟨25, 0, 0, 0, 0, (oDec (b.drop 4)).1⟩, (b.length : Int), none)) else aBad 13) else aBad 5) else aBad 1) else aBad 15
set_option maxHeartbeats 4000000 in
theorem aset_c (b : List (BitVec 8)) (hb : b.length ≤ 65536) (h8 : 8 ≤ b.length) : FnP Try.prog 92 [byS b] (aRes (aSetD b)) := by
  have hd := odec_c (b.drop 4) (by rw [List.length_drop]; omega)
  have hol := oLen_eq (b.drop 4)
  have hn : aSetD b = if (oDec (b.drop 4)).2.2 = 1 then aBad 14 else if (oDec (b.drop 4)).2.2 = 6 then aBad 13 else if (oDec (b.drop 4)).2.2 = 0 then
    (if b.length = (4 + oLen (b.drop 4) + 7) / 8 * 8 then (if allZ (b.drop (4 + oLen (b.drop 4))) = true then (if aSets (oDec (b.drop 4)).1.field = true then
      (if (oDec (b.drop 4)).1.masked = true then aBad 15 else (⟨25, 0, 0, 0, 0, (oDec (b.drop 4)).1⟩, (b.length : Int), none)) else aBad 13) else aBad 5) else aBad 1) else aBad 15 := rfl
  obtain ⟨x, hx⟩ : ∃ x, oLen (b.drop 4) = x := ⟨_, rfl⟩
  obtain ⟨D, hD⟩ : ∃ D, oDec (b.drop 4) = D := ⟨_, rfl⟩
  rw [hx, hD] at hol
  rw [hx, hD] at hn
  rw [hD, hol.1] at hd
  have hx9 := hol.2
  obtain ⟨o, m, c⟩ := D
  simp only at hn hd
  clear hD hx hol
  have d4 : ((byL b).drop 4).take (b.length - 4) = byL (b.drop 4) := by rw [byL_drop]; exact by_full _ _ (by rw [List.length_drop])
  have j4 : (4 : Int) ≤ b.length := by omega
  unfold byS at *
  rw [List.length_drop] at hd
  have b1 := abad_c 1
  have b5 := abad_c 5
  have b13 := abad_c 13
  have b14 := abad_c 14
  have b15 := abad_c 15
  by_cases c1 : c = 1
  · subst c1
    have e : aSetD b = aBad 14 := by rw [hn, if_pos rfl]
    clear hn
    simp only [oFault, if_neg (show ¬ (1 : Int) = 0 by decide)] at hd
    refine FnP.intro Try.func92 rfl rfl fun G w => ?_
    repeat' (first
     | refine WK.seq ?_
     | refine WK.block ?_
     | refine WK.inBlock ?_
     | refine WK.skip ?_
     | refine WK.label ?_
     | refine WK.scope ?_
     | refine WK.inScope ?_
     | refine WK.exit rfl ?_
     | refine WK.condT rfl ?_
     | refine WK.condF rfl ?_
     | (refine Hid.h hQ _ _ ?_; clear hQ hA)
     | refine WK.condAny rfl ?_ ?_
     | ((first | refine WK.cond2 rfl (fun h => ?_) (fun h => ?_) | refine Fork.mk (fun h => ?_) (fun h => ?_)) <;> (first | (simp [*] at h; done) | (have h2 := h; simp at h2; exfalso; omega) | (have h2 := h; simp at h2; try simp only [Bool.not_eq_true', Bool.not_eq_false'] at h) | skip))
     | (refine WK.regH Try.ntmps92 (by kernel_rfl) ?_; intro A hA Q hQ; simp [aRes, aBad, act0, Action.enc, Oxm.enc, oxm0, wideZ, uI_zero, aFault, *])
     | (refine RunQ.gd rfl (by rw [hA.h]; rfl) ?_; simp [aRes, aBad, act0, Action.enc, Oxm.enc, oxm0, wideZ, uI_zero, aFault, *])
     | ((first | ((first | refine RunQ.call rfl rfl rfl rfl rfl ?_ (hd) ?_ ?_ | refine RunQW.call rfl rfl rfl rfl ?_ (hd) ?_ ?_); (focus (simp (maxDischargeDepth := 120) [aRes, aBad, act0, Action.enc, Oxm.enc, oxm0, wideZ, uI_zero, aFault, *]; done))) | ((first | refine RunQ.call rfl rfl rfl rfl rfl ?_ (b14) ?_ ?_ | refine RunQW.call rfl rfl rfl rfl ?_ (b14) ?_ ?_); (focus (simp (maxDischargeDepth := 120) [aRes, aBad, act0, Action.enc, Oxm.enc, oxm0, wideZ, uI_zero, aFault, *]; done)))); (focus (simp [aRes, aBad, act0, Action.enc, Oxm.enc, oxm0, wideZ, uI_zero, aFault, *]; done)); refine RunQ.evalH ?_; simp [aRes, aBad, act0, Action.enc, Oxm.enc, oxm0, wideZ, uI_zero, aFault, *])
     | (refine WK.ret Try.func92 ?_ ?_ <;> simp (maxDischargeDepth := 120) [Try.results92, aRes, aBad, act0, Action.enc, Oxm.enc, oxm0, wideZ, uI_zero, aFault, *])
     | fail)
  by_cases c6 : c = 6
  · subst c6
    have e : aSetD b = aBad 13 := by rw [hn, if_neg c1, if_pos rfl]
    clear hn
    simp only [oFault, if_neg (show ¬ (6 : Int) = 0 by decide)] at hd
    refine FnP.intro Try.func92 rfl rfl fun G w => ?_
    repeat' (first
     | refine WK.seq ?_
     | refine WK.block ?_
     | refine WK.inBlock ?_
     | refine WK.skip ?_
     | refine WK.label ?_
     | refine WK.scope ?_
     | refine WK.inScope ?_
     | refine WK.exit rfl ?_
     | refine WK.condT rfl ?_
     | refine WK.condF rfl ?_
     | (refine Hid.h hQ _ _ ?_; clear hQ hA)
     | refine WK.condAny rfl ?_ ?_
     | ((first | refine WK.cond2 rfl (fun h => ?_) (fun h => ?_) | refine Fork.mk (fun h => ?_) (fun h => ?_)) <;> (first | (simp [*] at h; done) | (have h2 := h; simp at h2; exfalso; omega) | (have h2 := h; simp at h2; try simp only [Bool.not_eq_true', Bool.not_eq_false'] at h) | skip))
     | (refine WK.regH Try.ntmps92 (by kernel_rfl) ?_; intro A hA Q hQ; simp [aRes, aBad, act0, Action.enc, Oxm.enc, oxm0, wideZ, uI_zero, aFault, *])
     | (refine RunQ.gd rfl (by rw [hA.h]; rfl) ?_; simp [aRes, aBad, act0, Action.enc, Oxm.enc, oxm0, wideZ, uI_zero, aFault, *])
     | ((first | ((first | refine RunQ.call rfl rfl rfl rfl rfl ?_ (hd) ?_ ?_ | refine RunQW.call rfl rfl rfl rfl ?_ (hd) ?_ ?_); (focus (simp (maxDischargeDepth := 120) [aRes, aBad, act0, Action.enc, Oxm.enc, oxm0, wideZ, uI_zero, aFault, *]; done))) | ((first | refine RunQ.call rfl rfl rfl rfl rfl ?_ (b13) ?_ ?_ | refine RunQW.call rfl rfl rfl rfl ?_ (b13) ?_ ?_); (focus (simp (maxDischargeDepth := 120) [aRes, aBad, act0, Action.enc, Oxm.enc, oxm0, wideZ, uI_zero, aFault, *]; done)))); (focus (simp [aRes, aBad, act0, Action.enc, Oxm.enc, oxm0, wideZ, uI_zero, aFault, *]; done)); refine RunQ.evalH ?_; simp [aRes, aBad, act0, Action.enc, Oxm.enc, oxm0, wideZ, uI_zero, aFault, *])
     | (refine WK.ret Try.func92 ?_ ?_ <;> simp (maxDischargeDepth := 120) [Try.results92, aRes, aBad, act0, Action.enc, Oxm.enc, oxm0, wideZ, uI_zero, aFault, *])
     | fail)
  by_cases c0 : c = 0
  case neg =>
    have e : aSetD b = aBad 15 := by rw [hn, if_neg c1, if_neg c6, if_neg c0]
    clear hn
    simp only [oFault, if_neg c0] at hd
    refine FnP.intro Try.func92 rfl rfl fun G w => ?_
    repeat' (first
     | refine WK.seq ?_
     | refine WK.block ?_
     | refine WK.inBlock ?_
     | refine WK.skip ?_
     | refine WK.label ?_
     | refine WK.scope ?_
     | refine WK.inScope ?_
     | refine WK.exit rfl ?_
     | refine WK.condT rfl ?_
     | refine WK.condF rfl ?_
     | (refine Hid.h hQ _ _ ?_; clear hQ hA)
     | refine WK.condAny rfl ?_ ?_
     | ((first | refine WK.cond2 rfl (fun h => ?_) (fun h => ?_) | refine Fork.mk (fun h => ?_) (fun h => ?_)) <;> (first | (simp [*] at h; done) | (have h2 := h; simp at h2; exfalso; omega) | (have h2 := h; simp at h2; try simp only [Bool.not_eq_true', Bool.not_eq_false'] at h) | skip))
     | (refine WK.regH Try.ntmps92 (by kernel_rfl) ?_; intro A hA Q hQ; simp [aRes, aBad, act0, Action.enc, Oxm.enc, oxm0, wideZ, uI_zero, aFault, *])
     | (refine RunQ.gd rfl (by rw [hA.h]; rfl) ?_; simp [aRes, aBad, act0, Action.enc, Oxm.enc, oxm0, wideZ, uI_zero, aFault, *])
     | ((first | ((first | refine RunQ.call rfl rfl rfl rfl rfl ?_ (hd) ?_ ?_ | refine RunQW.call rfl rfl rfl rfl ?_ (hd) ?_ ?_); (focus (simp (maxDischargeDepth := 120) [aRes, aBad, act0, Action.enc, Oxm.enc, oxm0, wideZ, uI_zero, aFault, *]; done))) | ((first | refine RunQ.call rfl rfl rfl rfl rfl ?_ (b15) ?_ ?_ | refine RunQW.call rfl rfl rfl rfl ?_ (b15) ?_ ?_); (focus (simp (maxDischargeDepth := 120) [aRes, aBad, act0, Action.enc, Oxm.enc, oxm0, wideZ, uI_zero, aFault, *]; done)))); (focus (simp [aRes, aBad, act0, Action.enc, Oxm.enc, oxm0, wideZ, uI_zero, aFault, *]; done)); refine RunQ.evalH ?_; simp [aRes, aBad, act0, Action.enc, Oxm.enc, oxm0, wideZ, uI_zero, aFault, *])
     | (refine WK.ret Try.func92 ?_ ?_ <;> simp (maxDischargeDepth := 120) [Try.results92, aRes, aBad, act0, Action.enc, Oxm.enc, oxm0, wideZ, uI_zero, aFault, *])
     | fail)
  subst c0
  rw [if_neg c1, if_neg c6, if_pos rfl] at hn
  simp only [oFault, if_pos rfl] at hd
  have w1 : IntKind.i64.wrap (4 + (x : Int)) = ((4 + x : Nat) : Int) := by rw [wrap_i64 (by omega) (by omega)]; omega
  have w2 : IntKind.i64.wrap (((4 + x : Nat) : Int) + 7) = ((4 + x + 7 : Nat) : Int) := by rw [wrap_i64 (by omega) (by omega)]; omega
  have w3 := bNot7b (4 + x + 7) (by omega)
  have z1 : ((b.length : Int) == (((4 + x + 7) / 8 * 8 : Nat) : Int)) = (b.length == (4 + x + 7) / 8 * 8) := by rw [Bool.eq_iff_iff, beq_iff_eq, beq_iff_eq]; omega
  by_cases hl : b.length = (4 + x + 7) / 8 * 8
  case neg =>
    have hlb : (b.length == (4 + x + 7) / 8 * 8) = false := by simpa using hl
    have e : aSetD b = aBad 1 := by rw [hn, if_neg hl]
    clear hn hl
    rw [hlb] at z1
    obtain ⟨y, hy⟩ : ∃ y, (4 + x + 7) / 8 * 8 = y := ⟨_, rfl⟩
    obtain ⟨x4, hx4⟩ : ∃ x4, 4 + x = x4 := ⟨_, rfl⟩
    obtain ⟨x7, hx7⟩ : ∃ x7, 4 + x + 7 = x7 := ⟨_, rfl⟩
    rw [hx4] at hx7 w1 w2 w3 z1
    rw [hx7] at w2 w3 z1
    obtain ⟨y, hy⟩ : ∃ y, x7 / 8 * 8 = y := ⟨_, rfl⟩
    rw [hy] at w3 z1
    clear hy hx4 hx7 hlb
    refine FnP.intro Try.func92 rfl rfl fun G w => ?_
    repeat' (first
     | refine WK.seq ?_
     | refine WK.block ?_
     | refine WK.inBlock ?_
     | refine WK.skip ?_
     | refine WK.label ?_
     | refine WK.scope ?_
     | refine WK.inScope ?_
     | refine WK.exit rfl ?_
     | refine WK.condT rfl ?_
     | refine WK.condF rfl ?_
     | (refine Hid.h hQ _ _ ?_; clear hQ hA)
     | refine WK.condAny rfl ?_ ?_
     | ((first | refine WK.cond2 rfl (fun h => ?_) (fun h => ?_) | refine Fork.mk (fun h => ?_) (fun h => ?_)) <;> (first | (simp [*] at h; done) | (have h2 := h; simp at h2; exfalso; omega) | (have h2 := h; simp at h2; try simp only [Bool.not_eq_true', Bool.not_eq_false'] at h) | skip))
     | (refine WK.regH Try.ntmps92 (by kernel_rfl) ?_; intro A hA Q hQ; simp [aRes, aBad, act0, Action.enc, Oxm.enc, oxm0, wideZ, uI_zero, bne, aFault, *])
     | (refine RunQ.gd rfl (by rw [hA.h]; rfl) ?_; simp [aRes, aBad, act0, Action.enc, Oxm.enc, oxm0, wideZ, uI_zero, bne, aFault, *])
     | ((first | ((first | refine RunQ.call rfl rfl rfl rfl rfl ?_ (hd) ?_ ?_ | refine RunQW.call rfl rfl rfl rfl ?_ (hd) ?_ ?_); (focus (simp (maxDischargeDepth := 120) [aRes, aBad, act0, Action.enc, Oxm.enc, oxm0, wideZ, uI_zero, bne, aFault, *]; done))) | ((first | refine RunQ.call rfl rfl rfl rfl rfl ?_ (b1) ?_ ?_ | refine RunQW.call rfl rfl rfl rfl ?_ (b1) ?_ ?_); (focus (simp (maxDischargeDepth := 120) [aRes, aBad, act0, Action.enc, Oxm.enc, oxm0, wideZ, uI_zero, bne, aFault, *]; done)))); (focus (simp [aRes, aBad, act0, Action.enc, Oxm.enc, oxm0, wideZ, uI_zero, bne, aFault, *]; done)); refine RunQ.evalH ?_; simp [aRes, aBad, act0, Action.enc, Oxm.enc, oxm0, wideZ, uI_zero, bne, aFault, *])
     | (refine WK.ret Try.func92 ?_ ?_ <;> simp (maxDischargeDepth := 120) [Try.results92, aRes, aBad, act0, Action.enc, Oxm.enc, oxm0, wideZ, uI_zero, bne, aFault, *])
     | fail)
  have hlb : (b.length == (4 + x + 7) / 8 * 8) = true := by simpa using hl
  rw [if_pos hl] at hn
  rw [hlb] at z1
  have hle : 4 + x ≤ b.length := by omega
  have hle' : ((4 + x : Nat) : Int) ≤ b.length := by omega
  have d5 : ((byL b).drop (4 + x)).take (b.length - (4 + x)) = byL (b.drop (4 + x)) := by rw [byL_drop]; exact by_full _ _ (by rw [List.length_drop])
  have he := aempty_c (b.drop (4 + x)) (by rw [List.length_drop]; omega)
  unfold byS at he
  rw [List.length_drop] at he
  obtain ⟨y, hy⟩ : ∃ y, (4 + x + 7) / 8 * 8 = y := ⟨_, rfl⟩
  obtain ⟨x4, hx4⟩ : ∃ x4, 4 + x = x4 := ⟨_, rfl⟩
  obtain ⟨x7, hx7⟩ : ∃ x7, 4 + x + 7 = x7 := ⟨_, rfl⟩
  rw [hx4] at hx7 w1 w2 w3 z1 hle hle' d5 he hn
  rw [hx7] at w2 w3 z1
  obtain ⟨y, hy⟩ : ∃ y, x7 / 8 * 8 = y := ⟨_, rfl⟩
  rw [hy] at w3 z1
  obtain ⟨B5, hB5⟩ : ∃ B5, b.drop x4 = B5 := ⟨_, rfl⟩
  rw [hB5] at d5 he hn
  clear hy hx4 hx7 hlb hl hB5
  refine FnP.intro Try.func92 rfl rfl fun G w => ?_
  cases k1 : allZ B5
  · rw [k1, if_neg Bool.false_ne_true] at hn
    repeat' (first
     | refine WK.seq ?_
     | refine WK.block ?_
     | refine WK.inBlock ?_
     | refine WK.skip ?_
     | refine WK.label ?_
     | refine WK.scope ?_
     | refine WK.inScope ?_
     | refine WK.exit rfl ?_
     | refine WK.condT rfl ?_
     | refine WK.condF rfl ?_
     | (refine Hid.h hQ _ _ ?_; clear hQ hA)
     | refine WK.condAny rfl ?_ ?_
     | ((first | refine WK.cond2 rfl (fun h => ?_) (fun h => ?_) | refine Fork.mk (fun h => ?_) (fun h => ?_)) <;> (first | (simp [*] at h; done) | (have h2 := h; simp at h2; exfalso; omega) | (have h2 := h; simp at h2; try simp only [Bool.not_eq_true', Bool.not_eq_false'] at h) | skip))
     | (refine WK.regH Try.ntmps92 (by kernel_rfl) ?_; intro A hA Q hQ; simp [aRes, aBad, act0, Action.enc, Oxm.enc, oxm0, wideZ, uI_zero, bne, aFault, *])
     | (refine RunQ.gd rfl (by rw [hA.h]; rfl) ?_; simp [aRes, aBad, act0, Action.enc, Oxm.enc, oxm0, wideZ, uI_zero, bne, aFault, *])
     | ((first | ((first | refine RunQ.call rfl rfl rfl rfl rfl ?_ (hd) ?_ ?_ | refine RunQW.call rfl rfl rfl rfl ?_ (hd) ?_ ?_); (focus (simp (maxDischargeDepth := 120) [aRes, aBad, act0, Action.enc, Oxm.enc, oxm0, wideZ, uI_zero, bne, aFault, *]; done))) | ((first | refine RunQ.call rfl rfl rfl rfl rfl ?_ (he) ?_ ?_ | refine RunQW.call rfl rfl rfl rfl ?_ (he) ?_ ?_); (focus (simp (maxDischargeDepth := 120) [aRes, aBad, act0, Action.enc, Oxm.enc, oxm0, wideZ, uI_zero, bne, aFault, *]; done))) | ((first | refine RunQ.call rfl rfl rfl rfl rfl ?_ (b5) ?_ ?_ | refine RunQW.call rfl rfl rfl rfl ?_ (b5) ?_ ?_); (focus (simp (maxDischargeDepth := 120) [aRes, aBad, act0, Action.enc, Oxm.enc, oxm0, wideZ, uI_zero, bne, aFault, *]; done)))); (focus (simp [aRes, aBad, act0, Action.enc, Oxm.enc, oxm0, wideZ, uI_zero, bne, aFault, *]; done)); refine RunQ.evalH ?_; simp [aRes, aBad, act0, Action.enc, Oxm.enc, oxm0, wideZ, uI_zero, bne, aFault, *])
     | (refine WK.ret Try.func92 ?_ ?_ <;> simp (maxDischargeDepth := 120) [Try.results92, aRes, aBad, act0, Action.enc, Oxm.enc, oxm0, wideZ, uI_zero, bne, aFault, *])
     | fail)
  rw [k1, if_pos rfl] at hn
  cases k2 : aSets o.field
  · rw [k2, if_neg Bool.false_ne_true] at hn
    repeat' (first
     | refine WK.seq ?_
     | refine WK.block ?_
     | refine WK.inBlock ?_
     | refine WK.skip ?_
     | refine WK.label ?_
     | refine WK.scope ?_
     | refine WK.inScope ?_
     | refine WK.exit rfl ?_
     | refine WK.condT rfl ?_
     | refine WK.condF rfl ?_
     | (refine Hid.h hQ _ _ ?_; clear hQ hA)
     | refine WK.condAny rfl ?_ ?_
     | ((first | refine WK.cond2 rfl (fun h => ?_) (fun h => ?_) | refine Fork.mk (fun h => ?_) (fun h => ?_)) <;> (first | (simp [*] at h; done) | (have h2 := h; simp at h2; exfalso; omega) | (have h2 := h; simp at h2; try simp only [Bool.not_eq_true', Bool.not_eq_false'] at h) | skip))
     | (refine WK.regH Try.ntmps92 (by kernel_rfl) ?_; intro A hA Q hQ; simp [aRes, aBad, act0, Action.enc, Oxm.enc, oxm0, wideZ, uI_zero, bne, aFault, *])
     | (refine RunQ.gd rfl (by rw [hA.h]; rfl) ?_; simp [aRes, aBad, act0, Action.enc, Oxm.enc, oxm0, wideZ, uI_zero, bne, aFault, *])
     | ((first | ((first | refine RunQ.call rfl rfl rfl rfl rfl ?_ (hd) ?_ ?_ | refine RunQW.call rfl rfl rfl rfl ?_ (hd) ?_ ?_); (focus (simp (maxDischargeDepth := 120) [aRes, aBad, act0, Action.enc, Oxm.enc, oxm0, wideZ, uI_zero, bne, aFault, *]; done))) | ((first | refine RunQ.call rfl rfl rfl rfl rfl ?_ (he) ?_ ?_ | refine RunQW.call rfl rfl rfl rfl ?_ (he) ?_ ?_); (focus (simp (maxDischargeDepth := 120) [aRes, aBad, act0, Action.enc, Oxm.enc, oxm0, wideZ, uI_zero, bne, aFault, *]; done))) | ((first | refine RunQ.call rfl rfl rfl rfl rfl ?_ (asets_c o.field) ?_ ?_ | refine RunQW.call rfl rfl rfl rfl ?_ (asets_c o.field) ?_ ?_); (focus (simp (maxDischargeDepth := 120) [aRes, aBad, act0, Action.enc, Oxm.enc, oxm0, wideZ, uI_zero, bne, aFault, *]; done))) | ((first | refine RunQ.call rfl rfl rfl rfl rfl ?_ (b13) ?_ ?_ | refine RunQW.call rfl rfl rfl rfl ?_ (b13) ?_ ?_); (focus (simp (maxDischargeDepth := 120) [aRes, aBad, act0, Action.enc, Oxm.enc, oxm0, wideZ, uI_zero, bne, aFault, *]; done)))); (focus (simp [aRes, aBad, act0, Action.enc, Oxm.enc, oxm0, wideZ, uI_zero, bne, aFault, *]; done)); refine RunQ.evalH ?_; simp [aRes, aBad, act0, Action.enc, Oxm.enc, oxm0, wideZ, uI_zero, bne, aFault, *])
     | (refine WK.ret Try.func92 ?_ ?_ <;> simp (maxDischargeDepth := 120) [Try.results92, aRes, aBad, act0, Action.enc, Oxm.enc, oxm0, wideZ, uI_zero, bne, aFault, *])
     | fail)
  rw [k2, if_pos rfl] at hn
  cases k3 : o.masked
  · rw [k3, if_neg Bool.false_ne_true] at hn
    repeat' (first
     | refine WK.seq ?_
     | refine WK.block ?_
     | refine WK.inBlock ?_
     | refine WK.skip ?_
     | refine WK.label ?_
     | refine WK.scope ?_
     | refine WK.inScope ?_
     | refine WK.exit rfl ?_
     | refine WK.condT rfl ?_
     | refine WK.condF rfl ?_
     | (refine Hid.h hQ _ _ ?_; clear hQ hA)
     | refine WK.condAny rfl ?_ ?_
     | ((first | refine WK.cond2 rfl (fun h => ?_) (fun h => ?_) | refine Fork.mk (fun h => ?_) (fun h => ?_)) <;> (first | (simp [*] at h; done) | (have h2 := h; simp at h2; exfalso; omega) | (have h2 := h; simp at h2; try simp only [Bool.not_eq_true', Bool.not_eq_false'] at h) | skip))
     | (refine WK.regH Try.ntmps92 (by kernel_rfl) ?_; intro A hA Q hQ; simp [aRes, aBad, act0, Action.enc, Oxm.enc, oxm0, wideZ, uI_zero, bne, aFault, *])
     | (refine RunQ.gd rfl (by rw [hA.h]; rfl) ?_; simp [aRes, aBad, act0, Action.enc, Oxm.enc, oxm0, wideZ, uI_zero, bne, aFault, *])
     | ((first | ((first | refine RunQ.call rfl rfl rfl rfl rfl ?_ (hd) ?_ ?_ | refine RunQW.call rfl rfl rfl rfl ?_ (hd) ?_ ?_); (focus (simp (maxDischargeDepth := 120) [aRes, aBad, act0, Action.enc, Oxm.enc, oxm0, wideZ, uI_zero, bne, aFault, *]; done))) | ((first | refine RunQ.call rfl rfl rfl rfl rfl ?_ (he) ?_ ?_ | refine RunQW.call rfl rfl rfl rfl ?_ (he) ?_ ?_); (focus (simp (maxDischargeDepth := 120) [aRes, aBad, act0, Action.enc, Oxm.enc, oxm0, wideZ, uI_zero, bne, aFault, *]; done))) | ((first | refine RunQ.call rfl rfl rfl rfl rfl ?_ (asets_c o.field) ?_ ?_ | refine RunQW.call rfl rfl rfl rfl ?_ (asets_c o.field) ?_ ?_); (focus (simp (maxDischargeDepth := 120) [aRes, aBad, act0, Action.enc, Oxm.enc, oxm0, wideZ, uI_zero, bne, aFault, *]; done)))); (focus (simp [aRes, aBad, act0, Action.enc, Oxm.enc, oxm0, wideZ, uI_zero, bne, aFault, *]; done)); refine RunQ.evalH ?_; simp [aRes, aBad, act0, Action.enc, Oxm.enc, oxm0, wideZ, uI_zero, bne, aFault, *])
     | (refine WK.ret Try.func92 ?_ ?_ <;> simp (maxDischargeDepth := 120) [Try.results92, aRes, aBad, act0, Action.enc, Oxm.enc, oxm0, wideZ, uI_zero, bne, aFault, *])
     | fail)
  · rw [k3, if_pos rfl] at hn
    repeat' (first
     | refine WK.seq ?_
     | refine WK.block ?_
     | refine WK.inBlock ?_
     | refine WK.skip ?_
     | refine WK.label ?_
     | refine WK.scope ?_
     | refine WK.inScope ?_
     | refine WK.exit rfl ?_
     | refine WK.condT rfl ?_
     | refine WK.condF rfl ?_
     | (refine Hid.h hQ _ _ ?_; clear hQ hA)
     | refine WK.condAny rfl ?_ ?_
     | ((first | refine WK.cond2 rfl (fun h => ?_) (fun h => ?_) | refine Fork.mk (fun h => ?_) (fun h => ?_)) <;> (first | (simp [*] at h; done) | (have h2 := h; simp at h2; exfalso; omega) | (have h2 := h; simp at h2; try simp only [Bool.not_eq_true', Bool.not_eq_false'] at h) | skip))
     | (refine WK.regH Try.ntmps92 (by kernel_rfl) ?_; intro A hA Q hQ; simp [aRes, aBad, act0, Action.enc, Oxm.enc, oxm0, wideZ, uI_zero, bne, aFault, *])
     | (refine RunQ.gd rfl (by rw [hA.h]; rfl) ?_; simp [aRes, aBad, act0, Action.enc, Oxm.enc, oxm0, wideZ, uI_zero, bne, aFault, *])
     | ((first | ((first | refine RunQ.call rfl rfl rfl rfl rfl ?_ (hd) ?_ ?_ | refine RunQW.call rfl rfl rfl rfl ?_ (hd) ?_ ?_); (focus (simp (maxDischargeDepth := 120) [aRes, aBad, act0, Action.enc, Oxm.enc, oxm0, wideZ, uI_zero, bne, aFault, *]; done))) | ((first | refine RunQ.call rfl rfl rfl rfl rfl ?_ (he) ?_ ?_ | refine RunQW.call rfl rfl rfl rfl ?_ (he) ?_ ?_); (focus (simp (maxDischargeDepth := 120) [aRes, aBad, act0, Action.enc, Oxm.enc, oxm0, wideZ, uI_zero, bne, aFault, *]; done))) | ((first | refine RunQ.call rfl rfl rfl rfl rfl ?_ (asets_c o.field) ?_ ?_ | refine RunQW.call rfl rfl rfl rfl ?_ (asets_c o.field) ?_ ?_); (focus (simp (maxDischargeDepth := 120) [aRes, aBad, act0, Action.enc, Oxm.enc, oxm0, wideZ, uI_zero, bne, aFault, *]; done))) | ((first | refine RunQ.call rfl rfl rfl rfl rfl ?_ (b15) ?_ ?_ | refine RunQW.call rfl rfl rfl rfl ?_ (b15) ?_ ?_); (focus (simp (maxDischargeDepth := 120) [aRes, aBad, act0, Action.enc, Oxm.enc, oxm0, wideZ, uI_zero, bne, aFault, *]; done)))); (focus (simp [aRes, aBad, act0, Action.enc, Oxm.enc, oxm0, wideZ, uI_zero, bne, aFault, *]; done)); refine RunQ.evalH ?_; simp [aRes, aBad, act0, Action.enc, Oxm.enc, oxm0, wideZ, uI_zero, bne, aFault, *])
     | (refine WK.ret Try.func92 ?_ ?_ <;> simp (maxDischargeDepth := 120) [Try.results92, aRes, aBad, act0, Action.enc, Oxm.enc, oxm0, wideZ, uI_zero, bne, aFault, *])
     | fail)
end Go.Proofs.Yteonfhnljphbpaa
end

section
set_option linter.unusedVariables false
set_option linter.unusedSimpArgs false
namespace Go.Proofs.Yteonfhnljphbpaa
open Go Go.AI Go.Proofs
attribute [local irreducible] FnP FnO FnB FnT FnSeq WK RunQ RunQW RunX RunXW

/-- how many bytes an action says it has -/
def aN (b : List (BitVec 8)) : Nat := valN ((b.drop 2).take 2)
def aK (b : List (BitVec 8)) : Nat := valN ((b.drop 0).take 2)
theorem aN_lt (b : List (BitVec 8)) (h : 8 ≤ b.length) : aN b < 65536 := by
  have := valN_lt 2 ((b.drop 2).take 2) (by simp; omega)
  exact this
theorem aN_get (b : List (BitVec 8)) (h : 8 ≤ b.length) : getN b 2 2 = ((aN b : Int), 0) := by unfold getN aN; rw [if_pos (by omega)]
theorem aK_get (b : List (BitVec 8)) (h : 8 ≤ b.length) : getN b 0 2 = ((aK b : Int), 0) := by unfold getN aK; rw [if_pos (by omega)]
def aDec (b : List (BitVec 8)) : Action × Int × Option Int :=
  if b.length < 8 then aBad 1 else if aN b < 8 ∨ ¬ aN b % 8 = 0 ∨ b.length < aN b then aBad 1 else
  if aK b = 25 then aSetD (b.take (aN b)) else if (aLength (aK b)).1 = 0 then aBad 0 else if ¬ aN b = (aLength (aK b)).1 then aBad 1 else
  if allZ ((b.take (aN b)).drop (aLength (aK b)).2) = true then aPlain (aK b) (b.take (aN b)) else aBad 5
set_option maxHeartbeats 4000000 in
theorem adec_c (b : List (BitVec 8)) (hb : b.length ≤ 9223372036854775807) : FnP Try.prog 49 [byS b] (aRes (aDec b)) := by
  have b1 := abad_c 1
  have b0 := abad_c 0
  have b5 := abad_c 5
  by_cases h8 : b.length < 8
  · have e : aDec b = aBad 1 := by unfold aDec; rw [if_pos h8]
    have j8 : (b.length : Int) < 8 := by omega
    unfold byS
    refine FnP.intro Try.func49 rfl rfl fun G w => ?_
    repeat' (first
     | refine WK.seq ?_
     | refine WK.block ?_
     | refine WK.inBlock ?_
     | refine WK.skip ?_
     | refine WK.label ?_
     | refine WK.scope ?_
     | refine WK.inScope ?_
     | refine WK.exit rfl ?_
     | refine WK.condT rfl ?_
     | refine WK.condF rfl ?_
     | (refine Hid.h hQ _ _ ?_; clear hQ hA)
     | refine WK.condAny rfl ?_ ?_
     | ((first | refine WK.cond2 rfl (fun h => ?_) (fun h => ?_) | refine Fork.mk (fun h => ?_) (fun h => ?_)) <;> (first | (simp [*] at h; done) | (have h2 := h; simp at h2; exfalso; omega) | (have h2 := h; simp at h2; try simp only [Bool.not_eq_true', Bool.not_eq_false'] at h) | skip))
     | (refine WK.regH Try.ntmps49 (by kernel_rfl) ?_; intro A hA Q hQ; simp [aRes, aBad, act0, Action.enc, oxm0, wideZ, uI_zero, aFault, *])
     | (refine RunQ.gd rfl (by rw [hA.h]; rfl) ?_; simp [aRes, aBad, act0, Action.enc, oxm0, wideZ, uI_zero, aFault, *])
     | (((first | refine RunQ.call rfl rfl rfl rfl rfl ?_ (b1) ?_ ?_ | refine RunQW.call rfl rfl rfl rfl ?_ (b1) ?_ ?_); (focus (simp (maxDischargeDepth := 120) [aRes, aBad, act0, Action.enc, oxm0, wideZ, uI_zero, aFault, *]; done))); (focus (simp [aRes, aBad, act0, Action.enc, oxm0, wideZ, uI_zero, aFault, *]; done)); refine RunQ.evalH ?_; simp [aRes, aBad, act0, Action.enc, oxm0, wideZ, uI_zero, aFault, *])
     | (refine WK.ret Try.func49 ?_ ?_ <;> simp (maxDischargeDepth := 120) [Try.results49, aRes, aBad, act0, Action.enc, oxm0, wideZ, uI_zero, aFault, *])
     | fail)
  have h8' : 8 ≤ b.length := by omega
  have j8 : ¬ (b.length : Int) < 8 := by omega
  have g1 := nget_c b 0 2 Sz2 hb (by omega)
  have g2 := nget_c b 2 2 Sz2 hb (by omega)
  rw [aK_get b h8'] at g1
  rw [aN_get b h8'] at g2
  have hlt := aN_lt b h8'
  have hdef : aDec b = if aN b < 8 ∨ ¬ aN b % 8 = 0 ∨ b.length < aN b then aBad 1 else
    if aK b = 25 then aSetD (b.take (aN b)) else if (aLength (aK b)).1 = 0 then aBad 0 else if ¬ aN b = (aLength (aK b)).1 then aBad 1 else
    if allZ ((b.take (aN b)).drop (aLength (aK b)).2) = true then aPlain (aK b) (b.take (aN b)) else aBad 5 := by
    rw [aDec, if_neg h8]
  obtain ⟨n, hn⟩ : ∃ n, aN b = n := ⟨_, rfl⟩
  obtain ⟨k, hk⟩ : ∃ k, aK b = k := ⟨_, rfl⟩
  simp only [hn] at g2 hlt hdef
  simp only [hk] at g1 hdef
  clear hn hk
  have m7 := bAnd7 n hlt
  have z7 : (((n % 8 : Nat) : Int) == 0) = (n % 8 == 0) := by rw [Bool.eq_iff_iff, beq_iff_eq, beq_iff_eq]; omega
  obtain ⟨r, hr⟩ : ∃ r, n % 8 = r := ⟨_, rfl⟩
  rw [hr] at m7 z7 hdef
  by_cases c1 : n < 8
  · have e : aDec b = aBad 1 := by rw [hdef, if_pos (.inl c1)]
    have d1 : (n : Int) < 8 := by omega
    unfold byS at *
    clear hdef hr
    refine FnP.intro Try.func49 rfl rfl fun G w => ?_
    repeat' (first
     | refine WK.seq ?_
     | refine WK.block ?_
     | refine WK.inBlock ?_
     | refine WK.skip ?_
     | refine WK.label ?_
     | refine WK.scope ?_
     | refine WK.inScope ?_
     | refine WK.exit rfl ?_
     | refine WK.condT rfl ?_
     | refine WK.condF rfl ?_
     | (refine Hid.h hQ _ _ ?_; clear hQ hA)
     | refine WK.condAny rfl ?_ ?_
     | ((first | refine WK.cond2 rfl (fun h => ?_) (fun h => ?_) | refine Fork.mk (fun h => ?_) (fun h => ?_)) <;> (first | (simp [*] at h; done) | (have h2 := h; simp at h2; exfalso; omega) | (have h2 := h; simp at h2; try simp only [Bool.not_eq_true', Bool.not_eq_false'] at h) | skip))
     | (refine WK.regH Try.ntmps49 (by kernel_rfl) ?_; intro A hA Q hQ; simp [aRes, aBad, act0, Action.enc, oxm0, wideZ, uI_zero, aFault, *])
     | (refine RunQ.gd rfl (by rw [hA.h]; rfl) ?_; simp [aRes, aBad, act0, Action.enc, oxm0, wideZ, uI_zero, aFault, *])
     | ((first | ((first | refine RunQ.call rfl rfl rfl rfl rfl ?_ (g1) ?_ ?_ | refine RunQW.call rfl rfl rfl rfl ?_ (g1) ?_ ?_); (focus (simp (maxDischargeDepth := 120) [aRes, aBad, act0, Action.enc, oxm0, wideZ, uI_zero, aFault, *]; done))) | ((first | refine RunQ.call rfl rfl rfl rfl rfl ?_ (g2) ?_ ?_ | refine RunQW.call rfl rfl rfl rfl ?_ (g2) ?_ ?_); (focus (simp (maxDischargeDepth := 120) [aRes, aBad, act0, Action.enc, oxm0, wideZ, uI_zero, aFault, *]; done))) | ((first | refine RunQ.call rfl rfl rfl rfl rfl ?_ (b1) ?_ ?_ | refine RunQW.call rfl rfl rfl rfl ?_ (b1) ?_ ?_); (focus (simp (maxDischargeDepth := 120) [aRes, aBad, act0, Action.enc, oxm0, wideZ, uI_zero, aFault, *]; done)))); (focus (simp [aRes, aBad, act0, Action.enc, oxm0, wideZ, uI_zero, aFault, *]; done)); refine RunQ.evalH ?_; simp [aRes, aBad, act0, Action.enc, oxm0, wideZ, uI_zero, aFault, *])
     | (refine WK.ret Try.func49 ?_ ?_ <;> simp (maxDischargeDepth := 120) [Try.results49, aRes, aBad, act0, Action.enc, oxm0, wideZ, uI_zero, aFault, *])
     | fail)
  have d1 : ¬ (n : Int) < 8 := by omega
  by_cases c2 : r = 0
  case neg =>
    have e : aDec b = aBad 1 := by rw [hdef, if_pos (.inr (.inl c2))]
    have d2 : (r == 0) = false := by simpa using c2
    rw [d2] at z7
    unfold byS at *
    clear hdef hr
    refine FnP.intro Try.func49 rfl rfl fun G w => ?_
    repeat' (first
     | refine WK.seq ?_
     | refine WK.block ?_
     | refine WK.inBlock ?_
     | refine WK.skip ?_
     | refine WK.label ?_
     | refine WK.scope ?_
     | refine WK.inScope ?_
     | refine WK.exit rfl ?_
     | refine WK.condT rfl ?_
     | refine WK.condF rfl ?_
     | (refine Hid.h hQ _ _ ?_; clear hQ hA)
     | refine WK.condAny rfl ?_ ?_
     | ((first | refine WK.cond2 rfl (fun h => ?_) (fun h => ?_) | refine Fork.mk (fun h => ?_) (fun h => ?_)) <;> (first | (simp [*] at h; done) | (have h2 := h; simp at h2; exfalso; omega) | (have h2 := h; simp at h2; try simp only [Bool.not_eq_true', Bool.not_eq_false'] at h) | skip))
     | (refine WK.regH Try.ntmps49 (by kernel_rfl) ?_; intro A hA Q hQ; simp [aRes, aBad, act0, Action.enc, oxm0, wideZ, uI_zero, aFault, bne, *])
     | (refine RunQ.gd rfl (by rw [hA.h]; rfl) ?_; simp [aRes, aBad, act0, Action.enc, oxm0, wideZ, uI_zero, aFault, bne, *])
     | ((first | ((first | refine RunQ.call rfl rfl rfl rfl rfl ?_ (g1) ?_ ?_ | refine RunQW.call rfl rfl rfl rfl ?_ (g1) ?_ ?_); (focus (simp (maxDischargeDepth := 120) [aRes, aBad, act0, Action.enc, oxm0, wideZ, uI_zero, aFault, bne, *]; done))) | ((first | refine RunQ.call rfl rfl rfl rfl rfl ?_ (g2) ?_ ?_ | refine RunQW.call rfl rfl rfl rfl ?_ (g2) ?_ ?_); (focus (simp (maxDischargeDepth := 120) [aRes, aBad, act0, Action.enc, oxm0, wideZ, uI_zero, aFault, bne, *]; done))) | ((first | refine RunQ.call rfl rfl rfl rfl rfl ?_ (b1) ?_ ?_ | refine RunQW.call rfl rfl rfl rfl ?_ (b1) ?_ ?_); (focus (simp (maxDischargeDepth := 120) [aRes, aBad, act0, Action.enc, oxm0, wideZ, uI_zero, aFault, bne, *]; done)))); (focus (simp [aRes, aBad, act0, Action.enc, oxm0, wideZ, uI_zero, aFault, bne, *]; done)); refine RunQ.evalH ?_; simp [aRes, aBad, act0, Action.enc, oxm0, wideZ, uI_zero, aFault, bne, *])
     | (refine WK.ret Try.func49 ?_ ?_ <;> simp (maxDischargeDepth := 120) [Try.results49, aRes, aBad, act0, Action.enc, oxm0, wideZ, uI_zero, aFault, bne, *])
     | fail)
  have d2 : (r == 0) = true := by simpa using c2
  rw [d2] at z7
  by_cases c3 : b.length < n
  · have e : aDec b = aBad 1 := by rw [hdef, if_pos (.inr (.inr c3))]
    have d3 : (b.length : Int) < n := by omega
    unfold byS at *
    clear hdef hr c2
    refine FnP.intro Try.func49 rfl rfl fun G w => ?_
    repeat' (first
     | refine WK.seq ?_
     | refine WK.block ?_
     | refine WK.inBlock ?_
     | refine WK.skip ?_
     | refine WK.label ?_
     | refine WK.scope ?_
     | refine WK.inScope ?_
     | refine WK.exit rfl ?_
     | refine WK.condT rfl ?_
     | refine WK.condF rfl ?_
     | (refine Hid.h hQ _ _ ?_; clear hQ hA)
     | refine WK.condAny rfl ?_ ?_
     | ((first | refine WK.cond2 rfl (fun h => ?_) (fun h => ?_) | refine Fork.mk (fun h => ?_) (fun h => ?_)) <;> (first | (simp [*] at h; done) | (have h2 := h; simp at h2; exfalso; omega) | (have h2 := h; simp at h2; try simp only [Bool.not_eq_true', Bool.not_eq_false'] at h) | skip))
     | (refine WK.regH Try.ntmps49 (by kernel_rfl) ?_; intro A hA Q hQ; simp [aRes, aBad, act0, Action.enc, oxm0, wideZ, uI_zero, aFault, bne, *])
     | (refine RunQ.gd rfl (by rw [hA.h]; rfl) ?_; simp [aRes, aBad, act0, Action.enc, oxm0, wideZ, uI_zero, aFault, bne, *])
     | ((first | ((first | refine RunQ.call rfl rfl rfl rfl rfl ?_ (g1) ?_ ?_ | refine RunQW.call rfl rfl rfl rfl ?_ (g1) ?_ ?_); (focus (simp (maxDischargeDepth := 120) [aRes, aBad, act0, Action.enc, oxm0, wideZ, uI_zero, aFault, bne, *]; done))) | ((first | refine RunQ.call rfl rfl rfl rfl rfl ?_ (g2) ?_ ?_ | refine RunQW.call rfl rfl rfl rfl ?_ (g2) ?_ ?_); (focus (simp (maxDischargeDepth := 120) [aRes, aBad, act0, Action.enc, oxm0, wideZ, uI_zero, aFault, bne, *]; done))) | ((first | refine RunQ.call rfl rfl rfl rfl rfl ?_ (b1) ?_ ?_ | refine RunQW.call rfl rfl rfl rfl ?_ (b1) ?_ ?_); (focus (simp (maxDischargeDepth := 120) [aRes, aBad, act0, Action.enc, oxm0, wideZ, uI_zero, aFault, bne, *]; done)))); (focus (simp [aRes, aBad, act0, Action.enc, oxm0, wideZ, uI_zero, aFault, bne, *]; done)); refine RunQ.evalH ?_; simp [aRes, aBad, act0, Action.enc, oxm0, wideZ, uI_zero, aFault, bne, *])
     | (refine WK.ret Try.func49 ?_ ?_ <;> simp (maxDischargeDepth := 120) [Try.results49, aRes, aBad, act0, Action.enc, oxm0, wideZ, uI_zero, aFault, bne, *])
     | fail)
  rw [if_neg (by omega)] at hdef
  have d3 : ¬ (b.length : Int) < n := by omega
  have j1 : (n : Int) ≤ b.length := by omega
  have hBl : (b.take n).length = n := by rw [List.length_take]; omega
  obtain ⟨B, hB⟩ : ∃ B, b.take n = B := ⟨_, rfl⟩
  have t1 : (byL b).take n = byL B := by rw [byL_take, hB]
  rw [hB] at hdef hBl
  have hs := aset_c B (by omega) (by omega)
  have hp := aplain_c k B (by omega)
  unfold byS at *
  rw [hBl] at hs hp
  clear hB hr c2
  by_cases k5 : k = 25
  · subst k5
    rw [if_pos rfl] at hdef
    clear hp
    obtain ⟨R, hR⟩ : ∃ R, aSetD B = R := ⟨_, rfl⟩
    rw [hR] at hs hdef
    obtain ⟨ra, rn, rf⟩ := R
    clear hR
    refine FnP.intro Try.func49 rfl rfl fun G w => ?_
    cases rf <;>
    · repeat' (first
       | refine WK.seq ?_
       | refine WK.block ?_
       | refine WK.inBlock ?_
       | refine WK.skip ?_
       | refine WK.label ?_
       | refine WK.scope ?_
       | refine WK.inScope ?_
       | refine WK.exit rfl ?_
       | refine WK.condT rfl ?_
       | refine WK.condF rfl ?_
       | (refine Hid.h hQ _ _ ?_; clear hQ hA)
       | refine WK.condAny rfl ?_ ?_
       | ((first | refine WK.cond2 rfl (fun h => ?_) (fun h => ?_) | refine Fork.mk (fun h => ?_) (fun h => ?_)) <;> (first | (simp [*] at h; done) | (have h2 := h; simp at h2; exfalso; omega) | (have h2 := h; simp at h2; try simp only [Bool.not_eq_true', Bool.not_eq_false'] at h) | skip))
       | (refine WK.regH Try.ntmps49 (by kernel_rfl) ?_; intro A hA Q hQ; simp [aRes, Action.enc, Oxm.enc, oxm0, wideZ, uI_zero, aFault, bne, *])
       | (refine RunQ.gd rfl (by rw [hA.h]; rfl) ?_; simp [aRes, Action.enc, Oxm.enc, oxm0, wideZ, uI_zero, aFault, bne, *])
       | ((first | ((first | refine RunQ.call rfl rfl rfl rfl rfl ?_ (g1) ?_ ?_ | refine RunQW.call rfl rfl rfl rfl ?_ (g1) ?_ ?_); (focus (simp (maxDischargeDepth := 120) [aRes, Action.enc, Oxm.enc, oxm0, wideZ, uI_zero, aFault, bne, *]; done))) | ((first | refine RunQ.call rfl rfl rfl rfl rfl ?_ (g2) ?_ ?_ | refine RunQW.call rfl rfl rfl rfl ?_ (g2) ?_ ?_); (focus (simp (maxDischargeDepth := 120) [aRes, Action.enc, Oxm.enc, oxm0, wideZ, uI_zero, aFault, bne, *]; done))) | ((first | refine RunQ.call rfl rfl rfl rfl rfl ?_ (hs) ?_ ?_ | refine RunQW.call rfl rfl rfl rfl ?_ (hs) ?_ ?_); (focus (simp (maxDischargeDepth := 120) [aRes, Action.enc, Oxm.enc, oxm0, wideZ, uI_zero, aFault, bne, *]; done)))); (focus (simp [aRes, Action.enc, Oxm.enc, oxm0, wideZ, uI_zero, aFault, bne, *]; done)); refine RunQ.evalH ?_; simp [aRes, Action.enc, Oxm.enc, oxm0, wideZ, uI_zero, aFault, bne, *])
       | (refine WK.ret Try.func49 ?_ ?_ <;> simp (maxDischargeDepth := 120) [Try.results49, aRes, Action.enc, Oxm.enc, oxm0, wideZ, uI_zero, aFault, bne, *])
       | fail)
  have d5 : ((k : Int) == 25) = false := by rw [beq_eq_false_iff_ne]; omega
  have d5' : ¬ (k : Int) = 25 := by omega
  rw [if_neg k5] at hdef
  clear hs k5
  have hL := alength_c (k : Int)
  obtain ⟨L, hLe⟩ : ∃ L, aLength (k : Int) = L := ⟨_, rfl⟩
  rw [hLe] at hL hdef
  have hLb : L.2 ≤ L.1 ∧ (L.1 = 0 → L.2 = 0) := by rw [← hLe]; unfold aLength; (repeat' split) <;> simp
  obtain ⟨want, used⟩ := L
  simp only at hL hdef hLb
  clear hLe
  have z9 : ((n : Int) == (want : Int)) = (n == want) := by rw [Bool.eq_iff_iff, beq_iff_eq, beq_iff_eq]; omega
  have z8 : ((want : Int) == 0) = (want == 0) := by rw [Bool.eq_iff_iff, beq_iff_eq, beq_iff_eq]; omega
  by_cases k0 : want = 0
  · have e : aDec b = aBad 0 := by rw [hdef, if_pos k0]
    have d0 : (want == 0) = true := by simpa using k0
    rw [d0] at z8
    clear hdef hp z9 k0
    refine FnP.intro Try.func49 rfl rfl fun G w => ?_
    repeat' (first
     | refine WK.seq ?_
     | refine WK.block ?_
     | refine WK.inBlock ?_
     | refine WK.skip ?_
     | refine WK.label ?_
     | refine WK.scope ?_
     | refine WK.inScope ?_
     | refine WK.exit rfl ?_
     | refine WK.condT rfl ?_
     | refine WK.condF rfl ?_
     | (refine Hid.h hQ _ _ ?_; clear hQ hA)
     | refine WK.condAny rfl ?_ ?_
     | ((first | refine WK.cond2 rfl (fun h => ?_) (fun h => ?_) | refine Fork.mk (fun h => ?_) (fun h => ?_)) <;> (first | (simp [*] at h; done) | (have h2 := h; simp at h2; exfalso; omega) | (have h2 := h; simp at h2; try simp only [Bool.not_eq_true', Bool.not_eq_false'] at h) | skip))
     | (refine WK.regH Try.ntmps49 (by kernel_rfl) ?_; intro A hA Q hQ; simp [aRes, aBad, act0, Action.enc, oxm0, wideZ, uI_zero, aFault, bne, *])
     | (refine RunQ.gd rfl (by rw [hA.h]; rfl) ?_; simp [aRes, aBad, act0, Action.enc, oxm0, wideZ, uI_zero, aFault, bne, *])
     | ((first | ((first | refine RunQ.call rfl rfl rfl rfl rfl ?_ (g1) ?_ ?_ | refine RunQW.call rfl rfl rfl rfl ?_ (g1) ?_ ?_); (focus (simp (maxDischargeDepth := 120) [aRes, aBad, act0, Action.enc, oxm0, wideZ, uI_zero, aFault, bne, *]; done))) | ((first | refine RunQ.call rfl rfl rfl rfl rfl ?_ (g2) ?_ ?_ | refine RunQW.call rfl rfl rfl rfl ?_ (g2) ?_ ?_); (focus (simp (maxDischargeDepth := 120) [aRes, aBad, act0, Action.enc, oxm0, wideZ, uI_zero, aFault, bne, *]; done))) | ((first | refine RunQ.call rfl rfl rfl rfl rfl ?_ (hL) ?_ ?_ | refine RunQW.call rfl rfl rfl rfl ?_ (hL) ?_ ?_); (focus (simp (maxDischargeDepth := 120) [aRes, aBad, act0, Action.enc, oxm0, wideZ, uI_zero, aFault, bne, *]; done))) | ((first | refine RunQ.call rfl rfl rfl rfl rfl ?_ (b0) ?_ ?_ | refine RunQW.call rfl rfl rfl rfl ?_ (b0) ?_ ?_); (focus (simp (maxDischargeDepth := 120) [aRes, aBad, act0, Action.enc, oxm0, wideZ, uI_zero, aFault, bne, *]; done)))); (focus (simp [aRes, aBad, act0, Action.enc, oxm0, wideZ, uI_zero, aFault, bne, *]; done)); refine RunQ.evalH ?_; simp [aRes, aBad, act0, Action.enc, oxm0, wideZ, uI_zero, aFault, bne, *])
     | (refine WK.ret Try.func49 ?_ ?_ <;> simp (maxDischargeDepth := 120) [Try.results49, aRes, aBad, act0, Action.enc, oxm0, wideZ, uI_zero, aFault, bne, *])
     | fail)
  rw [if_neg k0] at hdef
  have d0 : (want == 0) = false := by simpa using k0
  rw [d0] at z8
  by_cases k1 : n = want
  case neg =>
    have e : aDec b = aBad 1 := by rw [hdef, if_pos k1]
    have d9 : (n == want) = false := by simpa using k1
    rw [d9] at z9
    clear hdef hp k1
    refine FnP.intro Try.func49 rfl rfl fun G w => ?_
    repeat' (first
     | refine WK.seq ?_
     | refine WK.block ?_
     | refine WK.inBlock ?_
     | refine WK.skip ?_
     | refine WK.label ?_
     | refine WK.scope ?_
     | refine WK.inScope ?_
     | refine WK.exit rfl ?_
     | refine WK.condT rfl ?_
     | refine WK.condF rfl ?_
     | (refine Hid.h hQ _ _ ?_; clear hQ hA)
     | refine WK.condAny rfl ?_ ?_
     | ((first | refine WK.cond2 rfl (fun h => ?_) (fun h => ?_) | refine Fork.mk (fun h => ?_) (fun h => ?_)) <;> (first | (simp [*] at h; done) | (have h2 := h; simp at h2; exfalso; omega) | (have h2 := h; simp at h2; try simp only [Bool.not_eq_true', Bool.not_eq_false'] at h) | skip))
     | (refine WK.regH Try.ntmps49 (by kernel_rfl) ?_; intro A hA Q hQ; simp [aRes, aBad, act0, Action.enc, oxm0, wideZ, uI_zero, aFault, bne, *])
     | (refine RunQ.gd rfl (by rw [hA.h]; rfl) ?_; simp [aRes, aBad, act0, Action.enc, oxm0, wideZ, uI_zero, aFault, bne, *])
     | ((first | ((first | refine RunQ.call rfl rfl rfl rfl rfl ?_ (g1) ?_ ?_ | refine RunQW.call rfl rfl rfl rfl ?_ (g1) ?_ ?_); (focus (simp (maxDischargeDepth := 120) [aRes, aBad, act0, Action.enc, oxm0, wideZ, uI_zero, aFault, bne, *]; done))) | ((first | refine RunQ.call rfl rfl rfl rfl rfl ?_ (g2) ?_ ?_ | refine RunQW.call rfl rfl rfl rfl ?_ (g2) ?_ ?_); (focus (simp (maxDischargeDepth := 120) [aRes, aBad, act0, Action.enc, oxm0, wideZ, uI_zero, aFault, bne, *]; done))) | ((first | refine RunQ.call rfl rfl rfl rfl rfl ?_ (hL) ?_ ?_ | refine RunQW.call rfl rfl rfl rfl ?_ (hL) ?_ ?_); (focus (simp (maxDischargeDepth := 120) [aRes, aBad, act0, Action.enc, oxm0, wideZ, uI_zero, aFault, bne, *]; done))) | ((first | refine RunQ.call rfl rfl rfl rfl rfl ?_ (b1) ?_ ?_ | refine RunQW.call rfl rfl rfl rfl ?_ (b1) ?_ ?_); (focus (simp (maxDischargeDepth := 120) [aRes, aBad, act0, Action.enc, oxm0, wideZ, uI_zero, aFault, bne, *]; done)))); (focus (simp [aRes, aBad, act0, Action.enc, oxm0, wideZ, uI_zero, aFault, bne, *]; done)); refine RunQ.evalH ?_; simp [aRes, aBad, act0, Action.enc, oxm0, wideZ, uI_zero, aFault, bne, *])
     | (refine WK.ret Try.func49 ?_ ?_ <;> simp (maxDischargeDepth := 120) [Try.results49, aRes, aBad, act0, Action.enc, oxm0, wideZ, uI_zero, aFault, bne, *])
     | fail)
  rw [if_neg (by simpa using k1)] at hdef
  have d9 : (n == want) = true := by simpa using k1
  rw [d9] at z9
  have u1 : used ≤ n := by omega
  have u2 : (used : Int) ≤ n := by omega
  have hE := aempty_c (B.drop used) (by rw [List.length_drop]; omega)
  have hdr : ((byL B).drop used).take (n - used) = byL (B.drop used) := by rw [byL_drop]; exact by_full _ _ (by rw [List.length_drop, hBl])
  unfold byS at hE
  rw [List.length_drop, hBl] at hE
  obtain ⟨E5, hE5⟩ : ∃ E5, B.drop used = E5 := ⟨_, rfl⟩
  rw [hE5] at hE hdr hdef
  clear hE5 k1 k0 hLb
  refine FnP.intro Try.func49 rfl rfl fun G w => ?_
  cases kz : allZ E5
  · rw [kz, if_neg Bool.false_ne_true] at hdef
    clear hp
    repeat' (first
     | refine WK.seq ?_
     | refine WK.block ?_
     | refine WK.inBlock ?_
     | refine WK.skip ?_
     | refine WK.label ?_
     | refine WK.scope ?_
     | refine WK.inScope ?_
     | refine WK.exit rfl ?_
     | refine WK.condT rfl ?_
     | refine WK.condF rfl ?_
     | (refine Hid.h hQ _ _ ?_; clear hQ hA)
     | refine WK.condAny rfl ?_ ?_
     | ((first | refine WK.cond2 rfl (fun h => ?_) (fun h => ?_) | refine Fork.mk (fun h => ?_) (fun h => ?_)) <;> (first | (simp [*] at h; done) | (have h2 := h; simp at h2; exfalso; omega) | (have h2 := h; simp at h2; try simp only [Bool.not_eq_true', Bool.not_eq_false'] at h) | skip))
     | (refine WK.regH Try.ntmps49 (by kernel_rfl) ?_; intro A hA Q hQ; simp [aRes, aBad, act0, Action.enc, oxm0, wideZ, uI_zero, aFault, bne, *])
     | (refine RunQ.gd rfl (by rw [hA.h]; rfl) ?_; simp [aRes, aBad, act0, Action.enc, oxm0, wideZ, uI_zero, aFault, bne, *])
     | ((first | ((first | refine RunQ.call rfl rfl rfl rfl rfl ?_ (g1) ?_ ?_ | refine RunQW.call rfl rfl rfl rfl ?_ (g1) ?_ ?_); (focus (simp (maxDischargeDepth := 120) [aRes, aBad, act0, Action.enc, oxm0, wideZ, uI_zero, aFault, bne, *]; done))) | ((first | refine RunQ.call rfl rfl rfl rfl rfl ?_ (g2) ?_ ?_ | refine RunQW.call rfl rfl rfl rfl ?_ (g2) ?_ ?_); (focus (simp (maxDischargeDepth := 120) [aRes, aBad, act0, Action.enc, oxm0, wideZ, uI_zero, aFault, bne, *]; done))) | ((first | refine RunQ.call rfl rfl rfl rfl rfl ?_ (hL) ?_ ?_ | refine RunQW.call rfl rfl rfl rfl ?_ (hL) ?_ ?_); (focus (simp (maxDischargeDepth := 120) [aRes, aBad, act0, Action.enc, oxm0, wideZ, uI_zero, aFault, bne, *]; done))) | ((first | refine RunQ.call rfl rfl rfl rfl rfl ?_ (hE) ?_ ?_ | refine RunQW.call rfl rfl rfl rfl ?_ (hE) ?_ ?_); (focus (simp (maxDischargeDepth := 120) [aRes, aBad, act0, Action.enc, oxm0, wideZ, uI_zero, aFault, bne, *]; done))) | ((first | refine RunQ.call rfl rfl rfl rfl rfl ?_ (b5) ?_ ?_ | refine RunQW.call rfl rfl rfl rfl ?_ (b5) ?_ ?_); (focus (simp (maxDischargeDepth := 120) [aRes, aBad, act0, Action.enc, oxm0, wideZ, uI_zero, aFault, bne, *]; done)))); (focus (simp [aRes, aBad, act0, Action.enc, oxm0, wideZ, uI_zero, aFault, bne, *]; done)); refine RunQ.evalH ?_; simp [aRes, aBad, act0, Action.enc, oxm0, wideZ, uI_zero, aFault, bne, *])
     | (refine WK.ret Try.func49 ?_ ?_ <;> simp (maxDischargeDepth := 120) [Try.results49, aRes, aBad, act0, Action.enc, oxm0, wideZ, uI_zero, aFault, bne, *])
     | fail)
  · rw [kz, if_pos rfl] at hdef
    obtain ⟨R, hR⟩ : ∃ R, aPlain k B = R := ⟨_, rfl⟩
    rw [hR] at hp hdef
    obtain ⟨ra, rn, rf⟩ := R
    clear hR
    cases rf <;>
    · repeat' (first
       | refine WK.seq ?_
       | refine WK.block ?_
       | refine WK.inBlock ?_
       | refine WK.skip ?_
       | refine WK.label ?_
       | refine WK.scope ?_
       | refine WK.inScope ?_
       | refine WK.exit rfl ?_
       | refine WK.condT rfl ?_
       | refine WK.condF rfl ?_
       | (refine Hid.h hQ _ _ ?_; clear hQ hA)
       | refine WK.condAny rfl ?_ ?_
       | ((first | refine WK.cond2 rfl (fun h => ?_) (fun h => ?_) | refine Fork.mk (fun h => ?_) (fun h => ?_)) <;> (first | (simp [*] at h; done) | (have h2 := h; simp at h2; exfalso; omega) | (have h2 := h; simp at h2; try simp only [Bool.not_eq_true', Bool.not_eq_false'] at h) | skip))
       | (refine WK.regH Try.ntmps49 (by kernel_rfl) ?_; intro A hA Q hQ; simp [aRes, Action.enc, Oxm.enc, oxm0, wideZ, uI_zero, aFault, bne, *])
       | (refine RunQ.gd rfl (by rw [hA.h]; rfl) ?_; simp [aRes, Action.enc, Oxm.enc, oxm0, wideZ, uI_zero, aFault, bne, *])
       | ((first | ((first | refine RunQ.call rfl rfl rfl rfl rfl ?_ (g1) ?_ ?_ | refine RunQW.call rfl rfl rfl rfl ?_ (g1) ?_ ?_); (focus (simp (maxDischargeDepth := 120) [aRes, Action.enc, Oxm.enc, oxm0, wideZ, uI_zero, aFault, bne, *]; done))) | ((first | refine RunQ.call rfl rfl rfl rfl rfl ?_ (g2) ?_ ?_ | refine RunQW.call rfl rfl rfl rfl ?_ (g2) ?_ ?_); (focus (simp (maxDischargeDepth := 120) [aRes, Action.enc, Oxm.enc, oxm0, wideZ, uI_zero, aFault, bne, *]; done))) | ((first | refine RunQ.call rfl rfl rfl rfl rfl ?_ (hL) ?_ ?_ | refine RunQW.call rfl rfl rfl rfl ?_ (hL) ?_ ?_); (focus (simp (maxDischargeDepth := 120) [aRes, Action.enc, Oxm.enc, oxm0, wideZ, uI_zero, aFault, bne, *]; done))) | ((first | refine RunQ.call rfl rfl rfl rfl rfl ?_ (hE) ?_ ?_ | refine RunQW.call rfl rfl rfl rfl ?_ (hE) ?_ ?_); (focus (simp (maxDischargeDepth := 120) [aRes, Action.enc, Oxm.enc, oxm0, wideZ, uI_zero, aFault, bne, *]; done))) | ((first | refine RunQ.call rfl rfl rfl rfl rfl ?_ (hp) ?_ ?_ | refine RunQW.call rfl rfl rfl rfl ?_ (hp) ?_ ?_); (focus (simp (maxDischargeDepth := 120) [aRes, Action.enc, Oxm.enc, oxm0, wideZ, uI_zero, aFault, bne, *]; done)))); (focus (simp [aRes, Action.enc, Oxm.enc, oxm0, wideZ, uI_zero, aFault, bne, *]; done)); refine RunQ.evalH ?_; simp [aRes, Action.enc, Oxm.enc, oxm0, wideZ, uI_zero, aFault, bne, *])
       | (refine WK.ret Try.func49 ?_ ?_ <;> simp (maxDischargeDepth := 120) [Try.results49, aRes, Action.enc, Oxm.enc, oxm0, wideZ, uI_zero, aFault, bne, *])
       | fail)
end Go.Proofs.Yteonfhnljphbpaa
end
