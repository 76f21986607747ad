/- Actions: their bytes, by both sides. -/
import Derived.Test.YtbncoeoamjcjjaaWk6
set_option linter.all false
set_option linter.unnecessarySimpa false
section
set_option linter.unusedVariables false
set_option linter.unusedSimpArgs false
namespace Go.Proofs.Ytbncoeoamjcjjaa
open Go Go.AI Go.Proofs
attribute [local irreducible] FnP FnO FnB FnT FnSeq WK RunQ RunQW RunX RunXW

def aLen (n : Nat) : Nat := if 8 < (4 + n + 7) / 8 * 8 then (4 + n + 7) / 8 * 8 else 8
def aPad (a : Action) : List (BitVec 8) := aBody a ++ List.replicate (aLen (aBody a).length - 4 - (aBody a).length) 0#8
def aEnc (a : Action) : List (BitVec 8) × Int := if Action.right a = true then (putN (putN [] a.kind 2) (aLen (aBody a).length : Nat) 2 ++ aPad a, 0) else ([], 1)
theorem aLen_ge (n : Nat) : 4 + n ≤ aLen n ∧ 8 ≤ aLen n := by unfold aLen; split <;> omega
theorem aLen_le (n : Nat) (h : n ≤ 36) : aLen n ≤ 48 := by unfold aLen; split <;> omega
theorem aPad_len (a : Action) : 4 + (aPad a).length = aLen (aBody a).length := by
  have := aLen_ge (aBody a).length
  simp only [aPad, List.length_append, List.length_replicate]; omega
theorem byL_rep (n : Nat) : List.replicate n (AV.int .u8 0) = byL (List.replicate n 0#8) := by simp [byL, bI]
theorem bNot7_all : ∀ n : Fin 64, bNot .i64 (n.val : Int) 7 = ((n.val / 8 * 8 : Nat) : Int) := by decide +kernel
theorem bNot7 (n : Nat) (h : n < 64) : bNot .i64 (n : Int) 7 = ((n / 8 * 8 : Nat) : Int) := bNot7_all ⟨n, h⟩
set_option maxHeartbeats 4000000 in
theorem aenc_c (a : Action) : FnT Try.prog 22 [.agg a.enc] (aEnc a).1.length 1 (byL (aEnc a).1) [.int .i64 (aEnc a).2] := by
  have hr := aright_c a
  cases k : Action.right a
  · have e : aEnc a = ([], 1) := by unfold aEnc; rw [k, if_neg Bool.false_ne_true]
    rw [k] at hr
    rw [e]
    refine FnT.intro Try.func22 rfl rfl fun G w => ?_
    repeat' (first
     | refine WK.seq ?_
     | refine WK.block ?_
     | refine WK.inBlock ?_
     | refine WK.skip ?_
     | refine WK.label ?_
     | refine WK.scope ?_
     | refine WK.inScope ?_
     | refine WK.exit rfl ?_
     | refine WK.condT rfl ?_
     | refine WK.condF rfl ?_
     | (refine Hid.h hQ _ _ ?_; clear hQ hA)
     | refine WK.condAny rfl ?_ ?_
     | ((first | refine WK.cond2 rfl (fun h => ?_) (fun h => ?_)) <;> (first | (simp [*] at h; done) | (have h2 := h; simp at h2; exfalso; omega) | (have h2 := h; simp at h2; try simp only [Bool.not_eq_true', Bool.not_eq_false'] at h) | skip))
     | (refine WK.regH Try.ntmps22 (by kernel_rfl) ?_; intro A hA Q hQ; simp [*])
     | ((refine RunQ.call rfl rfl rfl rfl rfl ?_ (hr) ?_ ?_; (focus (simp [*]; done))); (focus (simp [*]; done)); refine RunQ.evalH ?_; simp [*])
     | fail)
    repeat (first | refine WK.seq ?_ | refine WK.block ?_ | refine WK.inBlock ?_ | refine WK.skip ?_ | refine WK.label ?_ | refine WK.scope ?_ | refine WK.inScope ?_ | refine WK.exit rfl ?_)
    refine WK.ghost (Ghost.own 2 900 1 rfl rfl) ?_
    repeat (first | refine WK.seq ?_ | refine WK.block ?_ | refine WK.inBlock ?_ | refine WK.skip ?_ | refine WK.label ?_ | refine WK.scope ?_ | refine WK.inScope ?_ | refine WK.exit rfl ?_)
    refine WK.retT2 Try.func22 ?_ ?_ ?_ <;> simp (maxDischargeDepth := 120) [Try.results22, byL_nil]
  have e : aEnc a = (putN (putN [] a.kind 2) (aLen (aBody a).length : Nat) 2 ++ aPad a, 0) := by unfold aEnc; rw [k, if_pos rfl]
  rw [k] at hr
  have hb := abody_c a
  have hl := aBody_len a
  have hpl := aPad_len a
  have hep : aPad a = aBody a ++ List.replicate (aLen (aBody a).length - 4 - (aBody a).length) 0#8 := rfl
  have hle := aLen_le _ hl
  have hge := aLen_ge (aBody a).length
  have hdef : aLen (aBody a).length = if 8 < (4 + (aBody a).length + 7) / 8 * 8 then (4 + (aBody a).length + 7) / 8 * 8 else 8 := rfl
  have p1 := nputP_c [] a.kind 2 (by unfold Sz; omega) (by simp)
  have l1 := putN_len [] a.kind 2
  simp only [List.length_nil, Nat.zero_add] at l1
  have p2 := nput_c (putN [] a.kind 2) (aLen (aBody a).length : Nat) 2 (by unfold Sz; omega) (by omega)
  have l2 := putN_len (putN [] a.kind 2) (aLen (aBody a).length : Nat) 2
  rw [show byS [] = .sl false 0 [] from rfl] at p1
  obtain ⟨B, hB⟩ : ∃ B, aBody a = B := ⟨_, rfl⟩
  rw [hB] at hb hl hpl hep hle hge hdef p2 l2 e
  obtain ⟨n, hn⟩ : ∃ n, aLen B.length = n := ⟨_, rfl⟩
  rw [hn] at hpl hep hle hge hdef p2 l2 e
  have q1 : IntKind.i64.wrap (4 + (B.length : Int)) = ((4 + B.length : Nat) : Int) := by rw [wrap_i64 (by omega) (by omega)]; omega
  have q2 : IntKind.i64.wrap (((4 + B.length : Nat) : Int) + 7) = ((4 + B.length + 7 : Nat) : Int) := by rw [wrap_i64 (by omega) (by omega)]; omega
  have q3 := bNot7 (4 + B.length + 7) (by omega)
  obtain ⟨x1, hx1⟩ : ∃ x1, 4 + B.length = x1 := ⟨_, rfl⟩
  rw [hx1] at q1 q2 q3 hdef hge
  obtain ⟨x2, hx2⟩ : ∃ x2, x1 + 7 = x2 := ⟨_, rfl⟩
  rw [hx2] at q2 q3 hdef
  obtain ⟨x3, hx3⟩ : ∃ x3, x2 / 8 * 8 = x3 := ⟨_, rfl⟩
  rw [hx3] at q3 hdef
  have q4 : (if (8 : Int) < (x3 : Int) then (x3 : Int) else 8) = (n : Int) := by rw [hdef]; split <;> split <;> omega
  have q4' : (if (x3 : Int) < 8 then (8 : Int) else (x3 : Int)) = (n : Int) := by rw [hdef]; split <;> split <;> omega
  have q5 : IntKind.i64.wrap ((n : Int) - 4) = ((n - 4 : Nat) : Int) := by rw [wrap_i64 (by omega) (by omega)]; omega
  obtain ⟨n4, hn4⟩ : ∃ n4, n - 4 = n4 := ⟨_, rfl⟩
  rw [hn4] at q5 hep
  have q6 : IntKind.i64.wrap ((n4 : Int) - (B.length : Int)) = ((n4 - B.length : Nat) : Int) := by rw [wrap_i64 (by omega) (by omega)]; omega
  obtain ⟨m, hm⟩ : ∃ m, n4 - B.length = m := ⟨_, rfl⟩
  rw [hm] at q6 hep
  have hbd1 : (B.length + m) * 1 ≤ 140737488355328 := by omega
  have hbd2 : ((putN (putN [] a.kind 2) (n : Int) 2).length + (B.length + m)) ≤ 140737488355328 := by omega
  have hz := byL_rep m
  have hf : byL B ++ byL (List.replicate m 0#8) = byL (aPad a) := by rw [← byL_app, hep]
  have hk0 : a.enc[0]? = some (.int .i64 a.kind) := rfl
  have hpl2 : (aPad a).length = B.length + m := by rw [hep]; simp
  rw [e]
  clear hep hB hn hx1 hx2 hx3 hn4 hm hdef hpl hl hle hge l1 l2
  refine FnT.intro Try.func22 rfl rfl fun G w => ?_
  repeat' (first
   | refine WK.seq ?_
   | refine WK.block ?_
   | refine WK.inBlock ?_
   | refine WK.skip ?_
   | refine WK.label ?_
   | refine WK.scope ?_
   | refine WK.inScope ?_
   | refine WK.exit rfl ?_
   | refine WK.condT rfl ?_
   | refine WK.condF rfl ?_
   | (refine Hid.h hQ _ _ ?_; clear hQ hA)
   | refine WK.condAny rfl ?_ ?_
   | ((first | refine WK.cond2 rfl (fun h => ?_) (fun h => ?_)) <;> (first | (simp [*] at h; done) | (have h2 := h; simp at h2; exfalso; omega) | (have h2 := h; simp at h2; try simp only [Bool.not_eq_true', Bool.not_eq_false'] at h) | skip))
   | (refine WK.regH Try.ntmps22 (by kernel_rfl) ?_; intro A hA Q hQ; simp [q1, q2, q3, q4, q4', q5, q6, *])
   | (refine RunQ.callO 900 rfl rfl rfl rfl rfl ?_ (hb) ?_ ?_ ?_ ?_; (focus (simp [q1, q2, q3, q4, q4', q5, q6, *]; done)); (focus (simp [q1, q2, q3, q4, q4', q5, q6, *]; done)); (focus (simp [q1, q2, q3, q4, q4', q5, q6, *]; done)); (focus (simp [q1, q2, q3, q4, q4', q5, q6, *]; done)); refine RunQ.evalH ?_; simp [q1, q2, q3, q4, q4', q5, q6, *])
   | (refine RunQ.callO 901 rfl rfl rfl rfl rfl ?_ (p2) ?_ ?_ ?_ ?_; (focus (simp [q1, q2, q3, q4, q4', q5, q6, *]; done)); (focus (simp [q1, q2, q3, q4, q4', q5, q6, *]; done)); (focus (simp [q1, q2, q3, q4, q4', q5, q6, *]; done)); (focus (simp [q1, q2, q3, q4, q4', q5, q6, *]; done)); refine RunQ.evalH ?_; simp [q1, q2, q3, q4, q4', q5, q6, *])
   | (refine RunQ.appendZ (m := m) (kk := .i64) (zv := .int .u8 0) 902 appByte rfl rfl rfl rfl (by simp) (by simp) rfl ?_ rfl rfl rfl ?_ ?_ ?_ ?_; (focus (simp [q1, q2, q3, q4, q4', q5, q6, *]; done)); (focus (first | omega | (simp [q1, q2, q3, q4, q4', q5, q6, *]; done); done)); (focus (first | omega | (simp [q1, q2, q3, q4, q4', q5, q6, *]; done); done)); (focus (simp [q1, q2, q3, q4, q4', q5, q6, *]; done)); refine RunQ.evalH ?_; simp [q1, q2, q3, q4, q4', q5, q6, *])
   | (refine RunQ.appendFz 903 appByte rfl rfl rfl rfl rfl rfl rfl rfl rfl rfl ?_ ?_ ?_ ?_ ?_ ?_; (focus (first | omega | (simp [q1, q2, q3, q4, q4', q5, q6, *]; done); done)); (focus (first | omega | (simp [q1, q2, q3, q4, q4', q5, q6, *]; done); done)); (focus (first | omega | (simp [q1, q2, q3, q4, q4', q5, q6, *]; done); done)); (focus (simp [q1, q2, q3, q4, q4', q5, q6, *]; done)); (focus (simp [q1, q2, q3, q4, q4', q5, q6, *]; done)); refine RunQ.evalH ?_; simp [q1, q2, q3, q4, q4', q5, q6, *])
   | ((first | (refine RunQ.call rfl rfl rfl rfl rfl ?_ (hr) ?_ ?_; (focus (simp [q1, q2, q3, q4, q4', q5, q6, *]; done))) | (refine RunQ.call rfl rfl rfl rfl rfl ?_ (p1) ?_ ?_; (focus (simp [q1, q2, q3, q4, q4', q5, q6, *]; done)))); (focus (simp [q1, q2, q3, q4, q4', q5, q6, *]; done)); refine RunQ.evalH ?_; simp [q1, q2, q3, q4, q4', q5, q6, *])
   | (refine WK.retT2 Try.func22 ?_ ?_ ?_ <;> simp (maxDischargeDepth := 120) [Try.results22, q1, q2, q3, q4, q4', q5, q6, byL_app, *])
   | fail)
end Go.Proofs.Ytbncoeoamjcjjaa
end

section
set_option linter.unusedVariables false
set_option linter.unusedSimpArgs false
namespace Go.Proofs.Ytbncoeoamjcjjaa
open Go Go.AI Go.Proofs
attribute [local irreducible] FnP FnO FnB FnT FnSeq WK RunQ RunQW RunX RunXW

theorem Sz4 : Sz 4 := .inr (.inr rfl)
theorem Sz2 : Sz 2 := .inr (.inl rfl)
end Go.Proofs.Ytbncoeoamjcjjaa
end

section
set_option linter.unusedVariables false
set_option linter.unusedSimpArgs false
namespace Go.Proofs.Ytbncoeoamjcjjaa
open Go Go.AI Go.Proofs
attribute [local irreducible] FnP FnO FnB FnT FnSeq WK RunQ RunQW RunX RunXW

theorem indexf_by (fid : Nat) (caps : List AV) (p : BitVec 8 → Bool) (l : List (BitVec 8)) (hcl : ClL caps = true) (hl : l.length ≤ 9223372036854775807)
    (hf : ∀ x, x ∈ l → FnP Try.prog fid (.int .u8 (bI x) :: caps) (.bool (p x))) :
    FnP Try.prog 160 [byS l, .fn fid caps] (.int .i64 (idxI p l)) := by
  unfold byS
  refine FnP.intro Try.func160 rfl rfl fun G w => ?_
  repeat' (first
   | refine WK.seq ?_
   | refine WK.block ?_
   | refine WK.inBlock ?_
   | refine WK.skip ?_
   | refine WK.label ?_
   | refine WK.scope ?_
   | refine WK.inScope ?_
   | refine WK.exit rfl ?_
   | refine WK.condT rfl ?_
   | refine WK.condF rfl ?_
   | (refine Hid.h hQ _ _ ?_; clear hQ hA)
   | refine WK.condAny rfl ?_ ?_
   | ((first | refine WK.cond2 rfl (fun h => ?_) (fun h => ?_)) <;> (first | (simp [*] at h; done) | (have h2 := h; simp at h2; exfalso; omega) | (have h2 := h; simp at h2; try simp only [Bool.not_eq_true', Bool.not_eq_false'] at h) | skip))
   | (refine WK.regH Try.ntmps160 (by kernel_rfl) ?_; intro A hA Q hQ; simp [*])
   | fail)
  repeat (first | refine WK.seq ?_ | refine WK.block ?_ | refine WK.inBlock ?_ | refine WK.skip ?_ | refine WK.label ?_ | refine WK.scope ?_ | refine WK.inScope ?_ | refine WK.exit rfl ?_)
  refine WK.loopI (fun n => n) (fun i : Nat => (⟨(upd (upd (upd (upd J 0 (.sl false l.length (byL l))) 1 (.fn fid caps)) 7 (.int .i64 l.length)) 8 (.int .i64 i)), B0, 0⟩ : St)) (fun i => i ≤ l.length ∧ ∀ j, j < i → p (nth l j) = false) (fun i => l.length - i) (0) (by repeat (first | exact TmW.nil | refine TmW.upd ?_ (by simp (maxDischargeDepth := 120) [hcl]))) (by repeat (first | exact BxW.nil | refine BxW.upd ?_ (by simp (maxDischargeDepth := 120) [hcl]))) (by first | exact InjW.id | exact InjW.nil | exact InjW.one | exact InjW.two (by simp) | exact InjW.three (by simp) (by simp) (by simp)) (⟨by omega, by simp⟩) (fun i hi IH => ?_)
  by_cases h1 : i < l.length
  · have h4 := by_get l i h1
    have h6 : IntKind.i64.wrap ((i : Int) + 1) = i + 1 := wrap_i64 (by omega) (by omega)
    have hc := hf (nth l i) (nth_mem h1)
    cases h5 : p (nth l i)
    · repeat' (first
       | refine WK.seq ?_
       | refine WK.block ?_
       | refine WK.inBlock ?_
       | refine WK.skip ?_
       | refine WK.label ?_
       | refine WK.scope ?_
       | refine WK.inScope ?_
       | refine WK.exit rfl ?_
       | refine WK.condT rfl ?_
       | refine WK.condF rfl ?_
       | (refine Hid.h hQ _ _ ?_; clear hQ hA)
       | refine WK.condAny rfl ?_ ?_
       | ((first | refine WK.cond2 rfl (fun h => ?_) (fun h => ?_)) <;> (first | (simp [*] at h; done) | (have h2 := h; simp at h2; exfalso; omega) | (have h2 := h; simp at h2; try simp only [Bool.not_eq_true', Bool.not_eq_false'] at h) | skip))
       | (refine WK.regH Try.ntmps160 (by kernel_rfl) ?_; intro A hA Q hQ; simp [*])
       | ((refine RunQ.call rfl rfl rfl rfl rfl ?_ (hc) ?_ ?_; (focus (simp [*]; done))); (focus (simp [*]; done)); refine RunQ.evalH ?_; simp [*])
       | fail)
      repeat (first | refine WK.seq ?_ | refine WK.block ?_ | refine WK.inBlock ?_ | refine WK.skip ?_ | refine WK.label ?_ | refine WK.scope ?_ | refine WK.inScope ?_ | refine WK.exit rfl ?_)
      refine WK.next (fun n => n) (IH (i + 1) (⟨by omega, fun j hj => by by_cases h7 : j = i; (subst h7; exact h5); exact hi.2 j (by omega)⟩) (by first | omega | (dsimp only; omega))) (by repeat (first | exact TmW.nil | refine TmW.upd ?_ (by simp (maxDischargeDepth := 120) [hcl]))) (by repeat (first | exact BxW.nil | refine BxW.upd ?_ (by simp (maxDischargeDepth := 120) [hcl]))) (by first | exact InjW.id | exact InjW.nil | exact InjW.one | exact InjW.two (by simp) | exact InjW.three (by simp) (by simp) (by simp))
    · have e := idxI_some h1 h5 hi.2
      repeat' (first
       | refine WK.seq ?_
       | refine WK.block ?_
       | refine WK.inBlock ?_
       | refine WK.skip ?_
       | refine WK.label ?_
       | refine WK.scope ?_
       | refine WK.inScope ?_
       | refine WK.exit rfl ?_
       | refine WK.condT rfl ?_
       | refine WK.condF rfl ?_
       | (refine Hid.h hQ _ _ ?_; clear hQ hA)
       | refine WK.condAny rfl ?_ ?_
       | ((first | refine WK.cond2 rfl (fun h => ?_) (fun h => ?_)) <;> (first | (simp [*] at h; done) | (have h2 := h; simp at h2; exfalso; omega) | (have h2 := h; simp at h2; try simp only [Bool.not_eq_true', Bool.not_eq_false'] at h) | skip))
       | (refine WK.regH Try.ntmps160 (by kernel_rfl) ?_; intro A hA Q hQ; simp [*])
       | ((refine RunQ.call rfl rfl rfl rfl rfl ?_ (hc) ?_ ?_; (focus (simp [*]; done))); (focus (simp [*]; done)); refine RunQ.evalH ?_; simp [*])
       | (refine WK.ret Try.func160 ?_ ?_ <;> simp (maxDischargeDepth := 120) [Try.results160, *])
       | fail)
  · have e := idxI_none (p := p) (l := l) (fun j hj => hi.2 j (by omega))
    repeat' (first
     | refine WK.seq ?_
     | refine WK.block ?_
     | refine WK.inBlock ?_
     | refine WK.skip ?_
     | refine WK.label ?_
     | refine WK.scope ?_
     | refine WK.inScope ?_
     | refine WK.exit rfl ?_
     | refine WK.condT rfl ?_
     | refine WK.condF rfl ?_
     | (refine Hid.h hQ _ _ ?_; clear hQ hA)
     | refine WK.condAny rfl ?_ ?_
     | ((first | refine WK.cond2 rfl (fun h => ?_) (fun h => ?_)) <;> (first | (simp [*] at h; done) | (have h2 := h; simp at h2; exfalso; omega) | (have h2 := h; simp at h2; try simp only [Bool.not_eq_true', Bool.not_eq_false'] at h) | skip))
     | (refine WK.regH Try.ntmps160 (by kernel_rfl) ?_; intro A hA Q hQ; simp [*])
     | (refine WK.ret Try.func160 ?_ ?_ <;> simp (maxDischargeDepth := 120) [Try.results160, *])
     | fail)
theorem containsf_by (fid : Nat) (caps : List AV) (p : BitVec 8 → Bool) (l : List (BitVec 8)) (hcl : ClL caps = true) (hl : l.length ≤ 9223372036854775807)
    (hf : ∀ x, x ∈ l → FnP Try.prog fid (.int .u8 (bI x) :: caps) (.bool (p x))) :
    FnP Try.prog 118 [byS l, .fn fid caps] (.bool (l.any p)) := by
  have e := idxI_ge p l
  simp only [ge_iff_le] at e
  have hi := indexf_by fid caps p l hcl hl hf
  refine FnP.intro Try.func118 rfl rfl fun G w => ?_
  repeat' (first
   | refine WK.seq ?_
   | refine WK.block ?_
   | refine WK.inBlock ?_
   | refine WK.skip ?_
   | refine WK.label ?_
   | refine WK.scope ?_
   | refine WK.inScope ?_
   | refine WK.exit rfl ?_
   | refine WK.condT rfl ?_
   | refine WK.condF rfl ?_
   | (refine Hid.h hQ _ _ ?_; clear hQ hA)
   | refine WK.condAny rfl ?_ ?_
   | ((first | refine WK.cond2 rfl (fun h => ?_) (fun h => ?_)) <;> (first | (simp [*] at h; done) | (have h2 := h; simp at h2; exfalso; omega) | (have h2 := h; simp at h2; try simp only [Bool.not_eq_true', Bool.not_eq_false'] at h) | skip))
   | (refine WK.regH Try.ntmps118 (by kernel_rfl) ?_; intro A hA Q hQ; simp [*])
   | ((refine RunQ.call rfl rfl rfl rfl rfl ?_ (hi) ?_ ?_; (focus (simp [*]; done))); (focus (simp [*]; done)); refine RunQ.evalH ?_; simp [*])
   | (refine WK.ret Try.func118 ?_ ?_ <;> simp (maxDischargeDepth := 120) [Try.results118, *])
   | fail)
def allZ (b : List (BitVec 8)) : Bool := b.all fun x => x == 0#8
theorem bI_zero (x : BitVec 8) : (bI x == 0) = (x == 0#8) := by
  rw [Bool.eq_iff_iff, beq_iff_eq, beq_iff_eq]
  unfold bI
  constructor
  · intro h; exact BitVec.eq_of_toNat_eq (by simp; omega)
  · intro h; subst h; rfl
theorem empty1_c (x : BitVec 8) : FnP Try.prog 119 [.int .u8 (bI x)] (.bool (!(x == 0#8))) := by
  have e := bI_zero x
  refine FnP.intro Try.func119 rfl rfl fun G w => ?_
  repeat' (first
   | refine WK.seq ?_
   | refine WK.block ?_
   | refine WK.inBlock ?_
   | refine WK.skip ?_
   | refine WK.label ?_
   | refine WK.scope ?_
   | refine WK.inScope ?_
   | refine WK.exit rfl ?_
   | refine WK.condT rfl ?_
   | refine WK.condF rfl ?_
   | (refine Hid.h hQ _ _ ?_; clear hQ hA)
   | refine WK.condAny rfl ?_ ?_
   | ((first | refine WK.cond2 rfl (fun h => ?_) (fun h => ?_)) <;> (first | (simp [*] at h; done) | (have h2 := h; simp at h2; exfalso; omega) | (have h2 := h; simp at h2; try simp only [Bool.not_eq_true', Bool.not_eq_false'] at h) | skip))
   | (refine WK.regH Try.ntmps119 (by kernel_rfl) ?_; intro A hA Q hQ; simp [bne, *])
   | (refine WK.ret Try.func119 ?_ ?_ <;> simp (maxDischargeDepth := 120) [Try.results119, bne, *])
   | fail)
theorem aempty_c (b : List (BitVec 8)) (hb : b.length ≤ 9223372036854775807) : FnP Try.prog 58 [byS b] (.bool (allZ b)) := by
  have h := containsf_by 119 [] (fun x => !(x == 0#8)) b rfl hb (fun x _ => empty1_c x)
  have e : allZ b = !(b.any fun x => !(x == 0#8)) := by unfold allZ; rw [List.any_eq_not_all_not]; simp
  rw [e]
  refine FnP.intro Try.func58 rfl rfl fun G w => ?_
  repeat' (first
   | refine WK.seq ?_
   | refine WK.block ?_
   | refine WK.inBlock ?_
   | refine WK.skip ?_
   | refine WK.label ?_
   | refine WK.scope ?_
   | refine WK.inScope ?_
   | refine WK.exit rfl ?_
   | refine WK.condT rfl ?_
   | refine WK.condF rfl ?_
   | (refine Hid.h hQ _ _ ?_; clear hQ hA)
   | refine WK.condAny rfl ?_ ?_
   | ((first | refine WK.cond2 rfl (fun h => ?_) (fun h => ?_)) <;> (first | (simp [*] at h; done) | (have h2 := h; simp at h2; exfalso; omega) | (have h2 := h; simp at h2; try simp only [Bool.not_eq_true', Bool.not_eq_false'] at h) | skip))
   | (refine WK.regH Try.ntmps58 (by kernel_rfl) ?_; intro A hA Q hQ; simp [*])
   | ((refine RunQ.call rfl rfl rfl rfl rfl ?_ (h) ?_ ?_; (focus (simp [*]; done))); (focus (simp [*]; done)); refine RunQ.evalH ?_; simp [*])
   | (refine WK.ret Try.func58 ?_ ?_ <;> simp (maxDischargeDepth := 120) [Try.results58, *])
   | fail)
theorem rnoughts_c (b : List (BitVec 8)) (hb : b.length ≤ 9223372036854775807) : FnP Try.prog 64 [byS b] (.bool (allZ b)) := by
  unfold byS
  refine FnP.intro Try.func64 rfl rfl fun G w => ?_
  repeat' (first
   | refine WK.seq ?_
   | refine WK.block ?_
   | refine WK.inBlock ?_
   | refine WK.skip ?_
   | refine WK.label ?_
   | refine WK.scope ?_
   | refine WK.inScope ?_
   | refine WK.exit rfl ?_
   | refine WK.condT rfl ?_
   | refine WK.condF rfl ?_
   | (refine Hid.h hQ _ _ ?_; clear hQ hA)
   | refine WK.condAny rfl ?_ ?_
   | ((first | refine WK.cond2 rfl (fun h => ?_) (fun h => ?_)) <;> (first | (simp [*] at h; done) | (have h2 := h; simp at h2; exfalso; omega) | (have h2 := h; simp at h2; try simp only [Bool.not_eq_true', Bool.not_eq_false'] at h) | skip))
   | (refine WK.regH Try.ntmps64 (by kernel_rfl) ?_; intro A hA Q hQ; simp [*])
   | fail)
  repeat (first | refine WK.seq ?_ | refine WK.block ?_ | refine WK.inBlock ?_ | refine WK.skip ?_ | refine WK.label ?_ | refine WK.scope ?_ | refine WK.inScope ?_ | refine WK.exit rfl ?_)
  refine WK.loopI (fun n => n) (fun i : Nat => (⟨(upd (upd J 0 (.sl false b.length (byL b))) 3 (.int .i64 i)), B0, 0⟩ : St)) (fun i => i ≤ b.length ∧ ∀ j, j < i → nth b j = 0#8) (fun i => b.length - i) (0) (by repeat (first | exact TmW.nil | refine TmW.upd ?_ (by simp (maxDischargeDepth := 120)))) (by repeat (first | exact BxW.nil | refine BxW.upd ?_ (by simp (maxDischargeDepth := 120)))) (by first | exact InjW.id | exact InjW.nil | exact InjW.one | exact InjW.two (by simp) | exact InjW.three (by simp) (by simp) (by simp)) (⟨by omega, by simp⟩) (fun i hi IH => ?_)
  by_cases h1 : i < b.length
  · have h4 := by_get b i h1
    have h6 : IntKind.i64.wrap ((i : Int) + 1) = i + 1 := wrap_i64 (by omega) (by omega)
    have h7 := bI_zero (nth b i)
    cases h5 : nth b i == 0#8
    · have e : allZ b = false := by
        unfold allZ; rw [List.all_eq_false]; exact ⟨nth b i, nth_mem h1, by simp [h5]⟩
      rw [h5] at h7
      repeat' (first
       | refine WK.seq ?_
       | refine WK.block ?_
       | refine WK.inBlock ?_
       | refine WK.skip ?_
       | refine WK.label ?_
       | refine WK.scope ?_
       | refine WK.inScope ?_
       | refine WK.exit rfl ?_
       | refine WK.condT rfl ?_
       | refine WK.condF rfl ?_
       | (refine Hid.h hQ _ _ ?_; clear hQ hA)
       | refine WK.condAny rfl ?_ ?_
       | ((first | refine WK.cond2 rfl (fun h => ?_) (fun h => ?_)) <;> (first | (simp [*] at h; done) | (have h2 := h; simp at h2; exfalso; omega) | (have h2 := h; simp at h2; try simp only [Bool.not_eq_true', Bool.not_eq_false'] at h) | skip))
       | (refine WK.regH Try.ntmps64 (by kernel_rfl) ?_; intro A hA Q hQ; simp [bne, *])
       | (refine WK.ret Try.func64 ?_ ?_ <;> simp (maxDischargeDepth := 120) [Try.results64, bne, *])
       | fail)
    · rw [h5] at h7
      repeat' (first
       | refine WK.seq ?_
       | refine WK.block ?_
       | refine WK.inBlock ?_
       | refine WK.skip ?_
       | refine WK.label ?_
       | refine WK.scope ?_
       | refine WK.inScope ?_
       | refine WK.exit rfl ?_
       | refine WK.condT rfl ?_
       | refine WK.condF rfl ?_
       | (refine Hid.h hQ _ _ ?_; clear hQ hA)
       | refine WK.condAny rfl ?_ ?_
       | ((first | refine WK.cond2 rfl (fun h => ?_) (fun h => ?_)) <;> (first | (simp [*] at h; done) | (have h2 := h; simp at h2; exfalso; omega) | (have h2 := h; simp at h2; try simp only [Bool.not_eq_true', Bool.not_eq_false'] at h) | skip))
       | (refine WK.regH Try.ntmps64 (by kernel_rfl) ?_; intro A hA Q hQ; simp [bne, *])
       | fail)
      repeat (first | refine WK.seq ?_ | refine WK.block ?_ | refine WK.inBlock ?_ | refine WK.skip ?_ | refine WK.label ?_ | refine WK.scope ?_ | refine WK.inScope ?_ | refine WK.exit rfl ?_)
      refine WK.next (fun n => n) (IH (i + 1) (⟨by omega, fun j hj => by by_cases h7 : j = i; (subst h7; simpa using h5); exact hi.2 j (by omega)⟩) (by first | omega | (dsimp only; omega))) (by repeat (first | exact TmW.nil | refine TmW.upd ?_ (by simp (maxDischargeDepth := 120)))) (by repeat (first | exact BxW.nil | refine BxW.upd ?_ (by simp (maxDischargeDepth := 120)))) (by first | exact InjW.id | exact InjW.nil | exact InjW.one | exact InjW.two (by simp) | exact InjW.three (by simp) (by simp) (by simp))
  · have e : allZ b = true := by
      unfold allZ; rw [List.all_eq_true]; intro x hx
      obtain ⟨j, hj, rfl⟩ := mem_nth hx
      rw [hi.2 j (by omega)]; rfl
    repeat' (first
     | refine WK.seq ?_
     | refine WK.block ?_
     | refine WK.inBlock ?_
     | refine WK.skip ?_
     | refine WK.label ?_
     | refine WK.scope ?_
     | refine WK.inScope ?_
     | refine WK.exit rfl ?_
     | refine WK.condT rfl ?_
     | refine WK.condF rfl ?_
     | (refine Hid.h hQ _ _ ?_; clear hQ hA)
     | refine WK.condAny rfl ?_ ?_
     | ((first | refine WK.cond2 rfl (fun h => ?_) (fun h => ?_)) <;> (first | (simp [*] at h; done) | (have h2 := h; simp at h2; exfalso; omega) | (have h2 := h; simp at h2; try simp only [Bool.not_eq_true', Bool.not_eq_false'] at h) | skip))
     | (refine WK.regH Try.ntmps64 (by kernel_rfl) ?_; intro A hA Q hQ; simp [*])
     | (refine WK.ret Try.func64 ?_ ?_ <;> simp (maxDischargeDepth := 120) [Try.results64, *])
     | fail)
end Go.Proofs.Ytbncoeoamjcjjaa
end

section
set_option linter.unusedVariables false
set_option linter.unusedSimpArgs false
namespace Go.Proofs.Ytbncoeoamjcjjaa
open Go Go.AI Go.Proofs
attribute [local irreducible] FnP FnO FnB FnT FnSeq WK RunQ RunQW RunX RunXW

theorem bNot7b_all : ∀ n : Fin 512, bNot .i64 (n.val : Int) 7 = ((n.val / 8 * 8 : Nat) : Int) := by decide +kernel
theorem bNot7b (n : Nat) (h : n < 512) : bNot .i64 (n : Int) 7 = ((n / 8 * 8 : Nat) : Int) := bNot7b_all ⟨n, h⟩
theorem bAnd7 (n : Nat) (h : n < 65536) : bAnd .i64 (n : Int) 7 = ((n % 8 : Nat) : Int) := by
  unfold bAnd
  show IntKind.wrap .i64 (((BitVec.ofInt 64 (n : Int) &&& BitVec.ofInt 64 7).toNat : Nat) : Int) = _
  rw [show BitVec.ofInt 64 (n : Int) = BitVec.ofNat 64 n from by rw [← BitVec.ofInt_natCast], show BitVec.ofInt 64 7 = BitVec.ofNat 64 7 from rfl, BitVec.toNat_and, BitVec.toNat_ofNat, BitVec.toNat_ofNat, Nat.mod_eq_of_lt (by omega), Nat.mod_eq_of_lt (by omega)]
  have e3 : n &&& 7 = n % 8 := Nat.and_two_pow_sub_one_eq_mod n 3
  rw [e3, wrap_i64 (by omega) (by omega)]
def aBad (c : Int) : Action × Int × Option Int := (act0, 0, some c)
def aFault : Option Int → List AV
  | none => [.bool false, .int .i64 0, .int .i64 0]
  | some c => [.bool true, .int .i64 2, .int .i64 c]
def aRes (r : Action × Int × Option Int) : AV := .tup [.agg r.1.enc, .int .i64 r.2.1, .agg (aFault r.2.2)]
@[simp] theorem aFault_cl (c : Option Int) : ClL (aFault c) = true := by cases c <;> rfl
@[simp] theorem aRes_cl (r : Action × Int × Option Int) : Cl (aRes r) = true := by simp [aRes, Cl, ClL]
theorem abad_c (c : Int) : FnP Try.prog 54 [.int .i64 c] (aRes (aBad c)) := by
  refine FnP.intro Try.func54 rfl rfl fun G w => ?_
  repeat' (first
   | refine WK.seq ?_
   | refine WK.block ?_
   | refine WK.inBlock ?_
   | refine WK.skip ?_
   | refine WK.label ?_
   | refine WK.scope ?_
   | refine WK.inScope ?_
   | refine WK.exit rfl ?_
   | refine WK.condT rfl ?_
   | refine WK.condF rfl ?_
   | (refine Hid.h hQ _ _ ?_; clear hQ hA)
   | refine WK.condAny rfl ?_ ?_
   | ((first | refine WK.cond2 rfl (fun h => ?_) (fun h => ?_)) <;> (first | (simp [*] at h; done) | (have h2 := h; simp at h2; exfalso; omega) | (have h2 := h; simp at h2; try simp only [Bool.not_eq_true', Bool.not_eq_false'] at h) | skip))
   | (refine WK.regH Try.ntmps54 (by kernel_rfl) ?_; intro A hA Q hQ; simp [*])
   | (refine WK.ret Try.func54 ?_ ?_ <;> simp (maxDischargeDepth := 120) [Try.results54, aRes, aBad, aFault, act0, Action.enc, oxm0, wideZ, uI_zero, *])
   | fail)
theorem rabad_c (c : Int) : FnP Try.prog 60 [.int .i64 c] (.agg [.bool true, .int .i64 2, .int .i64 c]) := by
  refine FnP.intro Try.func60 rfl rfl fun G w => ?_
  repeat' (first
   | refine WK.seq ?_
   | refine WK.block ?_
   | refine WK.inBlock ?_
   | refine WK.skip ?_
   | refine WK.label ?_
   | refine WK.scope ?_
   | refine WK.inScope ?_
   | refine WK.exit rfl ?_
   | refine WK.condT rfl ?_
   | refine WK.condF rfl ?_
   | (refine Hid.h hQ _ _ ?_; clear hQ hA)
   | refine WK.condAny rfl ?_ ?_
   | ((first | refine WK.cond2 rfl (fun h => ?_) (fun h => ?_)) <;> (first | (simp [*] at h; done) | (have h2 := h; simp at h2; exfalso; omega) | (have h2 := h; simp at h2; try simp only [Bool.not_eq_true', Bool.not_eq_false'] at h) | skip))
   | (refine WK.regH Try.ntmps60 (by kernel_rfl) ?_; intro A hA Q hQ; simp [*])
   | (refine WK.ret Try.func60 ?_ ?_ <;> simp (maxDischargeDepth := 120) [Try.results60, *])
   | fail)
def aLength (k : Int) : Nat × Nat := if k = 0 then (16, 10) else if k = 22 then (8, 8) else if k = 17 then (8, 6) else if k = 18 then (8, 4) else (0, 0)
theorem alength_c (k : Int) : FnP Try.prog 57 [.int .i64 k] (.tup [.int .i64 ((aLength k).1 : Int), .int .i64 ((aLength k).2 : Int)]) := by
  refine FnP.intro Try.func57 rfl rfl fun G w => ?_
  repeat' (first
   | refine WK.seq ?_
   | refine WK.block ?_
   | refine WK.inBlock ?_
   | refine WK.skip ?_
   | refine WK.label ?_
   | refine WK.scope ?_
   | refine WK.inScope ?_
   | refine WK.exit rfl ?_
   | refine WK.condT rfl ?_
   | refine WK.condF rfl ?_
   | (refine Hid.h hQ _ _ ?_; clear hQ hA)
   | refine WK.condAny rfl ?_ ?_
   | ((first | refine WK.cond2 rfl (fun h => ?_) (fun h => ?_)) <;> (first | (simp [*] at h; done) | (have h2 := h; simp at h2; exfalso; omega) | (have h2 := h; simp at h2; try simp only [Bool.not_eq_true', Bool.not_eq_false'] at h) | skip))
   | (refine WK.regH Try.ntmps57 (by kernel_rfl) ?_; intro A hA Q hQ; simp [*])
   | (refine WK.ret Try.func57 ?_ ?_ <;> simp (maxDischargeDepth := 120) [Try.results57, aLength, *])
   | fail)
def aKnown (k : Int) : Bool := k == 0 || (k == 22 || (k == 17 || (k == 18 || k == 25)))
theorem raknown_c (k : Int) : FnP Try.prog 62 [.int .i64 k] (.bool (aKnown k)) := by
  refine FnP.intro Try.func62 rfl rfl fun G w => ?_
  repeat' (first
   | refine WK.seq ?_
   | refine WK.block ?_
   | refine WK.inBlock ?_
   | refine WK.skip ?_
   | refine WK.label ?_
   | refine WK.scope ?_
   | refine WK.inScope ?_
   | refine WK.exit rfl ?_
   | refine WK.condT rfl ?_
   | refine WK.condF rfl ?_
   | (refine Hid.h hQ _ _ ?_; clear hQ hA)
   | refine WK.condAny rfl ?_ ?_
   | ((first | refine WK.cond2 rfl (fun h => ?_) (fun h => ?_) | refine Fork.mk (fun h => ?_) (fun h => ?_)) <;> (first | (simp [*] at h; done) | (have h2 := h; simp at h2; exfalso; omega) | (have h2 := h; simp at h2; try simp only [Bool.not_eq_true', Bool.not_eq_false'] at h) | skip))
   | (refine WK.regH Try.ntmps62 (by kernel_rfl) ?_; intro A hA Q hQ; simp [*])
   | (refine RunQ.gd rfl (by rw [hA.h]; rfl) ?_; simp [*])
   | (refine WK.ret Try.func62 ?_ ?_ <;> simp (maxDischargeDepth := 120) [Try.results62, aKnown, *])
   | fail)
theorem rnumber_c (b : List (BitVec 8)) (p s : Nat) (hs : Sz s) (hb : b.length ≤ 9223372036854775807) (hp : p ≤ 1000000) : FnP Try.prog 61 [byS b, .int .i64 p, .int .i64 s] (.int .i64 (getN b p s).1) := by
  have h := rget_c b p s hs hb hp
  refine FnP.intro Try.func61 rfl rfl fun G w => ?_
  repeat' (first
   | refine WK.seq ?_
   | refine WK.block ?_
   | refine WK.inBlock ?_
   | refine WK.skip ?_
   | refine WK.label ?_
   | refine WK.scope ?_
   | refine WK.inScope ?_
   | refine WK.exit rfl ?_
   | refine WK.condT rfl ?_
   | refine WK.condF rfl ?_
   | (refine Hid.h hQ _ _ ?_; clear hQ hA)
   | refine WK.condAny rfl ?_ ?_
   | ((first | refine WK.cond2 rfl (fun h => ?_) (fun h => ?_)) <;> (first | (simp [*] at h; done) | (have h2 := h; simp at h2; exfalso; omega) | (have h2 := h; simp at h2; try simp only [Bool.not_eq_true', Bool.not_eq_false'] at h) | skip))
   | (refine WK.regH Try.ntmps61 (by kernel_rfl) ?_; intro A hA Q hQ; simp [*])
   | ((refine RunQ.call rfl rfl rfl rfl rfl ?_ (h) ?_ ?_; (focus (simp [*]; done))); (focus (simp [*]; done)); refine RunQ.evalH ?_; simp [*])
   | (refine WK.ret Try.func61 ?_ ?_ <;> simp (maxDischargeDepth := 120) [Try.results61, *])
   | fail)
def aOf (k : Int) (b : List (BitVec 8)) : Action := if k = 0 then ⟨0, (getN b 4 4).1, (getN b 8 2).1, 0, 0, oxm0⟩ else if k = 22 then ⟨22, 0, 0, (getN b 4 4).1, 0, oxm0⟩ else if k = 17 then ⟨17, 0, 0, 0, (getN b 4 2).1, oxm0⟩ else ⟨k, 0, 0, 0, 0, oxm0⟩
def aPlain (k : Int) (b : List (BitVec 8)) : Action × Int × Option Int :=
  if k = 0 ∧ aGoes (getN b 4 4).1 = false then aBad 4 else if Action.right (aOf k b) = true then (aOf k b, b.length, none) else aBad (if k = 22 then 9 else 5)
set_option maxHeartbeats 4000000 in
theorem aplain_c (k : Int) (b : List (BitVec 8)) (hb : b.length ≤ 9223372036854775807) : FnP Try.prog 59 [.int .i64 k, byS b] (aRes (aPlain k b)) := by
  have hr := aright_c (aOf k b)
  have g1 := nget_c b 4 4 Sz4 hb (by omega)
  have g2 := nget_c b 8 2 Sz2 hb (by omega)
  have g3 := nget_c b 4 2 Sz2 hb (by omega)
  have b4 := abad_c 4
  have b5 := abad_c 5
  have b9 := abad_c 9
  obtain ⟨r, hre⟩ : ∃ r, Action.right (aOf k b) = r := ⟨_, rfl⟩
  rw [hre] at hr
  unfold byS at *
  by_cases k0 : k = 0
  · subst k0
    cases hg : aGoes (getN b 4 4).1
    · have e : aPlain 0 b = aBad 4 := by unfold aPlain; rw [if_pos ⟨rfl, hg⟩]
      clear hr hre
      refine FnP.intro Try.func59 rfl rfl fun G w => ?_
      repeat' (first
       | refine WK.seq ?_
       | refine WK.block ?_
       | refine WK.inBlock ?_
       | refine WK.skip ?_
       | refine WK.label ?_
       | refine WK.scope ?_
       | refine WK.inScope ?_
       | refine WK.exit rfl ?_
       | refine WK.condT rfl ?_
       | refine WK.condF rfl ?_
       | (refine Hid.h hQ _ _ ?_; clear hQ hA)
       | refine WK.condAny rfl ?_ ?_
       | ((first | refine WK.cond2 rfl (fun h => ?_) (fun h => ?_)) <;> (first | (simp [*] at h; done) | (have h2 := h; simp at h2; exfalso; omega) | (have h2 := h; simp at h2; try simp only [Bool.not_eq_true', Bool.not_eq_false'] at h) | skip))
       | (refine WK.regH Try.ntmps59 (by kernel_rfl) ?_; intro A hA Q hQ; simp [aRes, aBad, act0, Action.enc, oxm0, wideZ, uI_zero, aFault, *])
       | ((first | (refine RunQ.call rfl rfl rfl rfl rfl ?_ (g1) ?_ ?_; (focus (simp [aRes, aBad, act0, Action.enc, oxm0, wideZ, uI_zero, aFault, *]; done))) | (refine RunQ.call rfl rfl rfl rfl rfl ?_ (g2) ?_ ?_; (focus (simp [aRes, aBad, act0, Action.enc, oxm0, wideZ, uI_zero, aFault, *]; done))) | (refine RunQ.call rfl rfl rfl rfl rfl ?_ (agoes_c (getN b 4 4).1) ?_ ?_; (focus (simp [aRes, aBad, act0, Action.enc, oxm0, wideZ, uI_zero, aFault, *]; done))) | (refine RunQ.call rfl rfl rfl rfl rfl ?_ (b4) ?_ ?_; (focus (simp [aRes, aBad, act0, Action.enc, oxm0, wideZ, uI_zero, aFault, *]; done)))); (focus (simp [aRes, aBad, act0, Action.enc, oxm0, wideZ, uI_zero, aFault, *]; done)); refine RunQ.evalH ?_; simp [aRes, aBad, act0, Action.enc, oxm0, wideZ, uI_zero, aFault, *])
       | (refine WK.ret Try.func59 ?_ ?_ <;> simp (maxDischargeDepth := 120) [Try.results59, aRes, aBad, act0, Action.enc, oxm0, wideZ, uI_zero, aFault, *])
       | fail)
    · have e : aPlain 0 b = if r = true then (aOf 0 b, (b.length : Int), none) else aBad 5 := by unfold aPlain; rw [if_neg (by simp [hg]), hre]; rfl
      simp only [aOf, if_pos rfl, Action.enc, oxm0, wideZ, uI_zero] at hr
      clear hre
      refine FnP.intro Try.func59 rfl rfl fun G w => ?_
      cases r
      · repeat' (first
         | refine WK.seq ?_
         | refine WK.block ?_
         | refine WK.inBlock ?_
         | refine WK.skip ?_
         | refine WK.label ?_
         | refine WK.scope ?_
         | refine WK.inScope ?_
         | refine WK.exit rfl ?_
         | refine WK.condT rfl ?_
         | refine WK.condF rfl ?_
         | (refine Hid.h hQ _ _ ?_; clear hQ hA)
         | refine WK.condAny rfl ?_ ?_
         | ((first | refine WK.cond2 rfl (fun h => ?_) (fun h => ?_)) <;> (first | (simp [*] at h; done) | (have h2 := h; simp at h2; exfalso; omega) | (have h2 := h; simp at h2; try simp only [Bool.not_eq_true', Bool.not_eq_false'] at h) | skip))
         | (refine WK.regH Try.ntmps59 (by kernel_rfl) ?_; intro A hA Q hQ; simp [aRes, aBad, act0, Action.enc, oxm0, wideZ, uI_zero, aFault, *])
         | ((first | (refine RunQ.call rfl rfl rfl rfl rfl ?_ (g1) ?_ ?_; (focus (simp [aRes, aBad, act0, Action.enc, oxm0, wideZ, uI_zero, aFault, *]; done))) | (refine RunQ.call rfl rfl rfl rfl rfl ?_ (g2) ?_ ?_; (focus (simp [aRes, aBad, act0, Action.enc, oxm0, wideZ, uI_zero, aFault, *]; done))) | (refine RunQ.call rfl rfl rfl rfl rfl ?_ (agoes_c (getN b 4 4).1) ?_ ?_; (focus (simp [aRes, aBad, act0, Action.enc, oxm0, wideZ, uI_zero, aFault, *]; done))) | (refine RunQ.call rfl rfl rfl rfl rfl ?_ (hr) ?_ ?_; (focus (simp [aRes, aBad, act0, Action.enc, oxm0, wideZ, uI_zero, aFault, *]; done))) | (refine RunQ.call rfl rfl rfl rfl rfl ?_ (b5) ?_ ?_; (focus (simp [aRes, aBad, act0, Action.enc, oxm0, wideZ, uI_zero, aFault, *]; done)))); (focus (simp [aRes, aBad, act0, Action.enc, oxm0, wideZ, uI_zero, aFault, *]; done)); refine RunQ.evalH ?_; simp [aRes, aBad, act0, Action.enc, oxm0, wideZ, uI_zero, aFault, *])
         | (refine WK.ret Try.func59 ?_ ?_ <;> simp (maxDischargeDepth := 120) [Try.results59, aRes, aBad, act0, Action.enc, oxm0, wideZ, uI_zero, aFault, *])
         | fail)
      · repeat' (first
         | refine WK.seq ?_
         | refine WK.block ?_
         | refine WK.inBlock ?_
         | refine WK.skip ?_
         | refine WK.label ?_
         | refine WK.scope ?_
         | refine WK.inScope ?_
         | refine WK.exit rfl ?_
         | refine WK.condT rfl ?_
         | refine WK.condF rfl ?_
         | (refine Hid.h hQ _ _ ?_; clear hQ hA)
         | refine WK.condAny rfl ?_ ?_
         | ((first | refine WK.cond2 rfl (fun h => ?_) (fun h => ?_)) <;> (first | (simp [*] at h; done) | (have h2 := h; simp at h2; exfalso; omega) | (have h2 := h; simp at h2; try simp only [Bool.not_eq_true', Bool.not_eq_false'] at h) | skip))
         | (refine WK.regH Try.ntmps59 (by kernel_rfl) ?_; intro A hA Q hQ; simp [aRes, aBad, act0, Action.enc, oxm0, wideZ, uI_zero, aFault, *])
         | ((first | (refine RunQ.call rfl rfl rfl rfl rfl ?_ (g1) ?_ ?_; (focus (simp [aRes, aBad, act0, Action.enc, oxm0, wideZ, uI_zero, aFault, *]; done))) | (refine RunQ.call rfl rfl rfl rfl rfl ?_ (g2) ?_ ?_; (focus (simp [aRes, aBad, act0, Action.enc, oxm0, wideZ, uI_zero, aFault, *]; done))) | (refine RunQ.call rfl rfl rfl rfl rfl ?_ (agoes_c (getN b 4 4).1) ?_ ?_; (focus (simp [aRes, aBad, act0, Action.enc, oxm0, wideZ, uI_zero, aFault, *]; done))) | (refine RunQ.call rfl rfl rfl rfl rfl ?_ (hr) ?_ ?_; (focus (simp [aRes, aBad, act0, Action.enc, oxm0, wideZ, uI_zero, aFault, *]; done)))); (focus (simp [aRes, aBad, act0, Action.enc, oxm0, wideZ, uI_zero, aFault, *]; done)); refine RunQ.evalH ?_; simp [aRes, aBad, act0, Action.enc, oxm0, wideZ, uI_zero, aFault, *])
         | (refine WK.ret Try.func59 ?_ ?_ <;> simp (maxDischargeDepth := 120) [Try.results59, aRes, aBad, act0, Action.enc, oxm0, wideZ, uI_zero, aFault, aOf, *])
         | fail)
  by_cases k1 : k = 22
  · subst k1
    have e : aPlain 22 b = if r = true then (aOf 22 b, (b.length : Int), none) else aBad 9 := by unfold aPlain; rw [if_neg (by simp), hre]; rfl
    simp only [aOf, if_neg k0, if_pos rfl, Action.enc, oxm0, wideZ, uI_zero] at hr
    clear hre
    refine FnP.intro Try.func59 rfl rfl fun G w => ?_
    cases r
    · repeat' (first
       | refine WK.seq ?_
       | refine WK.block ?_
       | refine WK.inBlock ?_
       | refine WK.skip ?_
       | refine WK.label ?_
       | refine WK.scope ?_
       | refine WK.inScope ?_
       | refine WK.exit rfl ?_
       | refine WK.condT rfl ?_
       | refine WK.condF rfl ?_
       | (refine Hid.h hQ _ _ ?_; clear hQ hA)
       | refine WK.condAny rfl ?_ ?_
       | ((first | refine WK.cond2 rfl (fun h => ?_) (fun h => ?_)) <;> (first | (simp [*] at h; done) | (have h2 := h; simp at h2; exfalso; omega) | (have h2 := h; simp at h2; try simp only [Bool.not_eq_true', Bool.not_eq_false'] at h) | skip))
       | (refine WK.regH Try.ntmps59 (by kernel_rfl) ?_; intro A hA Q hQ; simp [aRes, aBad, act0, Action.enc, oxm0, wideZ, uI_zero, aFault, *])
       | ((first | (refine RunQ.call rfl rfl rfl rfl rfl ?_ (g1) ?_ ?_; (focus (simp [aRes, aBad, act0, Action.enc, oxm0, wideZ, uI_zero, aFault, *]; done))) | (refine RunQ.call rfl rfl rfl rfl rfl ?_ (hr) ?_ ?_; (focus (simp [aRes, aBad, act0, Action.enc, oxm0, wideZ, uI_zero, aFault, *]; done))) | (refine RunQ.call rfl rfl rfl rfl rfl ?_ (b9) ?_ ?_; (focus (simp [aRes, aBad, act0, Action.enc, oxm0, wideZ, uI_zero, aFault, *]; done)))); (focus (simp [aRes, aBad, act0, Action.enc, oxm0, wideZ, uI_zero, aFault, *]; done)); refine RunQ.evalH ?_; simp [aRes, aBad, act0, Action.enc, oxm0, wideZ, uI_zero, aFault, *])
       | (refine WK.ret Try.func59 ?_ ?_ <;> simp (maxDischargeDepth := 120) [Try.results59, aRes, aBad, act0, Action.enc, oxm0, wideZ, uI_zero, aFault, *])
       | fail)
    · repeat' (first
       | refine WK.seq ?_
       | refine WK.block ?_
       | refine WK.inBlock ?_
       | refine WK.skip ?_
       | refine WK.label ?_
       | refine WK.scope ?_
       | refine WK.inScope ?_
       | refine WK.exit rfl ?_
       | refine WK.condT rfl ?_
       | refine WK.condF rfl ?_
       | (refine Hid.h hQ _ _ ?_; clear hQ hA)
       | refine WK.condAny rfl ?_ ?_
       | ((first | refine WK.cond2 rfl (fun h => ?_) (fun h => ?_)) <;> (first | (simp [*] at h; done) | (have h2 := h; simp at h2; exfalso; omega) | (have h2 := h; simp at h2; try simp only [Bool.not_eq_true', Bool.not_eq_false'] at h) | skip))
       | (refine WK.regH Try.ntmps59 (by kernel_rfl) ?_; intro A hA Q hQ; simp [aRes, aBad, act0, Action.enc, oxm0, wideZ, uI_zero, aFault, *])
       | ((first | (refine RunQ.call rfl rfl rfl rfl rfl ?_ (g1) ?_ ?_; (focus (simp [aRes, aBad, act0, Action.enc, oxm0, wideZ, uI_zero, aFault, *]; done))) | (refine RunQ.call rfl rfl rfl rfl rfl ?_ (hr) ?_ ?_; (focus (simp [aRes, aBad, act0, Action.enc, oxm0, wideZ, uI_zero, aFault, *]; done)))); (focus (simp [aRes, aBad, act0, Action.enc, oxm0, wideZ, uI_zero, aFault, *]; done)); refine RunQ.evalH ?_; simp [aRes, aBad, act0, Action.enc, oxm0, wideZ, uI_zero, aFault, *])
       | (refine WK.ret Try.func59 ?_ ?_ <;> simp (maxDischargeDepth := 120) [Try.results59, aRes, aBad, act0, Action.enc, oxm0, wideZ, uI_zero, aFault, aOf, *])
       | fail)
  by_cases k2 : k = 17
  · subst k2
    have e : aPlain 17 b = if r = true then (aOf 17 b, (b.length : Int), none) else aBad 5 := by unfold aPlain; rw [if_neg (by simp), hre]; rfl
    simp only [aOf, if_neg k0, if_neg k1, if_pos rfl, Action.enc, oxm0, wideZ, uI_zero] at hr
    clear hre
    refine FnP.intro Try.func59 rfl rfl fun G w => ?_
    cases r
    · repeat' (first
       | refine WK.seq ?_
       | refine WK.block ?_
       | refine WK.inBlock ?_
       | refine WK.skip ?_
       | refine WK.label ?_
       | refine WK.scope ?_
       | refine WK.inScope ?_
       | refine WK.exit rfl ?_
       | refine WK.condT rfl ?_
       | refine WK.condF rfl ?_
       | (refine Hid.h hQ _ _ ?_; clear hQ hA)
       | refine WK.condAny rfl ?_ ?_
       | ((first | refine WK.cond2 rfl (fun h => ?_) (fun h => ?_)) <;> (first | (simp [*] at h; done) | (have h2 := h; simp at h2; exfalso; omega) | (have h2 := h; simp at h2; try simp only [Bool.not_eq_true', Bool.not_eq_false'] at h) | skip))
       | (refine WK.regH Try.ntmps59 (by kernel_rfl) ?_; intro A hA Q hQ; simp [aRes, aBad, act0, Action.enc, oxm0, wideZ, uI_zero, aFault, *])
       | ((first | (refine RunQ.call rfl rfl rfl rfl rfl ?_ (g3) ?_ ?_; (focus (simp [aRes, aBad, act0, Action.enc, oxm0, wideZ, uI_zero, aFault, *]; done))) | (refine RunQ.call rfl rfl rfl rfl rfl ?_ (hr) ?_ ?_; (focus (simp [aRes, aBad, act0, Action.enc, oxm0, wideZ, uI_zero, aFault, *]; done))) | (refine RunQ.call rfl rfl rfl rfl rfl ?_ (b5) ?_ ?_; (focus (simp [aRes, aBad, act0, Action.enc, oxm0, wideZ, uI_zero, aFault, *]; done)))); (focus (simp [aRes, aBad, act0, Action.enc, oxm0, wideZ, uI_zero, aFault, *]; done)); refine RunQ.evalH ?_; simp [aRes, aBad, act0, Action.enc, oxm0, wideZ, uI_zero, aFault, *])
       | (refine WK.ret Try.func59 ?_ ?_ <;> simp (maxDischargeDepth := 120) [Try.results59, aRes, aBad, act0, Action.enc, oxm0, wideZ, uI_zero, aFault, *])
       | fail)
    · repeat' (first
       | refine WK.seq ?_
       | refine WK.block ?_
       | refine WK.inBlock ?_
       | refine WK.skip ?_
       | refine WK.label ?_
       | refine WK.scope ?_
       | refine WK.inScope ?_
       | refine WK.exit rfl ?_
       | refine WK.condT rfl ?_
       | refine WK.condF rfl ?_
       | (refine Hid.h hQ _ _ ?_; clear hQ hA)
       | refine WK.condAny rfl ?_ ?_
       | ((first | refine WK.cond2 rfl (fun h => ?_) (fun h => ?_)) <;> (first | (simp [*] at h; done) | (have h2 := h; simp at h2; exfalso; omega) | (have h2 := h; simp at h2; try simp only [Bool.not_eq_true', Bool.not_eq_false'] at h) | skip))
       | (refine WK.regH Try.ntmps59 (by kernel_rfl) ?_; intro A hA Q hQ; simp [aRes, aBad, act0, Action.enc, oxm0, wideZ, uI_zero, aFault, *])
       | ((first | (refine RunQ.call rfl rfl rfl rfl rfl ?_ (g3) ?_ ?_; (focus (simp [aRes, aBad, act0, Action.enc, oxm0, wideZ, uI_zero, aFault, *]; done))) | (refine RunQ.call rfl rfl rfl rfl rfl ?_ (hr) ?_ ?_; (focus (simp [aRes, aBad, act0, Action.enc, oxm0, wideZ, uI_zero, aFault, *]; done)))); (focus (simp [aRes, aBad, act0, Action.enc, oxm0, wideZ, uI_zero, aFault, *]; done)); refine RunQ.evalH ?_; simp [aRes, aBad, act0, Action.enc, oxm0, wideZ, uI_zero, aFault, *])
       | (refine WK.ret Try.func59 ?_ ?_ <;> simp (maxDischargeDepth := 120) [Try.results59, aRes, aBad, act0, Action.enc, oxm0, wideZ, uI_zero, aFault, aOf, *])
       | fail)
  have e : aPlain k b = if r = true then (aOf k b, (b.length : Int), none) else aBad 5 := by unfold aPlain; rw [if_neg (by simp [k0]), hre, if_neg k1]
  simp only [aOf, if_neg k0, if_neg k1, if_neg k2, Action.enc, oxm0, wideZ, uI_zero] at hr
  clear hre
  refine FnP.intro Try.func59 rfl rfl fun G w => ?_
  cases r
  · repeat' (first
     | refine WK.seq ?_
     | refine WK.block ?_
     | refine WK.inBlock ?_
     | refine WK.skip ?_
     | refine WK.label ?_
     | refine WK.scope ?_
     | refine WK.inScope ?_
     | refine WK.exit rfl ?_
     | refine WK.condT rfl ?_
     | refine WK.condF rfl ?_
     | (refine Hid.h hQ _ _ ?_; clear hQ hA)
     | refine WK.condAny rfl ?_ ?_
     | ((first | refine WK.cond2 rfl (fun h => ?_) (fun h => ?_)) <;> (first | (simp [*] at h; done) | (have h2 := h; simp at h2; exfalso; omega) | (have h2 := h; simp at h2; try simp only [Bool.not_eq_true', Bool.not_eq_false'] at h) | skip))
     | (refine WK.regH Try.ntmps59 (by kernel_rfl) ?_; intro A hA Q hQ; simp [aRes, aBad, act0, Action.enc, oxm0, wideZ, uI_zero, aFault, *])
     | ((first | (refine RunQ.call rfl rfl rfl rfl rfl ?_ (hr) ?_ ?_; (focus (simp [aRes, aBad, act0, Action.enc, oxm0, wideZ, uI_zero, aFault, *]; done))) | (refine RunQ.call rfl rfl rfl rfl rfl ?_ (b5) ?_ ?_; (focus (simp [aRes, aBad, act0, Action.enc, oxm0, wideZ, uI_zero, aFault, *]; done)))); (focus (simp [aRes, aBad, act0, Action.enc, oxm0, wideZ, uI_zero, aFault, *]; done)); refine RunQ.evalH ?_; simp [aRes, aBad, act0, Action.enc, oxm0, wideZ, uI_zero, aFault, *])
     | (refine WK.ret Try.func59 ?_ ?_ <;> simp (maxDischargeDepth := 120) [Try.results59, aRes, aBad, act0, Action.enc, oxm0, wideZ, uI_zero, aFault, *])
     | fail)
  · repeat' (first
     | refine WK.seq ?_
     | refine WK.block ?_
     | refine WK.inBlock ?_
     | refine WK.skip ?_
     | refine WK.label ?_
     | refine WK.scope ?_
     | refine WK.inScope ?_
     | refine WK.exit rfl ?_
     | refine WK.condT rfl ?_
     | refine WK.condF rfl ?_
     | (refine Hid.h hQ _ _ ?_; clear hQ hA)
     | refine WK.condAny rfl ?_ ?_
     | ((first | refine WK.cond2 rfl (fun h => ?_) (fun h => ?_)) <;> (first | (simp [*] at h; done) | (have h2 := h; simp at h2; exfalso; omega) | (have h2 := h; simp at h2; try simp only [Bool.not_eq_true', Bool.not_eq_false'] at h) | skip))
     | (refine WK.regH Try.ntmps59 (by kernel_rfl) ?_; intro A hA Q hQ; simp [aRes, aBad, act0, Action.enc, oxm0, wideZ, uI_zero, aFault, *])
     | ((refine RunQ.call rfl rfl rfl rfl rfl ?_ (hr) ?_ ?_; (focus (simp [aRes, aBad, act0, Action.enc, oxm0, wideZ, uI_zero, aFault, *]; done))); (focus (simp [aRes, aBad, act0, Action.enc, oxm0, wideZ, uI_zero, aFault, *]; done)); refine RunQ.evalH ?_; simp [aRes, aBad, act0, Action.enc, oxm0, wideZ, uI_zero, aFault, *])
     | (refine WK.ret Try.func59 ?_ ?_ <;> simp (maxDischargeDepth := 120) [Try.results59, aRes, aBad, act0, Action.enc, oxm0, wideZ, uI_zero, aFault, aOf, *])
     | fail)
end Go.Proofs.Ytbncoeoamjcjjaa
end

section
set_option linter.unusedVariables false
set_option linter.unusedSimpArgs false
namespace Go.Proofs.Ytbncoeoamjcjjaa
open Go Go.AI Go.Proofs
attribute [local irreducible] FnP FnO FnB FnT FnSeq WK RunQ RunQW RunX RunXW

/-- how many bytes a part's reading takes -/
def oLen (b : List (BitVec 8)) : Nat := (oDec b).2.1.toNat
theorem oLen_eq (b : List (BitVec 8)) : (oDec b).2.1 = (oLen b : Int) ∧ oLen b ≤ 259 := by
  have h : 0 ≤ (oDec b).2.1 ∧ (oDec b).2.1 ≤ 259 := by
    have := bAt_lt b 3
    unfold oDec
    split
    · split <;> (simp only; omega)
    · simp
  unfold oLen; omega
def aSetD (b : List (BitVec 8)) : Action × Int × Option Int :=
  if (oDec (b.drop 4)).2.2 = 1 then aBad 14 else if (oDec (b.drop 4)).2.2 = 6 then aBad 13 else if (oDec (b.drop 4)).2.2 = 0 then
    (if b.length = (4 + oLen (b.drop 4) + 7) / 8 * 8 then (if allZ (b.drop (4 + oLen (b.drop 4))) = true then (if aSets (oDec (b.drop 4)).1.field = true then
      (if (oDec (b.drop 4)).1.masked = true then aBad 15 else (⟨25, 0, 0, 0, 0, (oDec (b.drop 4)).1⟩, (b.length : Int), none)) else aBad 13) else aBad 5) else aBad 1) else aBad 15
set_option maxHeartbeats 4000000 in
theorem aset_c (b : List (BitVec 8)) (hb : b.length ≤ 65536) (h8 : 8 ≤ b.length) : FnP Try.prog 56 [byS b] (aRes (aSetD b)) := by
  have hd := odec_c (b.drop 4) (by rw [List.length_drop]; omega)
  have hol := oLen_eq (b.drop 4)
  have hn : aSetD b = if (oDec (b.drop 4)).2.2 = 1 then aBad 14 else if (oDec (b.drop 4)).2.2 = 6 then aBad 13 else if (oDec (b.drop 4)).2.2 = 0 then
    (if b.length = (4 + oLen (b.drop 4) + 7) / 8 * 8 then (if allZ (b.drop (4 + oLen (b.drop 4))) = true then (if aSets (oDec (b.drop 4)).1.field = true then
      (if (oDec (b.drop 4)).1.masked = true then aBad 15 else (⟨25, 0, 0, 0, 0, (oDec (b.drop 4)).1⟩, (b.length : Int), none)) else aBad 13) else aBad 5) else aBad 1) else aBad 15 := rfl
  obtain ⟨x, hx⟩ : ∃ x, oLen (b.drop 4) = x := ⟨_, rfl⟩
  obtain ⟨D, hD⟩ : ∃ D, oDec (b.drop 4) = D := ⟨_, rfl⟩
  rw [hx, hD] at hol
  rw [hx, hD] at hn
  rw [hD, hol.1] at hd
  have hx9 := hol.2
  obtain ⟨o, m, c⟩ := D
  simp only at hn hd
  clear hD hx hol
  have d4 : ((byL b).drop 4).take (b.length - 4) = byL (b.drop 4) := by rw [byL_drop]; exact by_full _ _ (by rw [List.length_drop])
  have j4 : (4 : Int) ≤ b.length := by omega
  unfold byS at *
  rw [List.length_drop] at hd
  have b1 := abad_c 1
  have b5 := abad_c 5
  have b13 := abad_c 13
  have b14 := abad_c 14
  have b15 := abad_c 15
  by_cases c1 : c = 1
  · subst c1
    have e : aSetD b = aBad 14 := by rw [hn, if_pos rfl]
    clear hn
    simp only [oFault, if_neg (show ¬ (1 : Int) = 0 by decide)] at hd
    refine FnP.intro Try.func56 rfl rfl fun G w => ?_
    repeat' (first
     | refine WK.seq ?_
     | refine WK.block ?_
     | refine WK.inBlock ?_
     | refine WK.skip ?_
     | refine WK.label ?_
     | refine WK.scope ?_
     | refine WK.inScope ?_
     | refine WK.exit rfl ?_
     | refine WK.condT rfl ?_
     | refine WK.condF rfl ?_
     | (refine Hid.h hQ _ _ ?_; clear hQ hA)
     | refine WK.condAny rfl ?_ ?_
     | ((first | refine WK.cond2 rfl (fun h => ?_) (fun h => ?_) | refine Fork.mk (fun h => ?_) (fun h => ?_)) <;> (first | (simp [*] at h; done) | (have h2 := h; simp at h2; exfalso; omega) | (have h2 := h; simp at h2; try simp only [Bool.not_eq_true', Bool.not_eq_false'] at h) | skip))
     | (refine WK.regH Try.ntmps56 (by kernel_rfl) ?_; intro A hA Q hQ; simp [aRes, aBad, act0, Action.enc, Oxm.enc, oxm0, wideZ, uI_zero, aFault, *])
     | (refine RunQ.gd rfl (by rw [hA.h]; rfl) ?_; simp [aRes, aBad, act0, Action.enc, Oxm.enc, oxm0, wideZ, uI_zero, aFault, *])
     | ((first | ((first | refine RunQ.call rfl rfl rfl rfl rfl ?_ (hd) ?_ ?_ | refine RunQW.call rfl rfl rfl rfl ?_ (hd) ?_ ?_); (focus (simp [aRes, aBad, act0, Action.enc, Oxm.enc, oxm0, wideZ, uI_zero, aFault, *]; done))) | ((first | refine RunQ.call rfl rfl rfl rfl rfl ?_ (b14) ?_ ?_ | refine RunQW.call rfl rfl rfl rfl ?_ (b14) ?_ ?_); (focus (simp [aRes, aBad, act0, Action.enc, Oxm.enc, oxm0, wideZ, uI_zero, aFault, *]; done)))); (focus (simp [aRes, aBad, act0, Action.enc, Oxm.enc, oxm0, wideZ, uI_zero, aFault, *]; done)); refine RunQ.evalH ?_; simp [aRes, aBad, act0, Action.enc, Oxm.enc, oxm0, wideZ, uI_zero, aFault, *])
     | (refine WK.ret Try.func56 ?_ ?_ <;> simp (maxDischargeDepth := 120) [Try.results56, aRes, aBad, act0, Action.enc, Oxm.enc, oxm0, wideZ, uI_zero, aFault, *])
     | fail)
  by_cases c6 : c = 6
  · subst c6
    have e : aSetD b = aBad 13 := by rw [hn, if_neg c1, if_pos rfl]
    clear hn
    simp only [oFault, if_neg (show ¬ (6 : Int) = 0 by decide)] at hd
    refine FnP.intro Try.func56 rfl rfl fun G w => ?_
    repeat' (first
     | refine WK.seq ?_
     | refine WK.block ?_
     | refine WK.inBlock ?_
     | refine WK.skip ?_
     | refine WK.label ?_
     | refine WK.scope ?_
     | refine WK.inScope ?_
     | refine WK.exit rfl ?_
     | refine WK.condT rfl ?_
     | refine WK.condF rfl ?_
     | (refine Hid.h hQ _ _ ?_; clear hQ hA)
     | refine WK.condAny rfl ?_ ?_
     | ((first | refine WK.cond2 rfl (fun h => ?_) (fun h => ?_) | refine Fork.mk (fun h => ?_) (fun h => ?_)) <;> (first | (simp [*] at h; done) | (have h2 := h; simp at h2; exfalso; omega) | (have h2 := h; simp at h2; try simp only [Bool.not_eq_true', Bool.not_eq_false'] at h) | skip))
     | (refine WK.regH Try.ntmps56 (by kernel_rfl) ?_; intro A hA Q hQ; simp [aRes, aBad, act0, Action.enc, Oxm.enc, oxm0, wideZ, uI_zero, aFault, *])
     | (refine RunQ.gd rfl (by rw [hA.h]; rfl) ?_; simp [aRes, aBad, act0, Action.enc, Oxm.enc, oxm0, wideZ, uI_zero, aFault, *])
     | ((first | ((first | refine RunQ.call rfl rfl rfl rfl rfl ?_ (hd) ?_ ?_ | refine RunQW.call rfl rfl rfl rfl ?_ (hd) ?_ ?_); (focus (simp [aRes, aBad, act0, Action.enc, Oxm.enc, oxm0, wideZ, uI_zero, aFault, *]; done))) | ((first | refine RunQ.call rfl rfl rfl rfl rfl ?_ (b13) ?_ ?_ | refine RunQW.call rfl rfl rfl rfl ?_ (b13) ?_ ?_); (focus (simp [aRes, aBad, act0, Action.enc, Oxm.enc, oxm0, wideZ, uI_zero, aFault, *]; done)))); (focus (simp [aRes, aBad, act0, Action.enc, Oxm.enc, oxm0, wideZ, uI_zero, aFault, *]; done)); refine RunQ.evalH ?_; simp [aRes, aBad, act0, Action.enc, Oxm.enc, oxm0, wideZ, uI_zero, aFault, *])
     | (refine WK.ret Try.func56 ?_ ?_ <;> simp (maxDischargeDepth := 120) [Try.results56, aRes, aBad, act0, Action.enc, Oxm.enc, oxm0, wideZ, uI_zero, aFault, *])
     | fail)
  by_cases c0 : c = 0
  case neg =>
    have e : aSetD b = aBad 15 := by rw [hn, if_neg c1, if_neg c6, if_neg c0]
    clear hn
    simp only [oFault, if_neg c0] at hd
    refine FnP.intro Try.func56 rfl rfl fun G w => ?_
    repeat' (first
     | refine WK.seq ?_
     | refine WK.block ?_
     | refine WK.inBlock ?_
     | refine WK.skip ?_
     | refine WK.label ?_
     | refine WK.scope ?_
     | refine WK.inScope ?_
     | refine WK.exit rfl ?_
     | refine WK.condT rfl ?_
     | refine WK.condF rfl ?_
     | (refine Hid.h hQ _ _ ?_; clear hQ hA)
     | refine WK.condAny rfl ?_ ?_
     | ((first | refine WK.cond2 rfl (fun h => ?_) (fun h => ?_) | refine Fork.mk (fun h => ?_) (fun h => ?_)) <;> (first | (simp [*] at h; done) | (have h2 := h; simp at h2; exfalso; omega) | (have h2 := h; simp at h2; try simp only [Bool.not_eq_true', Bool.not_eq_false'] at h) | skip))
     | (refine WK.regH Try.ntmps56 (by kernel_rfl) ?_; intro A hA Q hQ; simp [aRes, aBad, act0, Action.enc, Oxm.enc, oxm0, wideZ, uI_zero, aFault, *])
     | (refine RunQ.gd rfl (by rw [hA.h]; rfl) ?_; simp [aRes, aBad, act0, Action.enc, Oxm.enc, oxm0, wideZ, uI_zero, aFault, *])
     | ((first | ((first | refine RunQ.call rfl rfl rfl rfl rfl ?_ (hd) ?_ ?_ | refine RunQW.call rfl rfl rfl rfl ?_ (hd) ?_ ?_); (focus (simp [aRes, aBad, act0, Action.enc, Oxm.enc, oxm0, wideZ, uI_zero, aFault, *]; done))) | ((first | refine RunQ.call rfl rfl rfl rfl rfl ?_ (b15) ?_ ?_ | refine RunQW.call rfl rfl rfl rfl ?_ (b15) ?_ ?_); (focus (simp [aRes, aBad, act0, Action.enc, Oxm.enc, oxm0, wideZ, uI_zero, aFault, *]; done)))); (focus (simp [aRes, aBad, act0, Action.enc, Oxm.enc, oxm0, wideZ, uI_zero, aFault, *]; done)); refine RunQ.evalH ?_; simp [aRes, aBad, act0, Action.enc, Oxm.enc, oxm0, wideZ, uI_zero, aFault, *])
     | (refine WK.ret Try.func56 ?_ ?_ <;> simp (maxDischargeDepth := 120) [Try.results56, aRes, aBad, act0, Action.enc, Oxm.enc, oxm0, wideZ, uI_zero, aFault, *])
     | fail)
  subst c0
  rw [if_neg c1, if_neg c6, if_pos rfl] at hn
  simp only [oFault, if_pos rfl] at hd
  have w1 : IntKind.i64.wrap (4 + (x : Int)) = ((4 + x : Nat) : Int) := by rw [wrap_i64 (by omega) (by omega)]; omega
  have w2 : IntKind.i64.wrap (((4 + x : Nat) : Int) + 7) = ((4 + x + 7 : Nat) : Int) := by rw [wrap_i64 (by omega) (by omega)]; omega
  have w3 := bNot7b (4 + x + 7) (by omega)
  have z1 : ((b.length : Int) == (((4 + x + 7) / 8 * 8 : Nat) : Int)) = (b.length == (4 + x + 7) / 8 * 8) := by rw [Bool.eq_iff_iff, beq_iff_eq, beq_iff_eq]; omega
  by_cases hl : b.length = (4 + x + 7) / 8 * 8
  case neg =>
    have hlb : (b.length == (4 + x + 7) / 8 * 8) = false := by simpa using hl
    have e : aSetD b = aBad 1 := by rw [hn, if_neg hl]
    clear hn hl
    rw [hlb] at z1
    obtain ⟨y, hy⟩ : ∃ y, (4 + x + 7) / 8 * 8 = y := ⟨_, rfl⟩
    obtain ⟨x4, hx4⟩ : ∃ x4, 4 + x = x4 := ⟨_, rfl⟩
    obtain ⟨x7, hx7⟩ : ∃ x7, 4 + x + 7 = x7 := ⟨_, rfl⟩
    rw [hx4] at hx7 w1 w2 w3 z1
    rw [hx7] at w2 w3 z1
    obtain ⟨y, hy⟩ : ∃ y, x7 / 8 * 8 = y := ⟨_, rfl⟩
    rw [hy] at w3 z1
    clear hy hx4 hx7 hlb
    refine FnP.intro Try.func56 rfl rfl fun G w => ?_
    repeat' (first
     | refine WK.seq ?_
     | refine WK.block ?_
     | refine WK.inBlock ?_
     | refine WK.skip ?_
     | refine WK.label ?_
     | refine WK.scope ?_
     | refine WK.inScope ?_
     | refine WK.exit rfl ?_
     | refine WK.condT rfl ?_
     | refine WK.condF rfl ?_
     | (refine Hid.h hQ _ _ ?_; clear hQ hA)
     | refine WK.condAny rfl ?_ ?_
     | ((first | refine WK.cond2 rfl (fun h => ?_) (fun h => ?_) | refine Fork.mk (fun h => ?_) (fun h => ?_)) <;> (first | (simp [*] at h; done) | (have h2 := h; simp at h2; exfalso; omega) | (have h2 := h; simp at h2; try simp only [Bool.not_eq_true', Bool.not_eq_false'] at h) | skip))
     | (refine WK.regH Try.ntmps56 (by kernel_rfl) ?_; intro A hA Q hQ; simp [aRes, aBad, act0, Action.enc, Oxm.enc, oxm0, wideZ, uI_zero, bne, aFault, *])
     | (refine RunQ.gd rfl (by rw [hA.h]; rfl) ?_; simp [aRes, aBad, act0, Action.enc, Oxm.enc, oxm0, wideZ, uI_zero, bne, aFault, *])
     | ((first | ((first | refine RunQ.call rfl rfl rfl rfl rfl ?_ (hd) ?_ ?_ | refine RunQW.call rfl rfl rfl rfl ?_ (hd) ?_ ?_); (focus (simp [aRes, aBad, act0, Action.enc, Oxm.enc, oxm0, wideZ, uI_zero, bne, aFault, *]; done))) | ((first | refine RunQ.call rfl rfl rfl rfl rfl ?_ (b1) ?_ ?_ | refine RunQW.call rfl rfl rfl rfl ?_ (b1) ?_ ?_); (focus (simp [aRes, aBad, act0, Action.enc, Oxm.enc, oxm0, wideZ, uI_zero, bne, aFault, *]; done)))); (focus (simp [aRes, aBad, act0, Action.enc, Oxm.enc, oxm0, wideZ, uI_zero, bne, aFault, *]; done)); refine RunQ.evalH ?_; simp [aRes, aBad, act0, Action.enc, Oxm.enc, oxm0, wideZ, uI_zero, bne, aFault, *])
     | (refine WK.ret Try.func56 ?_ ?_ <;> simp (maxDischargeDepth := 120) [Try.results56, aRes, aBad, act0, Action.enc, Oxm.enc, oxm0, wideZ, uI_zero, bne, aFault, *])
     | fail)
  have hlb : (b.length == (4 + x + 7) / 8 * 8) = true := by simpa using hl
  rw [if_pos hl] at hn
  rw [hlb] at z1
  have hle : 4 + x ≤ b.length := by omega
  have hle' : ((4 + x : Nat) : Int) ≤ b.length := by omega
  have d5 : ((byL b).drop (4 + x)).take (b.length - (4 + x)) = byL (b.drop (4 + x)) := by rw [byL_drop]; exact by_full _ _ (by rw [List.length_drop])
  have he := aempty_c (b.drop (4 + x)) (by rw [List.length_drop]; omega)
  unfold byS at he
  rw [List.length_drop] at he
  obtain ⟨y, hy⟩ : ∃ y, (4 + x + 7) / 8 * 8 = y := ⟨_, rfl⟩
  obtain ⟨x4, hx4⟩ : ∃ x4, 4 + x = x4 := ⟨_, rfl⟩
  obtain ⟨x7, hx7⟩ : ∃ x7, 4 + x + 7 = x7 := ⟨_, rfl⟩
  rw [hx4] at hx7 w1 w2 w3 z1 hle hle' d5 he hn
  rw [hx7] at w2 w3 z1
  obtain ⟨y, hy⟩ : ∃ y, x7 / 8 * 8 = y := ⟨_, rfl⟩
  rw [hy] at w3 z1
  obtain ⟨B5, hB5⟩ : ∃ B5, b.drop x4 = B5 := ⟨_, rfl⟩
  rw [hB5] at d5 he hn
  clear hy hx4 hx7 hlb hl hB5
  refine FnP.intro Try.func56 rfl rfl fun G w => ?_
  cases k1 : allZ B5
  · rw [k1, if_neg Bool.false_ne_true] at hn
    repeat' (first
     | refine WK.seq ?_
     | refine WK.block ?_
     | refine WK.inBlock ?_
     | refine WK.skip ?_
     | refine WK.label ?_
     | refine WK.scope ?_
     | refine WK.inScope ?_
     | refine WK.exit rfl ?_
     | refine WK.condT rfl ?_
     | refine WK.condF rfl ?_
     | (refine Hid.h hQ _ _ ?_; clear hQ hA)
     | refine WK.condAny rfl ?_ ?_
     | ((first | refine WK.cond2 rfl (fun h => ?_) (fun h => ?_) | refine Fork.mk (fun h => ?_) (fun h => ?_)) <;> (first | (simp [*] at h; done) | (have h2 := h; simp at h2; exfalso; omega) | (have h2 := h; simp at h2; try simp only [Bool.not_eq_true', Bool.not_eq_false'] at h) | skip))
     | (refine WK.regH Try.ntmps56 (by kernel_rfl) ?_; intro A hA Q hQ; simp [aRes, aBad, act0, Action.enc, Oxm.enc, oxm0, wideZ, uI_zero, bne, aFault, *])
     | (refine RunQ.gd rfl (by rw [hA.h]; rfl) ?_; simp [aRes, aBad, act0, Action.enc, Oxm.enc, oxm0, wideZ, uI_zero, bne, aFault, *])
     | ((first | ((first | refine RunQ.call rfl rfl rfl rfl rfl ?_ (hd) ?_ ?_ | refine RunQW.call rfl rfl rfl rfl ?_ (hd) ?_ ?_); (focus (simp [aRes, aBad, act0, Action.enc, Oxm.enc, oxm0, wideZ, uI_zero, bne, aFault, *]; done))) | ((first | refine RunQ.call rfl rfl rfl rfl rfl ?_ (he) ?_ ?_ | refine RunQW.call rfl rfl rfl rfl ?_ (he) ?_ ?_); (focus (simp [aRes, aBad, act0, Action.enc, Oxm.enc, oxm0, wideZ, uI_zero, bne, aFault, *]; done))) | ((first | refine RunQ.call rfl rfl rfl rfl rfl ?_ (b5) ?_ ?_ | refine RunQW.call rfl rfl rfl rfl ?_ (b5) ?_ ?_); (focus (simp [aRes, aBad, act0, Action.enc, Oxm.enc, oxm0, wideZ, uI_zero, bne, aFault, *]; done)))); (focus (simp [aRes, aBad, act0, Action.enc, Oxm.enc, oxm0, wideZ, uI_zero, bne, aFault, *]; done)); refine RunQ.evalH ?_; simp [aRes, aBad, act0, Action.enc, Oxm.enc, oxm0, wideZ, uI_zero, bne, aFault, *])
     | (refine WK.ret Try.func56 ?_ ?_ <;> simp (maxDischargeDepth := 120) [Try.results56, aRes, aBad, act0, Action.enc, Oxm.enc, oxm0, wideZ, uI_zero, bne, aFault, *])
     | fail)
  rw [k1, if_pos rfl] at hn
  cases k2 : aSets o.field
  · rw [k2, if_neg Bool.false_ne_true] at hn
    repeat' (first
     | refine WK.seq ?_
     | refine WK.block ?_
     | refine WK.inBlock ?_
     | refine WK.skip ?_
     | refine WK.label ?_
     | refine WK.scope ?_
     | refine WK.inScope ?_
     | refine WK.exit rfl ?_
     | refine WK.condT rfl ?_
     | refine WK.condF rfl ?_
     | (refine Hid.h hQ _ _ ?_; clear hQ hA)
     | refine WK.condAny rfl ?_ ?_
     | ((first | refine WK.cond2 rfl (fun h => ?_) (fun h => ?_) | refine Fork.mk (fun h => ?_) (fun h => ?_)) <;> (first | (simp [*] at h; done) | (have h2 := h; simp at h2; exfalso; omega) | (have h2 := h; simp at h2; try simp only [Bool.not_eq_true', Bool.not_eq_false'] at h) | skip))
     | (refine WK.regH Try.ntmps56 (by kernel_rfl) ?_; intro A hA Q hQ; simp [aRes, aBad, act0, Action.enc, Oxm.enc, oxm0, wideZ, uI_zero, bne, aFault, *])
     | (refine RunQ.gd rfl (by rw [hA.h]; rfl) ?_; simp [aRes, aBad, act0, Action.enc, Oxm.enc, oxm0, wideZ, uI_zero, bne, aFault, *])
     | ((first | ((first | refine RunQ.call rfl rfl rfl rfl rfl ?_ (hd) ?_ ?_ | refine RunQW.call rfl rfl rfl rfl ?_ (hd) ?_ ?_); (focus (simp [aRes, aBad, act0, Action.enc, Oxm.enc, oxm0, wideZ, uI_zero, bne, aFault, *]; done))) | ((first | refine RunQ.call rfl rfl rfl rfl rfl ?_ (he) ?_ ?_ | refine RunQW.call rfl rfl rfl rfl ?_ (he) ?_ ?_); (focus (simp [aRes, aBad, act0, Action.enc, Oxm.enc, oxm0, wideZ, uI_zero, bne, aFault, *]; done))) | ((first | refine RunQ.call rfl rfl rfl rfl rfl ?_ (asets_c o.field) ?_ ?_ | refine RunQW.call rfl rfl rfl rfl ?_ (asets_c o.field) ?_ ?_); (focus (simp [aRes, aBad, act0, Action.enc, Oxm.enc, oxm0, wideZ, uI_zero, bne, aFault, *]; done))) | ((first | refine RunQ.call rfl rfl rfl rfl rfl ?_ (b13) ?_ ?_ | refine RunQW.call rfl rfl rfl rfl ?_ (b13) ?_ ?_); (focus (simp [aRes, aBad, act0, Action.enc, Oxm.enc, oxm0, wideZ, uI_zero, bne, aFault, *]; done)))); (focus (simp [aRes, aBad, act0, Action.enc, Oxm.enc, oxm0, wideZ, uI_zero, bne, aFault, *]; done)); refine RunQ.evalH ?_; simp [aRes, aBad, act0, Action.enc, Oxm.enc, oxm0, wideZ, uI_zero, bne, aFault, *])
     | (refine WK.ret Try.func56 ?_ ?_ <;> simp (maxDischargeDepth := 120) [Try.results56, aRes, aBad, act0, Action.enc, Oxm.enc, oxm0, wideZ, uI_zero, bne, aFault, *])
     | fail)
  rw [k2, if_pos rfl] at hn
  cases k3 : o.masked
  · rw [k3, if_neg Bool.false_ne_true] at hn
    repeat' (first
     | refine WK.seq ?_
     | refine WK.block ?_
     | refine WK.inBlock ?_
     | refine WK.skip ?_
     | refine WK.label ?_
     | refine WK.scope ?_
     | refine WK.inScope ?_
     | refine WK.exit rfl ?_
     | refine WK.condT rfl ?_
     | refine WK.condF rfl ?_
     | (refine Hid.h hQ _ _ ?_; clear hQ hA)
     | refine WK.condAny rfl ?_ ?_
     | ((first | refine WK.cond2 rfl (fun h => ?_) (fun h => ?_) | refine Fork.mk (fun h => ?_) (fun h => ?_)) <;> (first | (simp [*] at h; done) | (have h2 := h; simp at h2; exfalso; omega) | (have h2 := h; simp at h2; try simp only [Bool.not_eq_true', Bool.not_eq_false'] at h) | skip))
     | (refine WK.regH Try.ntmps56 (by kernel_rfl) ?_; intro A hA Q hQ; simp [aRes, aBad, act0, Action.enc, Oxm.enc, oxm0, wideZ, uI_zero, bne, aFault, *])
     | (refine RunQ.gd rfl (by rw [hA.h]; rfl) ?_; simp [aRes, aBad, act0, Action.enc, Oxm.enc, oxm0, wideZ, uI_zero, bne, aFault, *])
     | ((first | ((first | refine RunQ.call rfl rfl rfl rfl rfl ?_ (hd) ?_ ?_ | refine RunQW.call rfl rfl rfl rfl ?_ (hd) ?_ ?_); (focus (simp [aRes, aBad, act0, Action.enc, Oxm.enc, oxm0, wideZ, uI_zero, bne, aFault, *]; done))) | ((first | refine RunQ.call rfl rfl rfl rfl rfl ?_ (he) ?_ ?_ | refine RunQW.call rfl rfl rfl rfl ?_ (he) ?_ ?_); (focus (simp [aRes, aBad, act0, Action.enc, Oxm.enc, oxm0, wideZ, uI_zero, bne, aFault, *]; done))) | ((first | refine RunQ.call rfl rfl rfl rfl rfl ?_ (asets_c o.field) ?_ ?_ | refine RunQW.call rfl rfl rfl rfl ?_ (asets_c o.field) ?_ ?_); (focus (simp [aRes, aBad, act0, Action.enc, Oxm.enc, oxm0, wideZ, uI_zero, bne, aFault, *]; done)))); (focus (simp [aRes, aBad, act0, Action.enc, Oxm.enc, oxm0, wideZ, uI_zero, bne, aFault, *]; done)); refine RunQ.evalH ?_; simp [aRes, aBad, act0, Action.enc, Oxm.enc, oxm0, wideZ, uI_zero, bne, aFault, *])
     | (refine WK.ret Try.func56 ?_ ?_ <;> simp (maxDischargeDepth := 120) [Try.results56, aRes, aBad, act0, Action.enc, Oxm.enc, oxm0, wideZ, uI_zero, bne, aFault, *])
     | fail)
  · rw [k3, if_pos rfl] at hn
    repeat' (first
     | refine WK.seq ?_
     | refine WK.block ?_
     | refine WK.inBlock ?_
     | refine WK.skip ?_
     | refine WK.label ?_
     | refine WK.scope ?_
     | refine WK.inScope ?_
     | refine WK.exit rfl ?_
     | refine WK.condT rfl ?_
     | refine WK.condF rfl ?_
     | (refine Hid.h hQ _ _ ?_; clear hQ hA)
     | refine WK.condAny rfl ?_ ?_
     | ((first | refine WK.cond2 rfl (fun h => ?_) (fun h => ?_) | refine Fork.mk (fun h => ?_) (fun h => ?_)) <;> (first | (simp [*] at h; done) | (have h2 := h; simp at h2; exfalso; omega) | (have h2 := h; simp at h2; try simp only [Bool.not_eq_true', Bool.not_eq_false'] at h) | skip))
     | (refine WK.regH Try.ntmps56 (by kernel_rfl) ?_; intro A hA Q hQ; simp [aRes, aBad, act0, Action.enc, Oxm.enc, oxm0, wideZ, uI_zero, bne, aFault, *])
     | (refine RunQ.gd rfl (by rw [hA.h]; rfl) ?_; simp [aRes, aBad, act0, Action.enc, Oxm.enc, oxm0, wideZ, uI_zero, bne, aFault, *])
     | ((first | ((first | refine RunQ.call rfl rfl rfl rfl rfl ?_ (hd) ?_ ?_ | refine RunQW.call rfl rfl rfl rfl ?_ (hd) ?_ ?_); (focus (simp [aRes, aBad, act0, Action.enc, Oxm.enc, oxm0, wideZ, uI_zero, bne, aFault, *]; done))) | ((first | refine RunQ.call rfl rfl rfl rfl rfl ?_ (he) ?_ ?_ | refine RunQW.call rfl rfl rfl rfl ?_ (he) ?_ ?_); (focus (simp [aRes, aBad, act0, Action.enc, Oxm.enc, oxm0, wideZ, uI_zero, bne, aFault, *]; done))) | ((first | refine RunQ.call rfl rfl rfl rfl rfl ?_ (asets_c o.field) ?_ ?_ | refine RunQW.call rfl rfl rfl rfl ?_ (asets_c o.field) ?_ ?_); (focus (simp [aRes, aBad, act0, Action.enc, Oxm.enc, oxm0, wideZ, uI_zero, bne, aFault, *]; done))) | ((first | refine RunQ.call rfl rfl rfl rfl rfl ?_ (b15) ?_ ?_ | refine RunQW.call rfl rfl rfl rfl ?_ (b15) ?_ ?_); (focus (simp [aRes, aBad, act0, Action.enc, Oxm.enc, oxm0, wideZ, uI_zero, bne, aFault, *]; done)))); (focus (simp [aRes, aBad, act0, Action.enc, Oxm.enc, oxm0, wideZ, uI_zero, bne, aFault, *]; done)); refine RunQ.evalH ?_; simp [aRes, aBad, act0, Action.enc, Oxm.enc, oxm0, wideZ, uI_zero, bne, aFault, *])
     | (refine WK.ret Try.func56 ?_ ?_ <;> simp (maxDischargeDepth := 120) [Try.results56, aRes, aBad, act0, Action.enc, Oxm.enc, oxm0, wideZ, uI_zero, bne, aFault, *])
     | fail)
end Go.Proofs.Ytbncoeoamjcjjaa
end
