/- Actions: their bytes. -/
import Derived.Test.YtcccfbjkcahgfaaGreatWk3
import Derived.Test.YtcccfbjkcahgfaaGreatAf
set_option linter.all false
set_option linter.unnecessarySimpa false
section
set_option linter.unusedVariables false
set_option linter.unusedSimpArgs false
namespace Go.Proofs.YtcccfbjkcahgfaaGreat
open Go Go.AI Go.Proofs
attribute [local irreducible] FnP FnO FnB FnT FnSeq WK RunQ RunQW RunX RunXW

set_option maxHeartbeats 4000000 in
theorem oencT_c (o : Oxm) : FnT Tryz.prog 238 [.agg o.enc] (oEnc o).1.length 1 (byL (oEnc o).1) [.int .i64 (oEnc o).2] := by
  have hr := oright_c o
  have hsz := fSize_le o.field
  have hid := (fRow_ok o.field).1
  have hbl := oBody_len o
  have hsh := shl_one o.field
  have p1 := nputP_c [] 32768 2 (by unfold Sz; omega) (by simp)
  rw [show byS [] = .sl false 0 [] from rfl] at p1
  have l1 := putN_len [] 32768 2
  have hbl2 : (oBody o).length ≤ 32 := by rw [hbl]; split <;> omega
  simp only [Oxm.enc] at hr
  cases k : Oxm.right o
  · have e : oEnc o = ([], 1) := by unfold oEnc; rw [k]; rfl
    rw [k] at hr
    rw [e]
    refine FnT.intro Tryz.func238 rfl rfl fun G w => ?_
    repeat (refine WK.seq ?_)
    refine WK.reg 100 Tryz.ntmps238 (by kernel_rfl) ?_
    intro A hA Q hQ
    simp [Oxm.enc]
    refine hQ _ _ ?_
    clear hQ hA
    repeat (refine WK.seq ?_)
    refine WK.ghost (Ghost.frzVar 1 rfl rfl) ?_
    refine WK.reg 200 Tryz.ntmps238 (by kernel_rfl) ?_
    intro A hA Q hQ
    simp
    refine RunQ.call rfl rfl rfl rfl (by rfl) (by simp (maxDischargeDepth := 120)) (hr) (by simp) ?_
    refine RunQ.eval ?_
    simp
    refine hQ _ _ ?_
    clear hQ hA
    refine WK.cond2 rfl (fun h => ?_) (fun h => ?_)
    · repeat (refine WK.seq ?_)
      refine WK.reg 300 Tryz.ntmps238 (by kernel_rfl) ?_
      intro A hA Q hQ
      simp
      refine hQ _ _ ?_
      clear hQ hA
      refine WK.ghost (Ghost.own 2 900 1 rfl rfl) ?_
      refine WK.retT2 Tryz.func238 ?_ ?_ ?_ <;> simp (maxDischargeDepth := 120) [Tryz.results238, byL_nil]
    · cases h
  rw [k] at hr
  have e : oEnc o = (oHead o ++ oBody o, 0) := by unfold oEnc; rw [k]; rfl
  have hor := or_one o.field (right_field k)
  obtain ⟨b1, hb1⟩ : ∃ b1, b1 = putN [] 32768 2 := ⟨_, rfl⟩
  rw [← hb1] at p1 l1
  simp only [List.length_nil, Nat.zero_add] at l1
  have p2 := nputP_c b1 (oNum o) 1 (by unfold Sz; omega) (by omega)
  have l2 := putN_len b1 (oNum o) 1
  have p3 := nput_c (putN b1 (oNum o) 1) (oBody o).length 1 (by unfold Sz; omega) (by omega)
  have eh : oHead o = putN (putN b1 (oNum o) 1) (oBody o).length 1 := by unfold oHead; rw [hb1]
  have l3 := putN_len (putN b1 (oNum o) 1) (oBody o).length 1
  rw [← eh] at p3 l3
  obtain ⟨b2, hb2⟩ : ∃ b2, b2 = putN b1 (oNum o) 1 := ⟨_, rfl⟩
  rw [← hb2] at p2 p3
  have q1 := wputP_c [] o.value (fSize o.field) hsz (by simp)
  rw [show byS [] = .sl false 0 [] from rfl] at q1
  have hf := by_full (oBody o) _ rfl
  have hbd : (oHead o).length + (oBody o).length ≤ 140737488355328 := by omega
  have hT : (byL (oHead o) ++ byL (oBody o)).take ((oHead o).length + (oBody o).length) = byL (oHead o) ++ byL (oBody o) := List.take_of_length_le (by simp)
  rw [e]
  refine FnT.intro Tryz.func238 rfl rfl fun G w => ?_
  repeat (refine WK.seq ?_)
  refine WK.reg 100 Tryz.ntmps238 (by kernel_rfl) ?_
  intro A hA Q hQ
  simp [Oxm.enc]
  refine hQ _ _ ?_
  clear hQ hA
  repeat (refine WK.seq ?_)
  refine WK.ghost (Ghost.frzVar 1 rfl rfl) ?_
  refine WK.reg 200 Tryz.ntmps238 (by kernel_rfl) ?_
  intro A hA Q hQ
  simp
  refine RunQ.call rfl rfl rfl rfl (by rfl) (by simp (maxDischargeDepth := 120)) (hr) (by simp) ?_
  refine RunQ.eval ?_
  simp
  refine hQ _ _ ?_
  clear hQ hA
  refine WK.cond2 rfl (fun h => ?_) (fun h => ?_)
  · cases h
  repeat (first | refine WK.seq ?_ | refine WK.skip ?_)
  refine WK.reg 300 Tryz.ntmps238 (by kernel_rfl) ?_
  intro A hA Q hQ
  simp
  refine RunQ.call rfl rfl rfl rfl (by rfl) (by simp (maxDischargeDepth := 120)) (fsize_c o.field) (by simp) ?_
  refine RunQ.eval ?_
  simp
  refine hQ _ _ ?_
  clear hQ hA
  repeat (refine WK.seq ?_)
  apply WK.cut (⟨(upd (upd J 5 (.sl false (oBody o).length (byL (oBody o)))) 6 (.int .i64 (oNum o))), B0, 0⟩ : St)
  · intro hcut
    simp only [Wide.enc] at q1
    cases m : o.masked
    · have eb : oBody o = wPut [] o.value (fSize o.field) := by unfold oBody; rw [m]; rfl
      have en : oNum o = fID o.field * 2 := by unfold oNum; rw [m]; rfl
      rw [← eb] at q1
      refine WK.reg 400 Tryz.ntmps238 (by kernel_rfl) ?_
      intro A hA Q hQ
      simp
      refine RunQ.call rfl rfl rfl rfl (by rfl) (by simp (maxDischargeDepth := 120)) (q1) (by simp) ?_
      refine RunQ.eval ?_
      simp
      refine hQ _ _ ?_
      clear hQ hA
      repeat (refine WK.seq ?_)
      refine WK.reg 500 Tryz.ntmps238 (by kernel_rfl) ?_
      intro A hA Q hQ
      simp
      refine RunQ.call rfl rfl rfl rfl (by rfl) (by simp (maxDischargeDepth := 120) [hsh]) (fid_c o.field) (by simp [hsh]) ?_
      refine RunQ.eval ?_
      simp [hsh]
      refine hQ _ _ ?_
      clear hQ hA
      repeat (refine WK.seq ?_)
      refine WK.reg 600 Tryz.ntmps238 (by kernel_rfl) ?_
      intro A hA Q hQ
      simp [m]
      refine hQ _ _ ?_
      clear hQ hA
      refine WK.cond2 rfl (fun h => ?_) (fun h => ?_)
      · cases h
      · repeat (first | refine WK.seq ?_ | refine WK.skip ?_)
        refine WK.next (fun n => n) hcut (by repeat (first | exact TmW.nil | refine TmW.upd ?_ (by simp (maxDischargeDepth := 120) [en, byS]))) (by repeat (first | exact BxW.nil | refine BxW.upd ?_ (by simp (maxDischargeDepth := 120) [en, byS]))) (by first | exact InjW.id | exact InjW.nil | exact InjW.one | exact InjW.two (by simp) | exact InjW.three (by simp) (by simp) (by simp))
    · have eb : oBody o = wPut (wPut [] o.value (fSize o.field)) o.mask (fSize o.field) := by unfold oBody; rw [m]; rfl
      have en : oNum o = fID o.field * 2 + 1 := by unfold oNum; rw [m]; rfl
      have l4 := wPut_len [] o.value (fSize o.field) hsz
      have q2 := wputP_c (wPut [] o.value (fSize o.field)) o.mask (fSize o.field) hsz (by rw [l4]; simp; omega)
      rw [← eb] at q2
      simp only [Wide.enc] at q2
      obtain ⟨b4, hb4⟩ : ∃ b4, b4 = wPut [] o.value (fSize o.field) := ⟨_, rfl⟩
      rw [← hb4] at q1 q2
      refine WK.reg 700 Tryz.ntmps238 (by kernel_rfl) ?_
      intro A hA Q hQ
      simp
      refine RunQ.call rfl rfl rfl rfl (by rfl) (by simp (maxDischargeDepth := 120)) (q1) (by simp) ?_
      refine RunQ.eval ?_
      simp
      refine hQ _ _ ?_
      clear hQ hA
      repeat (refine WK.seq ?_)
      refine WK.reg 800 Tryz.ntmps238 (by kernel_rfl) ?_
      intro A hA Q hQ
      simp
      refine RunQ.call rfl rfl rfl rfl (by rfl) (by simp (maxDischargeDepth := 120) [hsh]) (fid_c o.field) (by simp [hsh]) ?_
      refine RunQ.eval ?_
      simp [hsh]
      refine hQ _ _ ?_
      clear hQ hA
      repeat (refine WK.seq ?_)
      refine WK.reg 900 Tryz.ntmps238 (by kernel_rfl) ?_
      intro A hA Q hQ
      simp [m]
      refine hQ _ _ ?_
      clear hQ hA
      refine WK.cond2 rfl (fun h => ?_) (fun h => ?_)
      · repeat (refine WK.seq ?_)
        refine WK.reg 1000 Tryz.ntmps238 (by kernel_rfl) ?_
        intro A hA Q hQ
        simp
        refine RunQ.call rfl rfl rfl rfl (by rfl) (by simp (maxDischargeDepth := 120)) (q2) (by simp) ?_
        refine RunQ.eval ?_
        simp
        refine hQ _ _ ?_
        clear hQ hA
        refine WK.reg 1100 Tryz.ntmps238 (by kernel_rfl) ?_
        intro A hA Q hQ
        simp [hor]
        refine hQ _ _ ?_
        clear hQ hA
        repeat (refine WK.seq ?_)
        refine WK.next (fun n => n) hcut (by repeat (first | exact TmW.nil | refine TmW.upd ?_ (by simp (maxDischargeDepth := 120) [en, byS]))) (by repeat (first | exact BxW.nil | refine BxW.upd ?_ (by simp (maxDischargeDepth := 120) [en, byS]))) (by first | exact InjW.id | exact InjW.nil | exact InjW.one | exact InjW.two (by simp) | exact InjW.three (by simp) (by simp) (by simp))
      · cases h
  refine WK.reg 1200 Tryz.ntmps238 (by kernel_rfl) ?_
  intro A hA Q hQ
  simp
  refine RunQ.call rfl rfl rfl rfl (by rfl) (by simp (maxDischargeDepth := 120)) (p1) (by simp) ?_
  refine RunQ.eval ?_
  simp
  refine RunQ.call rfl rfl rfl rfl (by rfl) (by simp (maxDischargeDepth := 120)) (p2) (by simp) ?_
  refine RunQ.eval ?_
  simp
  refine RunQ.callO 900 rfl rfl rfl (by simp) (by rfl) (by simp (maxDischargeDepth := 120)) (p3) (by simp) (by simp) (by simp) ?_
  refine RunQ.eval ?_
  simp
  refine hQ _ _ ?_
  clear hQ hA
  repeat (refine WK.seq ?_)
  refine WK.reg 1300 Tryz.ntmps238 (by kernel_rfl) ?_
  intro A hA Q hQ
  simp
  refine RunQ.append 901 appByte rfl rfl rfl rfl rfl rfl rfl (by simp [hbd, hf]) rfl (by simp [hbd, hf]) (by simp [hbd, hf]) (by simp [hbd, hf]) (by simp [hbd, hf]) ?_
  refine RunQ.eval ?_
  simp [hbd, hf]
  refine hQ _ _ ?_
  clear hQ hA
  refine WK.retT2 Tryz.func238 ?_ ?_ ?_ <;> simp (maxDischargeDepth := 120) [Tryz.results238, byL_app, hf, hT]

def aBody (a : Action) : List (BitVec 8) := if a.kind = 0 then putN (putN [] a.port 4) a.max 2 else if a.kind = 22 then putN [] a.group 4 else if a.kind = 17 then putN [] a.ether 2 else if a.kind = 25 then (oEnc a.oxm).1 else []
theorem oEnc_len (o : Oxm) : (oEnc o).1.length ≤ 36 := by
  unfold oEnc
  split
  · have h1 := oBody_len o
    have h2 := fSize_le o.field
    have h3 : (oHead o).length ≤ 4 := by
      unfold oHead
      have a1 := putN_len [] 32768 2
      have a2 := putN_len (putN [] 32768 2) (oNum o) 1
      have a3 := putN_len (putN (putN [] 32768 2) (oNum o) 1) (oBody o).length 1
      simp at a1; omega
    simp only [List.length_append]
    have : (oBody o).length ≤ 32 := by rw [h1]; split <;> omega
    omega
  · simp
theorem aBody_len (a : Action) : (aBody a).length ≤ 36 := by
  have h1 := putN_len [] a.port 4
  have h2 := putN_len (putN [] a.port 4) a.max 2
  have h3 := putN_len [] a.group 4
  have h4 := putN_len [] a.ether 2
  have h5 := oEnc_len a.oxm
  simp at h1 h3 h4
  unfold aBody; split
  · omega
  split
  · omega
  split
  · omega
  split
  · omega
  · simp
set_option maxHeartbeats 4000000 in
theorem abody_c (a : Action) : FnO Tryz.prog 244 [.agg a.enc] (aBody a).length 1 (byL (aBody a)) := by
  have p1 := nputP_c [] a.port 4 (by unfold Sz; omega) (by simp)
  have l1 := putN_len [] a.port 4
  simp at l1
  have p2 := nput_c (putN [] a.port 4) a.max 2 (by unfold Sz; omega) (by omega)
  have p3 := nput_c [] a.group 4 (by unfold Sz; omega) (by simp)
  have p4 := nput_c [] a.ether 2 (by unfold Sz; omega) (by simp)
  have p5 := oencT_c a.oxm
  rw [show byS [] = .sl false 0 [] from rfl] at p1 p3 p4
  obtain ⟨k, port, max, group, ether, oxm⟩ := a
  simp only [Oxm.enc] at p1 p2 p3 p4 p5
  by_cases k0 : k = 0
  · subst k0
    have e : aBody ⟨0, port, max, group, ether, oxm⟩ = putN (putN [] port 4) max 2 := rfl
    rw [e]
    refine FnO.intro Tryz.func244 rfl rfl fun G w => ?_
    repeat' (first
     | refine WK.seq ?_
     | refine WK.block ?_
     | refine WK.condT rfl ?_
     | (refine Hid.h hQ _ _ ?_; clear hQ hA)
     | (refine WK.regH Tryz.ntmps244 (by kernel_rfl) ?_; intro A hA Q hQ; simp [Action.enc, *])
     | (refine WK.regX (by kernel_rfl) Tryz.ntmps244 (by kernel_rfl) ?_; intro A hA Q hQ; simp [Action.enc, *])
     | (refine Hid.h hQ _ _ _ (by decide +kernel) ?_; clear hQ hA)
     | (refine RunX.callO 900 rfl rfl rfl rfl ?_ (p2) ?_ ?_ ?_ ?_; (focus (simp (maxDischargeDepth := 120) [Action.enc, *]; done)); (focus (simp [Action.enc, *]; done)); (focus (simp [Action.enc, *]; done)); (focus (simp [Action.enc, *]; done)); refine RunX.evalY ?_; simp [Action.enc, *])
     | (refine RunX.call rfl rfl rfl rfl ?_ (p1) ?_ ?_; (focus (simp (maxDischargeDepth := 120) [Action.enc, *]; done)); (focus (simp [Action.enc, *]; done)); refine RunX.evalY ?_; simp [Action.enc, *])
     | (refine WK.retO Tryz.func244 rfl rfl ?_ ?_ <;> simp (maxDischargeDepth := 120) [Action.enc, *])
     | fail)
  by_cases k1 : k = 22
  · subst k1
    have e : aBody ⟨22, port, max, group, ether, oxm⟩ = putN [] group 4 := rfl
    rw [e]
    refine FnO.intro Tryz.func244 rfl rfl fun G w => ?_
    repeat' (first
     | refine WK.seq ?_
     | refine WK.block ?_
     | refine WK.condT rfl ?_
     | refine WK.condF rfl ?_
     | (refine Hid.h hQ _ _ ?_; clear hQ hA)
     | (refine WK.regH Tryz.ntmps244 (by kernel_rfl) ?_; intro A hA Q hQ; simp [Action.enc, *])
     | (refine RunQ.callO 900 rfl rfl rfl rfl rfl ?_ (p3) ?_ ?_ ?_ ?_; (focus (simp (maxDischargeDepth := 120) [Action.enc, *]; done)); (focus (simp [Action.enc, *]; done)); (focus (simp [Action.enc, *]; done)); (focus (simp [Action.enc, *]; done)); refine RunQ.evalH ?_; simp [Action.enc, *])
     | (refine WK.retO Tryz.func244 rfl rfl ?_ ?_ <;> simp (maxDischargeDepth := 120) [Action.enc, *])
     | fail)
  by_cases k2 : k = 17
  · subst k2
    have e : aBody ⟨17, port, max, group, ether, oxm⟩ = putN [] ether 2 := rfl
    rw [e]
    refine FnO.intro Tryz.func244 rfl rfl fun G w => ?_
    repeat' (first
     | refine WK.seq ?_
     | refine WK.block ?_
     | refine WK.condT rfl ?_
     | refine WK.condF rfl ?_
     | (refine Hid.h hQ _ _ ?_; clear hQ hA)
     | (refine WK.regH Tryz.ntmps244 (by kernel_rfl) ?_; intro A hA Q hQ; simp [Action.enc, *])
     | (refine RunQ.callO 900 rfl rfl rfl rfl rfl ?_ (p4) ?_ ?_ ?_ ?_; (focus (simp (maxDischargeDepth := 120) [Action.enc, *]; done)); (focus (simp [Action.enc, *]; done)); (focus (simp [Action.enc, *]; done)); (focus (simp [Action.enc, *]; done)); refine RunQ.evalH ?_; simp [Action.enc, *])
     | (refine WK.retO Tryz.func244 rfl rfl ?_ ?_ <;> simp (maxDischargeDepth := 120) [Action.enc, *])
     | fail)
  by_cases k4 : k = 25
  · subst k4
    have e : aBody ⟨25, port, max, group, ether, oxm⟩ = (oEnc oxm).1 := rfl
    rw [e]
    refine FnO.intro Tryz.func244 rfl rfl fun G w => ?_
    repeat' (first
     | refine WK.seq ?_
     | refine WK.block ?_
     | refine WK.condT rfl ?_
     | refine WK.condF rfl ?_
     | (refine Hid.h hQ _ _ ?_; clear hQ hA)
     | (refine WK.regH Tryz.ntmps244 (by kernel_rfl) ?_; intro A hA Q hQ; simp [Action.enc, *])
     | (refine RunQ.callT 900 rfl rfl rfl rfl rfl ?_ (p5) ?_ ?_ ?_ ?_ ?_; (focus (simp (maxDischargeDepth := 120) [Action.enc, *]; done)); (focus (simp [Action.enc, *]; done)); (focus (simp [Action.enc, *]; done)); (focus (simp [Action.enc, *]; done)); (focus (simp [Action.enc, *]; done)); refine RunQ.evalH ?_; simp [Action.enc, *])
     | (refine WK.retO Tryz.func244 rfl rfl ?_ ?_ <;> simp (maxDischargeDepth := 120) [Action.enc, *])
     | fail)
  · have e : aBody ⟨k, port, max, group, ether, oxm⟩ = [] := by unfold aBody; rw [if_neg k0, if_neg k1, if_neg k2, if_neg k4]
    rw [e]
    refine FnO.intro Tryz.func244 rfl rfl fun G w => ?_
    repeat' (first
     | refine WK.seq ?_
     | refine WK.block ?_
     | refine WK.inBlock ?_
     | refine WK.skip ?_
     | (refine Hid.h hQ _ _ ?_; clear hQ hA)
     | (refine WK.cond2 rfl (fun h => ?_) (fun h => ?_) <;> (first | (simp [*] at h; done) | (have h2 := h; simp at h2; exfalso; omega) | (have h2 := h; simp at h2; try simp only [Bool.not_eq_true', Bool.not_eq_false'] at h) | skip))
     | (refine WK.regH Tryz.ntmps244 (by kernel_rfl) ?_; intro A hA Q hQ; simp [Action.enc, *])
     | fail)
    refine WK.ghost (Ghost.own 2 900 1 rfl rfl) ?_
    refine WK.retO Tryz.func244 (by rfl) (by rfl) (by simp (maxDischargeDepth := 120) [byL_nil]) (by simp [byL_nil])
end Go.Proofs.YtcccfbjkcahgfaaGreat
end

section
set_option linter.unusedVariables false
set_option linter.unusedSimpArgs false
namespace Go.Proofs.YtcccfbjkcahgfaaGreat
open Go Go.AI Go.Proofs
attribute [local irreducible] FnP FnO FnB FnT FnSeq WK RunQ RunQW RunX RunXW

def aLen (n : Nat) : Nat := if 8 < (4 + n + 7) / 8 * 8 then (4 + n + 7) / 8 * 8 else 8
def aPad (a : Action) : List (BitVec 8) := aBody a ++ List.replicate (aLen (aBody a).length - 4 - (aBody a).length) 0#8
def aEnc (a : Action) : List (BitVec 8) × Int := if Action.right a = true then (putN (putN [] a.kind 2) (aLen (aBody a).length : Nat) 2 ++ aPad a, 0) else ([], 1)
theorem aLen_ge (n : Nat) : 4 + n ≤ aLen n ∧ 8 ≤ aLen n := by unfold aLen; split <;> omega
theorem aLen_le (n : Nat) (h : n ≤ 36) : aLen n ≤ 48 := by unfold aLen; split <;> omega
theorem aPad_len (a : Action) : 4 + (aPad a).length = aLen (aBody a).length := by
  have := aLen_ge (aBody a).length
  simp only [aPad, List.length_append, List.length_replicate]; omega
theorem byL_rep (n : Nat) : List.replicate n (AV.int .u8 0) = byL (List.replicate n 0#8) := by simp [byL, bI]
theorem bNot7_all : ∀ n : Fin 64, bNot .i64 (n.val : Int) 7 = ((n.val / 8 * 8 : Nat) : Int) := by decide +kernel
theorem bNot7 (n : Nat) (h : n < 64) : bNot .i64 (n : Int) 7 = ((n / 8 * 8 : Nat) : Int) := bNot7_all ⟨n, h⟩
set_option maxHeartbeats 4000000 in
theorem aenc_c (a : Action) : FnT Tryz.prog 243 [.agg a.enc] (aEnc a).1.length 1 (byL (aEnc a).1) [.int .i64 (aEnc a).2] := by
  have hr := aright_c a
  cases k : Action.right a
  · have e : aEnc a = ([], 1) := by unfold aEnc; rw [k, if_neg Bool.false_ne_true]
    rw [k] at hr
    rw [e]
    refine FnT.intro Tryz.func243 rfl rfl fun G w => ?_
    repeat' (first
     | refine WK.seq ?_
     | refine WK.condT rfl ?_
     | (refine Hid.h hQ _ _ ?_; clear hQ hA)
     | (refine WK.regH Tryz.ntmps243 (by kernel_rfl) ?_; intro A hA Q hQ; simp [*])
     | (refine RunQ.call rfl rfl rfl rfl rfl ?_ (hr) ?_ ?_; (focus (simp (maxDischargeDepth := 120) [*]; done)); (focus (simp [*]; done)); refine RunQ.evalH ?_; simp [*])
     | fail)
    refine WK.ghost (Ghost.own 2 900 1 rfl rfl) ?_
    refine WK.retT2 Tryz.func243 ?_ ?_ ?_ <;> simp (maxDischargeDepth := 120) [Tryz.results243, byL_nil]
  have e : aEnc a = (putN (putN [] a.kind 2) (aLen (aBody a).length : Nat) 2 ++ aPad a, 0) := by unfold aEnc; rw [k, if_pos rfl]
  rw [k] at hr
  have hb := abody_c a
  have hl := aBody_len a
  have hpl := aPad_len a
  have hep : aPad a = aBody a ++ List.replicate (aLen (aBody a).length - 4 - (aBody a).length) 0#8 := rfl
  have hle := aLen_le _ hl
  have hge := aLen_ge (aBody a).length
  have hdef : aLen (aBody a).length = if 8 < (4 + (aBody a).length + 7) / 8 * 8 then (4 + (aBody a).length + 7) / 8 * 8 else 8 := rfl
  have p1 := nputP_c [] a.kind 2 (by unfold Sz; omega) (by simp)
  have l1 := putN_len [] a.kind 2
  simp only [List.length_nil, Nat.zero_add] at l1
  have p2 := nput_c (putN [] a.kind 2) (aLen (aBody a).length : Nat) 2 (by unfold Sz; omega) (by omega)
  have l2 := putN_len (putN [] a.kind 2) (aLen (aBody a).length : Nat) 2
  rw [show byS [] = .sl false 0 [] from rfl] at p1
  obtain ⟨B, hB⟩ : ∃ B, aBody a = B := ⟨_, rfl⟩
  rw [hB] at hb hl hpl hep hle hge hdef p2 l2 e
  obtain ⟨n, hn⟩ : ∃ n, aLen B.length = n := ⟨_, rfl⟩
  rw [hn] at hpl hep hle hge hdef p2 l2 e
  have q1 : IntKind.i64.wrap (4 + (B.length : Int)) = ((4 + B.length : Nat) : Int) := by rw [wrap_i64 (by omega) (by omega)]; omega
  have q2 : IntKind.i64.wrap (((4 + B.length : Nat) : Int) + 7) = ((4 + B.length + 7 : Nat) : Int) := by rw [wrap_i64 (by omega) (by omega)]; omega
  have q3 := bNot7 (4 + B.length + 7) (by omega)
  obtain ⟨x1, hx1⟩ : ∃ x1, 4 + B.length = x1 := ⟨_, rfl⟩
  rw [hx1] at q1 q2 q3 hdef hge
  obtain ⟨x2, hx2⟩ : ∃ x2, x1 + 7 = x2 := ⟨_, rfl⟩
  rw [hx2] at q2 q3 hdef
  obtain ⟨x3, hx3⟩ : ∃ x3, x2 / 8 * 8 = x3 := ⟨_, rfl⟩
  rw [hx3] at q3 hdef
  have q4 : (if (8 : Int) < (x3 : Int) then (x3 : Int) else 8) = (n : Int) := by rw [hdef]; split <;> split <;> omega
  have q4' : (if (x3 : Int) < 8 then (8 : Int) else (x3 : Int)) = (n : Int) := by rw [hdef]; split <;> split <;> omega
  have q5 : IntKind.i64.wrap ((n : Int) - 4) = ((n - 4 : Nat) : Int) := by rw [wrap_i64 (by omega) (by omega)]; omega
  obtain ⟨n4, hn4⟩ : ∃ n4, n - 4 = n4 := ⟨_, rfl⟩
  rw [hn4] at q5 hep
  have q6 : IntKind.i64.wrap ((n4 : Int) - (B.length : Int)) = ((n4 - B.length : Nat) : Int) := by rw [wrap_i64 (by omega) (by omega)]; omega
  obtain ⟨m, hm⟩ : ∃ m, n4 - B.length = m := ⟨_, rfl⟩
  rw [hm] at q6 hep
  have hbd1 : (B.length + m) * 1 ≤ 140737488355328 := by omega
  have hbd2 : ((putN (putN [] a.kind 2) (n : Int) 2).length + (B.length + m)) ≤ 140737488355328 := by omega
  have hz := byL_rep m
  have hf : byL B ++ byL (List.replicate m 0#8) = byL (aPad a) := by rw [← byL_app, hep]
  have hk0 : a.enc[0]? = some (.int .i64 a.kind) := rfl
  have hpl2 : (aPad a).length = B.length + m := by rw [hep]; simp
  rw [e]
  clear hep hB hn hx1 hx2 hx3 hn4 hm hdef hpl hl hle hge l1 l2
  refine FnT.intro Tryz.func243 rfl rfl fun G w => ?_
  repeat' (first
   | refine WK.seq ?_
   | refine WK.skip ?_
   | refine WK.condF rfl ?_
   | (refine Hid.h hQ _ _ ?_; clear hQ hA)
   | (refine WK.regH Tryz.ntmps243 (by kernel_rfl) ?_; intro A hA Q hQ; simp [q1, q2, q3, q4, q4', q5, q6, *])
   | (refine RunQ.callO 900 rfl rfl rfl rfl rfl ?_ (hb) ?_ ?_ ?_ ?_; (focus (simp (maxDischargeDepth := 120) [q1, q2, q3, q4, q4', q5, q6, *]; done)); (focus (simp [q1, q2, q3, q4, q4', q5, q6, *]; done)); (focus (simp [q1, q2, q3, q4, q4', q5, q6, *]; done)); (focus (simp [q1, q2, q3, q4, q4', q5, q6, *]; done)); refine RunQ.evalH ?_; simp [q1, q2, q3, q4, q4', q5, q6, *])
   | (refine RunQ.callO 901 rfl rfl rfl rfl rfl ?_ (p2) ?_ ?_ ?_ ?_; (focus (simp (maxDischargeDepth := 120) [q1, q2, q3, q4, q4', q5, q6, *]; done)); (focus (simp [q1, q2, q3, q4, q4', q5, q6, *]; done)); (focus (simp [q1, q2, q3, q4, q4', q5, q6, *]; done)); (focus (simp [q1, q2, q3, q4, q4', q5, q6, *]; done)); refine RunQ.evalH ?_; simp [q1, q2, q3, q4, q4', q5, q6, *])
   | (refine RunQ.appendZ (m := m) (kk := .i64) (zv := .int .u8 0) 902 appByte rfl rfl rfl rfl (by simp) (by simp) rfl ?_ rfl rfl rfl ?_ ?_ ?_ ?_; (focus (simp (maxDischargeDepth := 120) [q1, q2, q3, q4, q4', q5, q6, *]; done)); (focus (first | omega | (simp [q1, q2, q3, q4, q4', q5, q6, *]; done); done)); (focus (first | omega | (simp [q1, q2, q3, q4, q4', q5, q6, *]; done); done)); (focus (simp [q1, q2, q3, q4, q4', q5, q6, *]; done)); refine RunQ.evalH ?_; simp [q1, q2, q3, q4, q4', q5, q6, *])
   | (refine RunQ.appendFz 903 appByte rfl rfl rfl rfl rfl rfl rfl rfl rfl rfl ?_ ?_ ?_ ?_ ?_ ?_; (focus (first | omega | (simp [q1, q2, q3, q4, q4', q5, q6, *]; done); done)); (focus (first | omega | (simp [q1, q2, q3, q4, q4', q5, q6, *]; done); done)); (focus (first | omega | (simp [q1, q2, q3, q4, q4', q5, q6, *]; done); done)); (focus (simp [q1, q2, q3, q4, q4', q5, q6, *]; done)); (focus (simp [q1, q2, q3, q4, q4', q5, q6, *]; done)); refine RunQ.evalH ?_; simp [q1, q2, q3, q4, q4', q5, q6, *])
   | (refine RunQ.call rfl rfl rfl rfl rfl ?_ (hr) ?_ ?_; (focus (simp (maxDischargeDepth := 120) [q1, q2, q3, q4, q4', q5, q6, *]; done)); (focus (simp [q1, q2, q3, q4, q4', q5, q6, *]; done)); refine RunQ.evalH ?_; simp [q1, q2, q3, q4, q4', q5, q6, *])
   | (refine RunQ.call rfl rfl rfl rfl rfl ?_ (p1) ?_ ?_; (focus (simp (maxDischargeDepth := 120) [q1, q2, q3, q4, q4', q5, q6, *]; done)); (focus (simp [q1, q2, q3, q4, q4', q5, q6, *]; done)); refine RunQ.evalH ?_; simp [q1, q2, q3, q4, q4', q5, q6, *])
   | (refine WK.retT2 Tryz.func243 ?_ ?_ ?_ <;> simp (maxDischargeDepth := 120) [Tryz.results243, q1, q2, q3, q4, q4', q5, q6, byL_app, *])
   | fail)
end Go.Proofs.YtcccfbjkcahgfaaGreat
end

section
set_option linter.unusedVariables false
set_option linter.unusedSimpArgs false
namespace Go.Proofs.YtcccfbjkcahgfaaGreat
open Go Go.AI Go.Proofs
attribute [local irreducible] FnP FnO FnB FnT FnSeq WK RunQ RunQW RunX RunXW

theorem putN_ok {b : List (BitVec 8)} {n : Int} {s : Nat} (h : numOk n s = true) : (putN b n s).length = b.length + s := by
  unfold putN; rw [h, if_pos rfl, List.length_append, beN_len]
/-- what is known of an action that may be, by its kind -/
theorem right_cases {a : Action} (h : Action.right a = true) : (a.kind = 0 ∧ numOk a.port 4 = true ∧ numOk a.max 2 = true) ∨ (a.kind = 22 ∧ numOk a.group 4 = true) ∨ (a.kind = 17 ∧ numOk a.ether 2 = true) ∨
    a.kind = 18 ∨ (a.kind = 25 ∧ Oxm.right a.oxm = true) := by
  unfold Action.right Action.fine at h
  rw [Bool.and_eq_true] at h
  obtain ⟨h, _⟩ := h
  unfold aGoes aMost at h
  unfold numOk
  split at h
  · rename_i k; left
    simp only [Bool.and_eq_true, Bool.or_eq_true, decide_eq_true_eq, beq_iff_eq] at h ⊢
    refine ⟨k, ?_, ?_⟩ <;> omega
  split at h
  · rename_i k; right; left
    simp only [Bool.and_eq_true, Bool.or_eq_true, decide_eq_true_eq, beq_iff_eq] at h ⊢
    refine ⟨k, ?_⟩; omega
  split at h
  · rename_i k; right; right; left
    simp only [Bool.and_eq_true, Bool.or_eq_true, decide_eq_true_eq, beq_iff_eq] at h ⊢
    refine ⟨k, ?_⟩; omega
  split at h
  · rename_i k; exact .inr (.inr (.inr (.inl k)))
  split at h
  · rename_i k; right; right; right; right
    simp only [Bool.and_eq_true] at h
    exact ⟨k, h.1⟩
  · cases h
theorem oEnc_ge {o : Oxm} (h : Oxm.right o = true) : 5 ≤ (oEnc o).1.length := by
  have hf := right_field h
  have hs : 1 ≤ fSize o.field := by
    unfold fRight at hf
    rw [Bool.and_eq_true, decide_eq_true_eq, decide_eq_true_eq] at hf
    unfold fSize fBits fRow
    rw [if_pos ⟨hf.1, hf.2⟩]
    have hl : o.field.toNat < fRows.length := by show o.field.toNat < 24; omega
    have : ∀ r, r ∈ fRows → 2 ≤ r.2.1 := by decide
    have := this _ (nth_mem hl)
    omega
  have hid : 0 ≤ oNum o ∧ oNum o < 256 := by
    have hp : 0 ≤ fID o.field ∧ fID o.field ≤ 34 := by
      unfold fRight at hf
      rw [Bool.and_eq_true, decide_eq_true_eq, decide_eq_true_eq] at hf
      unfold fID fRow
      rw [if_pos ⟨hf.1, hf.2⟩]
      have hl : o.field.toNat < fRows.length := by show o.field.toNat < 24; omega
      have : ∀ r, r ∈ fRows → 0 ≤ r.1 ∧ r.1 ≤ 34 := by decide
      exact this _ (nth_mem hl)
    unfold oNum; split <;> omega
  have hbl := oBody_len o
  have h16 := fSize_le o.field
  have hb : (oBody o).length ≤ 32 ∧ 1 ≤ (oBody o).length := by rw [hbl]; split <;> omega
  have a1 : (putN [] 32768 2).length = 2 := putN_ok (b := []) (n := 32768) (s := 2) rfl
  have a2 : (putN (putN [] 32768 2) (oNum o) 1).length = 3 := by rw [putN_ok (by unfold numOk; simp; omega), a1]
  have a3 : (oHead o).length = 4 := by unfold oHead; rw [putN_ok (by unfold numOk; simp; omega), a2]
  unfold oEnc; rw [if_pos h]; simp only [List.length_append]; omega
end Go.Proofs.YtcccfbjkcahgfaaGreat
end

section
set_option linter.unusedVariables false
set_option linter.unusedSimpArgs false
namespace Go.Proofs.YtcccfbjkcahgfaaGreat
open Go Go.AI Go.Proofs
attribute [local irreducible] FnP FnO FnB FnT FnSeq WK RunQ RunQW RunX RunXW

theorem Sz4 : Sz 4 := .inr (.inr rfl)
theorem Sz2 : Sz 2 := .inr (.inl rfl)
theorem Sz1 : Sz 1 := .inl rfl
end Go.Proofs.YtcccfbjkcahgfaaGreat
end

section
set_option linter.unusedVariables false
set_option linter.unusedSimpArgs false
namespace Go.Proofs.YtcccfbjkcahgfaaGreat
open Go Go.AI Go.Proofs
attribute [local irreducible] FnP FnO FnB FnT FnSeq WK RunQ RunQW RunX RunXW

theorem indexf_by (fid : Nat) (caps : List AV) (p : BitVec 8 → Bool) (l : List (BitVec 8)) (hcl : ClL caps = true) (hl : l.length ≤ 9223372036854775807)
    (hf : ∀ x, x ∈ l → FnP Tryz.prog fid (.int .u8 (bI x) :: caps) (.bool (p x))) :
    FnP Tryz.prog 165 [byS l, .fn fid caps] (.int .i64 (idxI p l)) := by
  unfold byS
  refine FnP.intro Tryz.func165 rfl rfl fun G w => ?_
  repeat' (first
   | refine WK.seq ?_
   | refine WK.block ?_
   | (refine Hid.h hQ _ _ ?_; clear hQ hA)
   | (refine WK.regH Tryz.ntmps165 (by kernel_rfl) ?_; intro A hA Q hQ; simp [*])
   | fail)
  refine WK.loopI (fun n => n) (fun i : Nat => (⟨(upd (upd (upd (upd J 0 (.sl false l.length (byL l))) 1 (.fn fid caps)) 7 (.int .i64 l.length)) 8 (.int .i64 i)), B0, 0⟩ : St)) (fun i => i ≤ l.length ∧ ∀ j, j < i → p (nth l j) = false) (fun i => l.length - i) (0) (by repeat (first | exact TmW.nil | refine TmW.upd ?_ (by simp (maxDischargeDepth := 120) [hcl]))) (by repeat (first | exact BxW.nil | refine BxW.upd ?_ (by simp (maxDischargeDepth := 120) [hcl]))) (by first | exact InjW.id | exact InjW.nil | exact InjW.one | exact InjW.two (by simp) | exact InjW.three (by simp) (by simp) (by simp)) (⟨by omega, by simp⟩) (fun i hi IH => ?_)
  by_cases h1 : i < l.length
  · have h4 := by_get l i h1
    have h6 : IntKind.i64.wrap ((i : Int) + 1) = i + 1 := wrap_i64 (by omega) (by omega)
    have hc := hf (nth l i) (nth_mem h1)
    cases h5 : p (nth l i)
    · repeat' (first
       | refine WK.seq ?_
       | refine WK.block ?_
       | refine WK.inBlock ?_
       | refine WK.skip ?_
       | refine WK.condT rfl ?_
       | refine WK.condF rfl ?_
       | (refine Hid.h hQ _ _ ?_; clear hQ hA)
       | (refine WK.regH Tryz.ntmps165 (by kernel_rfl) ?_; intro A hA Q hQ; simp [*])
       | (refine RunQ.call rfl rfl rfl rfl rfl ?_ (hc) ?_ ?_; (focus (simp (maxDischargeDepth := 120) [*]; done)); (focus (simp [*]; done)); refine RunQ.evalH ?_; simp [*])
       | fail)
      refine WK.next (fun n => n) (IH (i + 1) (⟨by omega, fun j hj => by by_cases h7 : j = i; (subst h7; exact h5); exact hi.2 j (by omega)⟩) (by first | omega | (dsimp only; omega))) (by repeat (first | exact TmW.nil | refine TmW.upd ?_ (by simp (maxDischargeDepth := 120) [hcl]))) (by repeat (first | exact BxW.nil | refine BxW.upd ?_ (by simp (maxDischargeDepth := 120) [hcl]))) (by first | exact InjW.id | exact InjW.nil | exact InjW.one | exact InjW.two (by simp) | exact InjW.three (by simp) (by simp) (by simp))
    · have e := idxI_some h1 h5 hi.2
      repeat' (first
       | refine WK.seq ?_
       | refine WK.block ?_
       | refine WK.skip ?_
       | refine WK.condT rfl ?_
       | (refine Hid.h hQ _ _ ?_; clear hQ hA)
       | (refine WK.regH Tryz.ntmps165 (by kernel_rfl) ?_; intro A hA Q hQ; simp [*])
       | (refine RunQ.call rfl rfl rfl rfl rfl ?_ (hc) ?_ ?_; (focus (simp (maxDischargeDepth := 120) [*]; done)); (focus (simp [*]; done)); refine RunQ.evalH ?_; simp [*])
       | (refine WK.ret Tryz.func165 ?_ ?_ <;> simp (maxDischargeDepth := 120) [Tryz.results165, *])
       | fail)
  · have e := idxI_none (p := p) (l := l) (fun j hj => hi.2 j (by omega))
    repeat' (first
     | refine WK.seq ?_
     | refine WK.exit rfl ?_
     | refine WK.condF rfl ?_
     | (refine Hid.h hQ _ _ ?_; clear hQ hA)
     | (refine WK.regH Tryz.ntmps165 (by kernel_rfl) ?_; intro A hA Q hQ; simp [*])
     | (refine WK.ret Tryz.func165 ?_ ?_ <;> simp (maxDischargeDepth := 120) [Tryz.results165, *])
     | fail)
theorem containsf_by (fid : Nat) (caps : List AV) (p : BitVec 8 → Bool) (l : List (BitVec 8)) (hcl : ClL caps = true) (hl : l.length ≤ 9223372036854775807)
    (hf : ∀ x, x ∈ l → FnP Tryz.prog fid (.int .u8 (bI x) :: caps) (.bool (p x))) :
    FnP Tryz.prog 131 [byS l, .fn fid caps] (.bool (l.any p)) := by
  have e := idxI_ge p l
  simp only [ge_iff_le] at e
  have hi := indexf_by fid caps p l hcl hl hf
  refine FnP.intro Tryz.func131 rfl rfl fun G w => ?_
  repeat' (first
   | refine WK.seq ?_
   | (refine Hid.h hQ _ _ ?_; clear hQ hA)
   | (refine WK.regH Tryz.ntmps131 (by kernel_rfl) ?_; intro A hA Q hQ; simp [*])
   | (refine RunQ.call rfl rfl rfl rfl rfl ?_ (hi) ?_ ?_; (focus (simp (maxDischargeDepth := 120) [*]; done)); (focus (simp [*]; done)); refine RunQ.evalH ?_; simp [*])
   | (refine WK.ret Tryz.func131 ?_ ?_ <;> simp (maxDischargeDepth := 120) [Tryz.results131, *])
   | fail)
def allZ (b : List (BitVec 8)) : Bool := b.all fun x => x == 0#8
theorem bI_zero (x : BitVec 8) : (bI x == 0) = (x == 0#8) := by
  rw [Bool.eq_iff_iff, beq_iff_eq, beq_iff_eq]
  unfold bI
  constructor
  · intro h; exact BitVec.eq_of_toNat_eq (by simp; omega)
  · intro h; subst h; rfl
theorem empty1_c (x : BitVec 8) : FnP Tryz.prog 208 [.int .u8 (bI x)] (.bool (!(x == 0#8))) := by
  have e := bI_zero x
  refine FnP.intro Tryz.func208 rfl rfl fun G w => ?_
  repeat' (first
   | refine WK.seq ?_
   | (refine Hid.h hQ _ _ ?_; clear hQ hA)
   | (refine WK.regH Tryz.ntmps208 (by kernel_rfl) ?_; intro A hA Q hQ; simp [bne, *])
   | (refine WK.ret Tryz.func208 ?_ ?_ <;> simp (maxDischargeDepth := 120) [Tryz.results208, bne, *])
   | fail)
theorem aempty_c (b : List (BitVec 8)) (hb : b.length ≤ 9223372036854775807) : FnP Tryz.prog 204 [byS b] (.bool (allZ b)) := by
  have h := containsf_by 208 [] (fun x => !(x == 0#8)) b rfl hb (fun x _ => empty1_c x)
  have e : allZ b = !(b.any fun x => !(x == 0#8)) := by unfold allZ; rw [List.any_eq_not_all_not]; simp
  rw [e]
  refine FnP.intro Tryz.func204 rfl rfl fun G w => ?_
  repeat' (first
   | refine WK.seq ?_
   | (refine Hid.h hQ _ _ ?_; clear hQ hA)
   | (refine WK.regH Tryz.ntmps204 (by kernel_rfl) ?_; intro A hA Q hQ; simp [*])
   | (refine RunQ.call rfl rfl rfl rfl rfl ?_ (h) ?_ ?_; (focus (simp (maxDischargeDepth := 120) [*]; done)); (focus (simp [*]; done)); refine RunQ.evalH ?_; simp [*])
   | (refine WK.ret Tryz.func204 ?_ ?_ <;> simp (maxDischargeDepth := 120) [Tryz.results204, *])
   | fail)
end Go.Proofs.YtcccfbjkcahgfaaGreat
end

section
set_option linter.unusedVariables false
set_option linter.unusedSimpArgs false
namespace Go.Proofs.YtcccfbjkcahgfaaGreat
open Go Go.AI Go.Proofs
attribute [local irreducible] FnP FnO FnB FnT FnSeq WK RunQ RunQW RunX RunXW

theorem bNot7b_all : ∀ n : Fin 512, bNot .i64 (n.val : Int) 7 = ((n.val / 8 * 8 : Nat) : Int) := by decide +kernel
theorem bNot7b (n : Nat) (h : n < 512) : bNot .i64 (n : Int) 7 = ((n / 8 * 8 : Nat) : Int) := bNot7b_all ⟨n, h⟩
theorem bAnd7 (n : Nat) (h : n < 65536) : bAnd .i64 (n : Int) 7 = ((n % 8 : Nat) : Int) := by
  unfold bAnd
  show IntKind.wrap .i64 (((BitVec.ofInt 64 (n : Int) &&& BitVec.ofInt 64 7).toNat : Nat) : Int) = _
  rw [show BitVec.ofInt 64 (n : Int) = BitVec.ofNat 64 n from by rw [← BitVec.ofInt_natCast], show BitVec.ofInt 64 7 = BitVec.ofNat 64 7 from rfl, BitVec.toNat_and, BitVec.toNat_ofNat, BitVec.toNat_ofNat, Nat.mod_eq_of_lt (by omega), Nat.mod_eq_of_lt (by omega)]
  have e3 : n &&& 7 = n % 8 := Nat.and_two_pow_sub_one_eq_mod n 3
  rw [e3, wrap_i64 (by omega) (by omega)]
def aBad (c : Int) : Action × Int × Option Int := (act0, 0, some c)
def aFault : Option Int → List AV
  | none => [.bool false, .int .i64 0, .int .i64 0]
  | some c => [.bool true, .int .i64 2, .int .i64 c]
def aRes (r : Action × Int × Option Int) : AV := .tup [.agg r.1.enc, .int .i64 r.2.1, .agg (aFault r.2.2)]
@[simp] theorem aFault_cl (c : Option Int) : ClL (aFault c) = true := by cases c <;> rfl
@[simp] theorem aRes_cl (r : Action × Int × Option Int) : Cl (aRes r) = true := by simp [aRes, Cl, ClL]
theorem abad_c (c : Int) : FnP Tryz.prog 201 [.int .i64 c] (aRes (aBad c)) := by
  refine FnP.intro Tryz.func201 rfl rfl fun G w => ?_
  repeat' (first
   | refine WK.seq ?_
   | (refine Hid.h hQ _ _ ?_; clear hQ hA)
   | (refine WK.regH Tryz.ntmps201 (by kernel_rfl) ?_; intro A hA Q hQ; simp [*])
   | (refine WK.ret Tryz.func201 ?_ ?_ <;> simp (maxDischargeDepth := 120) [Tryz.results201, aRes, aBad, aFault, act0, Action.enc, oxm0, wideZ, uI_zero, *])
   | fail)
def aLength (k : Int) : Nat × Nat := if k = 0 then (16, 10) else if k = 22 then (8, 8) else if k = 17 then (8, 6) else if k = 18 then (8, 4) else (0, 0)
theorem alength_c (k : Int) : FnP Tryz.prog 203 [.int .i64 k] (.tup [.int .i64 ((aLength k).1 : Int), .int .i64 ((aLength k).2 : Int)]) := by
  refine FnP.intro Tryz.func203 rfl rfl fun G w => ?_
  repeat' (first
   | refine WK.seq ?_
   | refine WK.block ?_
   | refine WK.inBlock ?_
   | refine WK.skip ?_
   | (refine Hid.h hQ _ _ ?_; clear hQ hA)
   | (refine WK.cond2 rfl (fun h => ?_) (fun h => ?_) <;> (first | (simp [*] at h; done) | (have h2 := h; simp at h2; exfalso; omega) | (have h2 := h; simp at h2; try simp only [Bool.not_eq_true', Bool.not_eq_false'] at h) | skip))
   | (refine WK.regH Tryz.ntmps203 (by kernel_rfl) ?_; intro A hA Q hQ; simp [*])
   | (refine WK.ret Tryz.func203 ?_ ?_ <;> simp (maxDischargeDepth := 120) [Tryz.results203, aLength, *])
   | fail)
def aOf (k : Int) (b : List (BitVec 8)) : Action := if k = 0 then ⟨0, (getN b 4 4).1, (getN b 8 2).1, 0, 0, oxm0⟩ else if k = 22 then ⟨22, 0, 0, (getN b 4 4).1, 0, oxm0⟩ else if k = 17 then ⟨17, 0, 0, 0, (getN b 4 2).1, oxm0⟩ else ⟨k, 0, 0, 0, 0, oxm0⟩
def aPlain (k : Int) (b : List (BitVec 8)) : Action × Int × Option Int :=
  if k = 0 ∧ aGoes (getN b 4 4).1 = false then aBad 4 else if Action.right (aOf k b) = true then (aOf k b, b.length, none) else aBad (if k = 22 then 9 else 5)
set_option maxHeartbeats 4000000 in
theorem aplain_c (k : Int) (b : List (BitVec 8)) (hb : b.length ≤ 9223372036854775807) : FnP Tryz.prog 205 [.int .i64 k, byS b] (aRes (aPlain k b)) := by
  have hr := aright_c (aOf k b)
  have g1 := nget_c b 4 4 Sz4 hb (by omega)
  have g2 := nget_c b 8 2 Sz2 hb (by omega)
  have g3 := nget_c b 4 2 Sz2 hb (by omega)
  have b4 := abad_c 4
  have b5 := abad_c 5
  have b9 := abad_c 9
  obtain ⟨r, hre⟩ : ∃ r, Action.right (aOf k b) = r := ⟨_, rfl⟩
  rw [hre] at hr
  unfold byS at *
  by_cases k0 : k = 0
  · subst k0
    cases hg : aGoes (getN b 4 4).1
    · have e : aPlain 0 b = aBad 4 := by unfold aPlain; rw [if_pos ⟨rfl, hg⟩]
      clear hr hre
      refine FnP.intro Tryz.func205 rfl rfl fun G w => ?_
      repeat' (first
       | refine WK.seq ?_
       | refine WK.block ?_
       | refine WK.condT rfl ?_
       | (refine Hid.h hQ _ _ ?_; clear hQ hA)
       | (refine WK.regH Tryz.ntmps205 (by kernel_rfl) ?_; intro A hA Q hQ; simp [aRes, aBad, act0, Action.enc, oxm0, wideZ, uI_zero, aFault, *])
       | (refine RunQ.call rfl rfl rfl rfl rfl ?_ (g1) ?_ ?_; (focus (simp (maxDischargeDepth := 120) [aRes, aBad, act0, Action.enc, oxm0, wideZ, uI_zero, aFault, *]; done)); (focus (simp [aRes, aBad, act0, Action.enc, oxm0, wideZ, uI_zero, aFault, *]; done)); refine RunQ.evalH ?_; simp [aRes, aBad, act0, Action.enc, oxm0, wideZ, uI_zero, aFault, *])
       | (refine RunQ.call rfl rfl rfl rfl rfl ?_ (g2) ?_ ?_; (focus (simp (maxDischargeDepth := 120) [aRes, aBad, act0, Action.enc, oxm0, wideZ, uI_zero, aFault, *]; done)); (focus (simp [aRes, aBad, act0, Action.enc, oxm0, wideZ, uI_zero, aFault, *]; done)); refine RunQ.evalH ?_; simp [aRes, aBad, act0, Action.enc, oxm0, wideZ, uI_zero, aFault, *])
       | (refine RunQ.call rfl rfl rfl rfl rfl ?_ (agoes_c (getN b 4 4).1) ?_ ?_; (focus (simp (maxDischargeDepth := 120) [aRes, aBad, act0, Action.enc, oxm0, wideZ, uI_zero, aFault, *]; done)); (focus (simp [aRes, aBad, act0, Action.enc, oxm0, wideZ, uI_zero, aFault, *]; done)); refine RunQ.evalH ?_; simp [aRes, aBad, act0, Action.enc, oxm0, wideZ, uI_zero, aFault, *])
       | (refine RunQ.call rfl rfl rfl rfl rfl ?_ (b4) ?_ ?_; (focus (simp (maxDischargeDepth := 120) [aRes, aBad, act0, Action.enc, oxm0, wideZ, uI_zero, aFault, *]; done)); (focus (simp [aRes, aBad, act0, Action.enc, oxm0, wideZ, uI_zero, aFault, *]; done)); refine RunQ.evalH ?_; simp [aRes, aBad, act0, Action.enc, oxm0, wideZ, uI_zero, aFault, *])
       | (refine WK.ret Tryz.func205 ?_ ?_ <;> simp (maxDischargeDepth := 120) [Tryz.results205, aRes, aBad, act0, Action.enc, oxm0, wideZ, uI_zero, aFault, *])
       | fail)
    · have e : aPlain 0 b = if r = true then (aOf 0 b, (b.length : Int), none) else aBad 5 := by unfold aPlain; rw [if_neg (by simp [hg]), hre]; rfl
      simp only [aOf, if_pos rfl, Action.enc, oxm0, wideZ, uI_zero] at hr
      clear hre
      refine FnP.intro Tryz.func205 rfl rfl fun G w => ?_
      cases r
      · repeat' (first
         | refine WK.seq ?_
         | refine WK.block ?_
         | refine WK.inBlock ?_
         | refine WK.skip ?_
         | refine WK.condT rfl ?_
         | refine WK.condF rfl ?_
         | (refine Hid.h hQ _ _ ?_; clear hQ hA)
         | (refine WK.regH Tryz.ntmps205 (by kernel_rfl) ?_; intro A hA Q hQ; simp [aRes, aBad, act0, Action.enc, oxm0, wideZ, uI_zero, aFault, *])
         | (refine RunQ.call rfl rfl rfl rfl rfl ?_ (g1) ?_ ?_; (focus (simp (maxDischargeDepth := 120) [aRes, aBad, act0, Action.enc, oxm0, wideZ, uI_zero, aFault, *]; done)); (focus (simp [aRes, aBad, act0, Action.enc, oxm0, wideZ, uI_zero, aFault, *]; done)); refine RunQ.evalH ?_; simp [aRes, aBad, act0, Action.enc, oxm0, wideZ, uI_zero, aFault, *])
         | (refine RunQ.call rfl rfl rfl rfl rfl ?_ (g2) ?_ ?_; (focus (simp (maxDischargeDepth := 120) [aRes, aBad, act0, Action.enc, oxm0, wideZ, uI_zero, aFault, *]; done)); (focus (simp [aRes, aBad, act0, Action.enc, oxm0, wideZ, uI_zero, aFault, *]; done)); refine RunQ.evalH ?_; simp [aRes, aBad, act0, Action.enc, oxm0, wideZ, uI_zero, aFault, *])
         | (refine RunQ.call rfl rfl rfl rfl rfl ?_ (agoes_c (getN b 4 4).1) ?_ ?_; (focus (simp (maxDischargeDepth := 120) [aRes, aBad, act0, Action.enc, oxm0, wideZ, uI_zero, aFault, *]; done)); (focus (simp [aRes, aBad, act0, Action.enc, oxm0, wideZ, uI_zero, aFault, *]; done)); refine RunQ.evalH ?_; simp [aRes, aBad, act0, Action.enc, oxm0, wideZ, uI_zero, aFault, *])
         | (refine RunQ.call rfl rfl rfl rfl rfl ?_ (hr) ?_ ?_; (focus (simp (maxDischargeDepth := 120) [aRes, aBad, act0, Action.enc, oxm0, wideZ, uI_zero, aFault, *]; done)); (focus (simp [aRes, aBad, act0, Action.enc, oxm0, wideZ, uI_zero, aFault, *]; done)); refine RunQ.evalH ?_; simp [aRes, aBad, act0, Action.enc, oxm0, wideZ, uI_zero, aFault, *])
         | (refine RunQ.call rfl rfl rfl rfl rfl ?_ (b5) ?_ ?_; (focus (simp (maxDischargeDepth := 120) [aRes, aBad, act0, Action.enc, oxm0, wideZ, uI_zero, aFault, *]; done)); (focus (simp [aRes, aBad, act0, Action.enc, oxm0, wideZ, uI_zero, aFault, *]; done)); refine RunQ.evalH ?_; simp [aRes, aBad, act0, Action.enc, oxm0, wideZ, uI_zero, aFault, *])
         | (refine WK.ret Tryz.func205 ?_ ?_ <;> simp (maxDischargeDepth := 120) [Tryz.results205, aRes, aBad, act0, Action.enc, oxm0, wideZ, uI_zero, aFault, *])
         | fail)
      · repeat' (first
         | refine WK.seq ?_
         | refine WK.block ?_
         | refine WK.inBlock ?_
         | refine WK.skip ?_
         | refine WK.condT rfl ?_
         | refine WK.condF rfl ?_
         | (refine Hid.h hQ _ _ ?_; clear hQ hA)
         | (refine WK.regH Tryz.ntmps205 (by kernel_rfl) ?_; intro A hA Q hQ; simp [aRes, aBad, act0, Action.enc, oxm0, wideZ, uI_zero, aFault, *])
         | (refine RunQ.call rfl rfl rfl rfl rfl ?_ (g1) ?_ ?_; (focus (simp (maxDischargeDepth := 120) [aRes, aBad, act0, Action.enc, oxm0, wideZ, uI_zero, aFault, *]; done)); (focus (simp [aRes, aBad, act0, Action.enc, oxm0, wideZ, uI_zero, aFault, *]; done)); refine RunQ.evalH ?_; simp [aRes, aBad, act0, Action.enc, oxm0, wideZ, uI_zero, aFault, *])
         | (refine RunQ.call rfl rfl rfl rfl rfl ?_ (g2) ?_ ?_; (focus (simp (maxDischargeDepth := 120) [aRes, aBad, act0, Action.enc, oxm0, wideZ, uI_zero, aFault, *]; done)); (focus (simp [aRes, aBad, act0, Action.enc, oxm0, wideZ, uI_zero, aFault, *]; done)); refine RunQ.evalH ?_; simp [aRes, aBad, act0, Action.enc, oxm0, wideZ, uI_zero, aFault, *])
         | (refine RunQ.call rfl rfl rfl rfl rfl ?_ (agoes_c (getN b 4 4).1) ?_ ?_; (focus (simp (maxDischargeDepth := 120) [aRes, aBad, act0, Action.enc, oxm0, wideZ, uI_zero, aFault, *]; done)); (focus (simp [aRes, aBad, act0, Action.enc, oxm0, wideZ, uI_zero, aFault, *]; done)); refine RunQ.evalH ?_; simp [aRes, aBad, act0, Action.enc, oxm0, wideZ, uI_zero, aFault, *])
         | (refine RunQ.call rfl rfl rfl rfl rfl ?_ (hr) ?_ ?_; (focus (simp (maxDischargeDepth := 120) [aRes, aBad, act0, Action.enc, oxm0, wideZ, uI_zero, aFault, *]; done)); (focus (simp [aRes, aBad, act0, Action.enc, oxm0, wideZ, uI_zero, aFault, *]; done)); refine RunQ.evalH ?_; simp [aRes, aBad, act0, Action.enc, oxm0, wideZ, uI_zero, aFault, *])
         | (refine WK.ret Tryz.func205 ?_ ?_ <;> simp (maxDischargeDepth := 120) [Tryz.results205, aRes, aBad, act0, Action.enc, oxm0, wideZ, uI_zero, aFault, aOf, *])
         | fail)
  by_cases k1 : k = 22
  · subst k1
    have e : aPlain 22 b = if r = true then (aOf 22 b, (b.length : Int), none) else aBad 9 := by unfold aPlain; rw [if_neg (by simp), hre]; rfl
    simp only [aOf, if_neg k0, if_pos rfl, Action.enc, oxm0, wideZ, uI_zero] at hr
    clear hre
    refine FnP.intro Tryz.func205 rfl rfl fun G w => ?_
    cases r
    · repeat' (first
       | refine WK.seq ?_
       | refine WK.block ?_
       | refine WK.condT rfl ?_
       | refine WK.condF rfl ?_
       | (refine Hid.h hQ _ _ ?_; clear hQ hA)
       | (refine WK.regH Tryz.ntmps205 (by kernel_rfl) ?_; intro A hA Q hQ; simp [aRes, aBad, act0, Action.enc, oxm0, wideZ, uI_zero, aFault, *])
       | (refine RunQ.call rfl rfl rfl rfl rfl ?_ (g1) ?_ ?_; (focus (simp (maxDischargeDepth := 120) [aRes, aBad, act0, Action.enc, oxm0, wideZ, uI_zero, aFault, *]; done)); (focus (simp [aRes, aBad, act0, Action.enc, oxm0, wideZ, uI_zero, aFault, *]; done)); refine RunQ.evalH ?_; simp [aRes, aBad, act0, Action.enc, oxm0, wideZ, uI_zero, aFault, *])
       | (refine RunQ.call rfl rfl rfl rfl rfl ?_ (hr) ?_ ?_; (focus (simp (maxDischargeDepth := 120) [aRes, aBad, act0, Action.enc, oxm0, wideZ, uI_zero, aFault, *]; done)); (focus (simp [aRes, aBad, act0, Action.enc, oxm0, wideZ, uI_zero, aFault, *]; done)); refine RunQ.evalH ?_; simp [aRes, aBad, act0, Action.enc, oxm0, wideZ, uI_zero, aFault, *])
       | (refine RunQ.call rfl rfl rfl rfl rfl ?_ (b9) ?_ ?_; (focus (simp (maxDischargeDepth := 120) [aRes, aBad, act0, Action.enc, oxm0, wideZ, uI_zero, aFault, *]; done)); (focus (simp [aRes, aBad, act0, Action.enc, oxm0, wideZ, uI_zero, aFault, *]; done)); refine RunQ.evalH ?_; simp [aRes, aBad, act0, Action.enc, oxm0, wideZ, uI_zero, aFault, *])
       | (refine WK.ret Tryz.func205 ?_ ?_ <;> simp (maxDischargeDepth := 120) [Tryz.results205, aRes, aBad, act0, Action.enc, oxm0, wideZ, uI_zero, aFault, *])
       | fail)
    · repeat' (first
       | refine WK.seq ?_
       | refine WK.block ?_
       | refine WK.inBlock ?_
       | refine WK.skip ?_
       | refine WK.condT rfl ?_
       | refine WK.condF rfl ?_
       | (refine Hid.h hQ _ _ ?_; clear hQ hA)
       | (refine WK.regH Tryz.ntmps205 (by kernel_rfl) ?_; intro A hA Q hQ; simp [aRes, aBad, act0, Action.enc, oxm0, wideZ, uI_zero, aFault, *])
       | (refine RunQ.call rfl rfl rfl rfl rfl ?_ (g1) ?_ ?_; (focus (simp (maxDischargeDepth := 120) [aRes, aBad, act0, Action.enc, oxm0, wideZ, uI_zero, aFault, *]; done)); (focus (simp [aRes, aBad, act0, Action.enc, oxm0, wideZ, uI_zero, aFault, *]; done)); refine RunQ.evalH ?_; simp [aRes, aBad, act0, Action.enc, oxm0, wideZ, uI_zero, aFault, *])
       | (refine RunQ.call rfl rfl rfl rfl rfl ?_ (hr) ?_ ?_; (focus (simp (maxDischargeDepth := 120) [aRes, aBad, act0, Action.enc, oxm0, wideZ, uI_zero, aFault, *]; done)); (focus (simp [aRes, aBad, act0, Action.enc, oxm0, wideZ, uI_zero, aFault, *]; done)); refine RunQ.evalH ?_; simp [aRes, aBad, act0, Action.enc, oxm0, wideZ, uI_zero, aFault, *])
       | (refine WK.ret Tryz.func205 ?_ ?_ <;> simp (maxDischargeDepth := 120) [Tryz.results205, aRes, aBad, act0, Action.enc, oxm0, wideZ, uI_zero, aFault, aOf, *])
       | fail)
  by_cases k2 : k = 17
  · subst k2
    have e : aPlain 17 b = if r = true then (aOf 17 b, (b.length : Int), none) else aBad 5 := by unfold aPlain; rw [if_neg (by simp), hre]; rfl
    simp only [aOf, if_neg k0, if_neg k1, if_pos rfl, Action.enc, oxm0, wideZ, uI_zero] at hr
    clear hre
    refine FnP.intro Tryz.func205 rfl rfl fun G w => ?_
    cases r
    · repeat' (first
       | refine WK.seq ?_
       | refine WK.block ?_
       | refine WK.inBlock ?_
       | refine WK.condT rfl ?_
       | refine WK.condF rfl ?_
       | (refine Hid.h hQ _ _ ?_; clear hQ hA)
       | (refine WK.regH Tryz.ntmps205 (by kernel_rfl) ?_; intro A hA Q hQ; simp [aRes, aBad, act0, Action.enc, oxm0, wideZ, uI_zero, aFault, *])
       | (refine RunQ.call rfl rfl rfl rfl rfl ?_ (g3) ?_ ?_; (focus (simp (maxDischargeDepth := 120) [aRes, aBad, act0, Action.enc, oxm0, wideZ, uI_zero, aFault, *]; done)); (focus (simp [aRes, aBad, act0, Action.enc, oxm0, wideZ, uI_zero, aFault, *]; done)); refine RunQ.evalH ?_; simp [aRes, aBad, act0, Action.enc, oxm0, wideZ, uI_zero, aFault, *])
       | (refine RunQ.call rfl rfl rfl rfl rfl ?_ (hr) ?_ ?_; (focus (simp (maxDischargeDepth := 120) [aRes, aBad, act0, Action.enc, oxm0, wideZ, uI_zero, aFault, *]; done)); (focus (simp [aRes, aBad, act0, Action.enc, oxm0, wideZ, uI_zero, aFault, *]; done)); refine RunQ.evalH ?_; simp [aRes, aBad, act0, Action.enc, oxm0, wideZ, uI_zero, aFault, *])
       | (refine RunQ.call rfl rfl rfl rfl rfl ?_ (b5) ?_ ?_; (focus (simp (maxDischargeDepth := 120) [aRes, aBad, act0, Action.enc, oxm0, wideZ, uI_zero, aFault, *]; done)); (focus (simp [aRes, aBad, act0, Action.enc, oxm0, wideZ, uI_zero, aFault, *]; done)); refine RunQ.evalH ?_; simp [aRes, aBad, act0, Action.enc, oxm0, wideZ, uI_zero, aFault, *])
       | (refine WK.ret Tryz.func205 ?_ ?_ <;> simp (maxDischargeDepth := 120) [Tryz.results205, aRes, aBad, act0, Action.enc, oxm0, wideZ, uI_zero, aFault, *])
       | fail)
    · repeat' (first
       | refine WK.seq ?_
       | refine WK.block ?_
       | refine WK.inBlock ?_
       | refine WK.skip ?_
       | refine WK.condT rfl ?_
       | refine WK.condF rfl ?_
       | (refine Hid.h hQ _ _ ?_; clear hQ hA)
       | (refine WK.regH Tryz.ntmps205 (by kernel_rfl) ?_; intro A hA Q hQ; simp [aRes, aBad, act0, Action.enc, oxm0, wideZ, uI_zero, aFault, *])
       | (refine RunQ.call rfl rfl rfl rfl rfl ?_ (g3) ?_ ?_; (focus (simp (maxDischargeDepth := 120) [aRes, aBad, act0, Action.enc, oxm0, wideZ, uI_zero, aFault, *]; done)); (focus (simp [aRes, aBad, act0, Action.enc, oxm0, wideZ, uI_zero, aFault, *]; done)); refine RunQ.evalH ?_; simp [aRes, aBad, act0, Action.enc, oxm0, wideZ, uI_zero, aFault, *])
       | (refine RunQ.call rfl rfl rfl rfl rfl ?_ (hr) ?_ ?_; (focus (simp (maxDischargeDepth := 120) [aRes, aBad, act0, Action.enc, oxm0, wideZ, uI_zero, aFault, *]; done)); (focus (simp [aRes, aBad, act0, Action.enc, oxm0, wideZ, uI_zero, aFault, *]; done)); refine RunQ.evalH ?_; simp [aRes, aBad, act0, Action.enc, oxm0, wideZ, uI_zero, aFault, *])
       | (refine WK.ret Tryz.func205 ?_ ?_ <;> simp (maxDischargeDepth := 120) [Tryz.results205, aRes, aBad, act0, Action.enc, oxm0, wideZ, uI_zero, aFault, aOf, *])
       | fail)
  have e : aPlain k b = if r = true then (aOf k b, (b.length : Int), none) else aBad 5 := by unfold aPlain; rw [if_neg (by simp [k0]), hre, if_neg k1]
  simp only [aOf, if_neg k0, if_neg k1, if_neg k2, Action.enc, oxm0, wideZ, uI_zero] at hr
  clear hre
  refine FnP.intro Tryz.func205 rfl rfl fun G w => ?_
  cases r
  · repeat' (first
     | refine WK.seq ?_
     | refine WK.block ?_
     | refine WK.inBlock ?_
     | refine WK.skip ?_
     | refine WK.condT rfl ?_
     | (refine Hid.h hQ _ _ ?_; clear hQ hA)
     | (refine WK.cond2 rfl (fun h => ?_) (fun h => ?_) <;> (first | (simp [*] at h; done) | (have h2 := h; simp at h2; exfalso; omega) | (have h2 := h; simp at h2; try simp only [Bool.not_eq_true', Bool.not_eq_false'] at h) | skip))
     | (refine WK.regH Tryz.ntmps205 (by kernel_rfl) ?_; intro A hA Q hQ; simp [aRes, aBad, act0, Action.enc, oxm0, wideZ, uI_zero, aFault, *])
     | (refine RunQ.call rfl rfl rfl rfl rfl ?_ (hr) ?_ ?_; (focus (simp (maxDischargeDepth := 120) [aRes, aBad, act0, Action.enc, oxm0, wideZ, uI_zero, aFault, *]; done)); (focus (simp [aRes, aBad, act0, Action.enc, oxm0, wideZ, uI_zero, aFault, *]; done)); refine RunQ.evalH ?_; simp [aRes, aBad, act0, Action.enc, oxm0, wideZ, uI_zero, aFault, *])
     | (refine RunQ.call rfl rfl rfl rfl rfl ?_ (b5) ?_ ?_; (focus (simp (maxDischargeDepth := 120) [aRes, aBad, act0, Action.enc, oxm0, wideZ, uI_zero, aFault, *]; done)); (focus (simp [aRes, aBad, act0, Action.enc, oxm0, wideZ, uI_zero, aFault, *]; done)); refine RunQ.evalH ?_; simp [aRes, aBad, act0, Action.enc, oxm0, wideZ, uI_zero, aFault, *])
     | (refine WK.ret Tryz.func205 ?_ ?_ <;> simp (maxDischargeDepth := 120) [Tryz.results205, aRes, aBad, act0, Action.enc, oxm0, wideZ, uI_zero, aFault, *])
     | fail)
  · repeat' (first
     | refine WK.seq ?_
     | refine WK.block ?_
     | refine WK.inBlock ?_
     | refine WK.skip ?_
     | refine WK.condF rfl ?_
     | (refine Hid.h hQ _ _ ?_; clear hQ hA)
     | (refine WK.cond2 rfl (fun h => ?_) (fun h => ?_) <;> (first | (simp [*] at h; done) | (have h2 := h; simp at h2; exfalso; omega) | (have h2 := h; simp at h2; try simp only [Bool.not_eq_true', Bool.not_eq_false'] at h) | skip))
     | (refine WK.regH Tryz.ntmps205 (by kernel_rfl) ?_; intro A hA Q hQ; simp [aRes, aBad, act0, Action.enc, oxm0, wideZ, uI_zero, aFault, *])
     | (refine RunQ.call rfl rfl rfl rfl rfl ?_ (hr) ?_ ?_; (focus (simp (maxDischargeDepth := 120) [aRes, aBad, act0, Action.enc, oxm0, wideZ, uI_zero, aFault, *]; done)); (focus (simp [aRes, aBad, act0, Action.enc, oxm0, wideZ, uI_zero, aFault, *]; done)); refine RunQ.evalH ?_; simp [aRes, aBad, act0, Action.enc, oxm0, wideZ, uI_zero, aFault, *])
     | (refine WK.ret Tryz.func205 ?_ ?_ <;> simp (maxDischargeDepth := 120) [Tryz.results205, aRes, aBad, act0, Action.enc, oxm0, wideZ, uI_zero, aFault, aOf, *])
     | fail)
end Go.Proofs.YtcccfbjkcahgfaaGreat
end

section
set_option linter.unusedVariables false
set_option linter.unusedSimpArgs false
namespace Go.Proofs.YtcccfbjkcahgfaaGreat
open Go Go.AI Go.Proofs
attribute [local irreducible] FnP FnO FnB FnT FnSeq WK RunQ RunQW RunX RunXW

/-- how many bytes a part's reading takes -/
def oLen (b : List (BitVec 8)) : Nat := (oDec b).2.1.toNat
theorem oLen_eq (b : List (BitVec 8)) : (oDec b).2.1 = (oLen b : Int) ∧ oLen b ≤ 259 := by
  have h : 0 ≤ (oDec b).2.1 ∧ (oDec b).2.1 ≤ 259 := by
    have := bAt_lt b 3
    unfold oDec
    split
    · split <;> (simp only; omega)
    · simp
  unfold oLen; omega
def aSetD (b : List (BitVec 8)) : Action × Int × Option Int :=
  if (oDec (b.drop 4)).2.2 = 1 then aBad 14 else if (oDec (b.drop 4)).2.2 = 6 then aBad 13 else if (oDec (b.drop 4)).2.2 = 0 then
    (if b.length = (4 + oLen (b.drop 4) + 7) / 8 * 8 then (if allZ (b.drop (4 + oLen (b.drop 4))) = true then (if aSets (oDec (b.drop 4)).1.field = true then
      (if (oDec (b.drop 4)).1.masked = true then aBad 15 else (⟨25, 0, 0, 0, 0, (oDec (b.drop 4)).1⟩, (b.length : Int), none)) else aBad 13) else aBad 5) else aBad 1) else aBad 15
set_option maxHeartbeats 4000000 in
theorem aset_c (b : List (BitVec 8)) (hb : b.length ≤ 65536) (h8 : 8 ≤ b.length) : FnP Tryz.prog 202 [byS b] (aRes (aSetD b)) := by
  have hd := odec_c (b.drop 4) (by rw [List.length_drop]; omega)
  have hol := oLen_eq (b.drop 4)
  have hn : aSetD b = if (oDec (b.drop 4)).2.2 = 1 then aBad 14 else if (oDec (b.drop 4)).2.2 = 6 then aBad 13 else if (oDec (b.drop 4)).2.2 = 0 then
    (if b.length = (4 + oLen (b.drop 4) + 7) / 8 * 8 then (if allZ (b.drop (4 + oLen (b.drop 4))) = true then (if aSets (oDec (b.drop 4)).1.field = true then
      (if (oDec (b.drop 4)).1.masked = true then aBad 15 else (⟨25, 0, 0, 0, 0, (oDec (b.drop 4)).1⟩, (b.length : Int), none)) else aBad 13) else aBad 5) else aBad 1) else aBad 15 := rfl
  obtain ⟨x, hx⟩ : ∃ x, oLen (b.drop 4) = x := ⟨_, rfl⟩
  obtain ⟨D, hD⟩ : ∃ D, oDec (b.drop 4) = D := ⟨_, rfl⟩
  rw [hx, hD] at hol
  rw [hx, hD] at hn
  rw [hD, hol.1] at hd
  have hx9 := hol.2
  obtain ⟨o, m, c⟩ := D
  simp only at hn hd
  clear hD hx hol
  have d4 : ((byL b).drop 4).take (b.length - 4) = byL (b.drop 4) := by rw [byL_drop]; exact by_full _ _ (by rw [List.length_drop])
  have j4 : (4 : Int) ≤ b.length := by omega
  unfold byS at *
  rw [List.length_drop] at hd
  have b1 := abad_c 1
  have b5 := abad_c 5
  have b13 := abad_c 13
  have b14 := abad_c 14
  have b15 := abad_c 15
  by_cases c1 : c = 1
  · subst c1
    have e : aSetD b = aBad 14 := by rw [hn, if_pos rfl]
    clear hn
    simp only [oFault, if_neg (show ¬ (1 : Int) = 0 by decide)] at hd
    refine FnP.intro Tryz.func202 rfl rfl fun G w => ?_
    repeat' (first
     | refine WK.seq ?_
     | refine WK.block ?_
     | refine WK.condT rfl ?_
     | (refine Hid.h hQ _ _ ?_; clear hQ hA)
     | (refine WK.regH Tryz.ntmps202 (by kernel_rfl) ?_; intro A hA Q hQ; simp [aRes, aBad, act0, Action.enc, Oxm.enc, oxm0, wideZ, uI_zero, aFault, *])
     | (refine RunQ.gd rfl (by rw [hA.h]; rfl) ?_; simp [aRes, aBad, act0, Action.enc, Oxm.enc, oxm0, wideZ, uI_zero, aFault, *])
     | (refine RunQ.call rfl rfl rfl rfl rfl ?_ (hd) ?_ ?_; (focus (simp (maxDischargeDepth := 120) [aRes, aBad, act0, Action.enc, Oxm.enc, oxm0, wideZ, uI_zero, aFault, *]; done)); (focus (simp [aRes, aBad, act0, Action.enc, Oxm.enc, oxm0, wideZ, uI_zero, aFault, *]; done)); refine RunQ.evalH ?_; simp [aRes, aBad, act0, Action.enc, Oxm.enc, oxm0, wideZ, uI_zero, aFault, *])
     | (refine RunQ.call rfl rfl rfl rfl rfl ?_ (b14) ?_ ?_; (focus (simp (maxDischargeDepth := 120) [aRes, aBad, act0, Action.enc, Oxm.enc, oxm0, wideZ, uI_zero, aFault, *]; done)); (focus (simp [aRes, aBad, act0, Action.enc, Oxm.enc, oxm0, wideZ, uI_zero, aFault, *]; done)); refine RunQ.evalH ?_; simp [aRes, aBad, act0, Action.enc, Oxm.enc, oxm0, wideZ, uI_zero, aFault, *])
     | (refine WK.ret Tryz.func202 ?_ ?_ <;> simp (maxDischargeDepth := 120) [Tryz.results202, aRes, aBad, act0, Action.enc, Oxm.enc, oxm0, wideZ, uI_zero, aFault, *])
     | fail)
  by_cases c6 : c = 6
  · subst c6
    have e : aSetD b = aBad 13 := by rw [hn, if_neg c1, if_pos rfl]
    clear hn
    simp only [oFault, if_neg (show ¬ (6 : Int) = 0 by decide)] at hd
    refine FnP.intro Tryz.func202 rfl rfl fun G w => ?_
    repeat' (first
     | refine WK.seq ?_
     | refine WK.block ?_
     | refine WK.condT rfl ?_
     | refine WK.condF rfl ?_
     | (refine Hid.h hQ _ _ ?_; clear hQ hA)
     | (refine WK.regH Tryz.ntmps202 (by kernel_rfl) ?_; intro A hA Q hQ; simp [aRes, aBad, act0, Action.enc, Oxm.enc, oxm0, wideZ, uI_zero, aFault, *])
     | (refine RunQ.gd rfl (by rw [hA.h]; rfl) ?_; simp [aRes, aBad, act0, Action.enc, Oxm.enc, oxm0, wideZ, uI_zero, aFault, *])
     | (refine RunQ.call rfl rfl rfl rfl rfl ?_ (hd) ?_ ?_; (focus (simp (maxDischargeDepth := 120) [aRes, aBad, act0, Action.enc, Oxm.enc, oxm0, wideZ, uI_zero, aFault, *]; done)); (focus (simp [aRes, aBad, act0, Action.enc, Oxm.enc, oxm0, wideZ, uI_zero, aFault, *]; done)); refine RunQ.evalH ?_; simp [aRes, aBad, act0, Action.enc, Oxm.enc, oxm0, wideZ, uI_zero, aFault, *])
     | (refine RunQ.call rfl rfl rfl rfl rfl ?_ (b13) ?_ ?_; (focus (simp (maxDischargeDepth := 120) [aRes, aBad, act0, Action.enc, Oxm.enc, oxm0, wideZ, uI_zero, aFault, *]; done)); (focus (simp [aRes, aBad, act0, Action.enc, Oxm.enc, oxm0, wideZ, uI_zero, aFault, *]; done)); refine RunQ.evalH ?_; simp [aRes, aBad, act0, Action.enc, Oxm.enc, oxm0, wideZ, uI_zero, aFault, *])
     | (refine WK.ret Tryz.func202 ?_ ?_ <;> simp (maxDischargeDepth := 120) [Tryz.results202, aRes, aBad, act0, Action.enc, Oxm.enc, oxm0, wideZ, uI_zero, aFault, *])
     | fail)
  by_cases c0 : c = 0
  case neg =>
    have e : aSetD b = aBad 15 := by rw [hn, if_neg c1, if_neg c6, if_neg c0]
    clear hn
    simp only [oFault, if_neg c0] at hd
    refine FnP.intro Tryz.func202 rfl rfl fun G w => ?_
    repeat' (first
     | refine WK.seq ?_
     | refine WK.block ?_
     | refine WK.condT rfl ?_
     | (refine Hid.h hQ _ _ ?_; clear hQ hA)
     | (refine WK.cond2 rfl (fun h => ?_) (fun h => ?_) <;> (first | (simp [*] at h; done) | (have h2 := h; simp at h2; exfalso; omega) | (have h2 := h; simp at h2; try simp only [Bool.not_eq_true', Bool.not_eq_false'] at h) | skip))
     | (refine WK.regH Tryz.ntmps202 (by kernel_rfl) ?_; intro A hA Q hQ; simp [aRes, aBad, act0, Action.enc, Oxm.enc, oxm0, wideZ, uI_zero, aFault, *])
     | (refine RunQ.gd rfl (by rw [hA.h]; rfl) ?_; simp [aRes, aBad, act0, Action.enc, Oxm.enc, oxm0, wideZ, uI_zero, aFault, *])
     | (refine RunQ.call rfl rfl rfl rfl rfl ?_ (hd) ?_ ?_; (focus (simp (maxDischargeDepth := 120) [aRes, aBad, act0, Action.enc, Oxm.enc, oxm0, wideZ, uI_zero, aFault, *]; done)); (focus (simp [aRes, aBad, act0, Action.enc, Oxm.enc, oxm0, wideZ, uI_zero, aFault, *]; done)); refine RunQ.evalH ?_; simp [aRes, aBad, act0, Action.enc, Oxm.enc, oxm0, wideZ, uI_zero, aFault, *])
     | (refine RunQ.call rfl rfl rfl rfl rfl ?_ (b15) ?_ ?_; (focus (simp (maxDischargeDepth := 120) [aRes, aBad, act0, Action.enc, Oxm.enc, oxm0, wideZ, uI_zero, aFault, *]; done)); (focus (simp [aRes, aBad, act0, Action.enc, Oxm.enc, oxm0, wideZ, uI_zero, aFault, *]; done)); refine RunQ.evalH ?_; simp [aRes, aBad, act0, Action.enc, Oxm.enc, oxm0, wideZ, uI_zero, aFault, *])
     | (refine WK.ret Tryz.func202 ?_ ?_ <;> simp (maxDischargeDepth := 120) [Tryz.results202, aRes, aBad, act0, Action.enc, Oxm.enc, oxm0, wideZ, uI_zero, aFault, *])
     | fail)
  subst c0
  rw [if_neg c1, if_neg c6, if_pos rfl] at hn
  simp only [oFault, if_pos rfl] at hd
  have w1 : IntKind.i64.wrap (4 + (x : Int)) = ((4 + x : Nat) : Int) := by rw [wrap_i64 (by omega) (by omega)]; omega
  have w2 : IntKind.i64.wrap (((4 + x : Nat) : Int) + 7) = ((4 + x + 7 : Nat) : Int) := by rw [wrap_i64 (by omega) (by omega)]; omega
  have w3 := bNot7b (4 + x + 7) (by omega)
  have z1 : ((b.length : Int) == (((4 + x + 7) / 8 * 8 : Nat) : Int)) = (b.length == (4 + x + 7) / 8 * 8) := by rw [Bool.eq_iff_iff, beq_iff_eq, beq_iff_eq]; omega
  by_cases hl : b.length = (4 + x + 7) / 8 * 8
  case neg =>
    have hlb : (b.length == (4 + x + 7) / 8 * 8) = false := by simpa using hl
    have e : aSetD b = aBad 1 := by rw [hn, if_neg hl]
    clear hn hl
    rw [hlb] at z1
    obtain ⟨y, hy⟩ : ∃ y, (4 + x + 7) / 8 * 8 = y := ⟨_, rfl⟩
    obtain ⟨x4, hx4⟩ : ∃ x4, 4 + x = x4 := ⟨_, rfl⟩
    obtain ⟨x7, hx7⟩ : ∃ x7, 4 + x + 7 = x7 := ⟨_, rfl⟩
    rw [hx4] at hx7 w1 w2 w3 z1
    rw [hx7] at w2 w3 z1
    obtain ⟨y, hy⟩ : ∃ y, x7 / 8 * 8 = y := ⟨_, rfl⟩
    rw [hy] at w3 z1
    clear hy hx4 hx7 hlb
    refine FnP.intro Tryz.func202 rfl rfl fun G w => ?_
    repeat' (first
     | refine WK.seq ?_
     | refine WK.block ?_
     | refine WK.condT rfl ?_
     | refine WK.condF rfl ?_
     | (refine Hid.h hQ _ _ ?_; clear hQ hA)
     | (refine WK.regH Tryz.ntmps202 (by kernel_rfl) ?_; intro A hA Q hQ; simp [aRes, aBad, act0, Action.enc, Oxm.enc, oxm0, wideZ, uI_zero, bne, aFault, *])
     | (refine RunQ.gd rfl (by rw [hA.h]; rfl) ?_; simp [aRes, aBad, act0, Action.enc, Oxm.enc, oxm0, wideZ, uI_zero, bne, aFault, *])
     | (refine RunQ.call rfl rfl rfl rfl rfl ?_ (hd) ?_ ?_; (focus (simp (maxDischargeDepth := 120) [aRes, aBad, act0, Action.enc, Oxm.enc, oxm0, wideZ, uI_zero, bne, aFault, *]; done)); (focus (simp [aRes, aBad, act0, Action.enc, Oxm.enc, oxm0, wideZ, uI_zero, bne, aFault, *]; done)); refine RunQ.evalH ?_; simp [aRes, aBad, act0, Action.enc, Oxm.enc, oxm0, wideZ, uI_zero, bne, aFault, *])
     | (refine RunQ.call rfl rfl rfl rfl rfl ?_ (b1) ?_ ?_; (focus (simp (maxDischargeDepth := 120) [aRes, aBad, act0, Action.enc, Oxm.enc, oxm0, wideZ, uI_zero, bne, aFault, *]; done)); (focus (simp [aRes, aBad, act0, Action.enc, Oxm.enc, oxm0, wideZ, uI_zero, bne, aFault, *]; done)); refine RunQ.evalH ?_; simp [aRes, aBad, act0, Action.enc, Oxm.enc, oxm0, wideZ, uI_zero, bne, aFault, *])
     | (refine WK.ret Tryz.func202 ?_ ?_ <;> simp (maxDischargeDepth := 120) [Tryz.results202, aRes, aBad, act0, Action.enc, Oxm.enc, oxm0, wideZ, uI_zero, bne, aFault, *])
     | fail)
  have hlb : (b.length == (4 + x + 7) / 8 * 8) = true := by simpa using hl
  rw [if_pos hl] at hn
  rw [hlb] at z1
  have hle : 4 + x ≤ b.length := by omega
  have hle' : ((4 + x : Nat) : Int) ≤ b.length := by omega
  have d5 : ((byL b).drop (4 + x)).take (b.length - (4 + x)) = byL (b.drop (4 + x)) := by rw [byL_drop]; exact by_full _ _ (by rw [List.length_drop])
  have he := aempty_c (b.drop (4 + x)) (by rw [List.length_drop]; omega)
  unfold byS at he
  rw [List.length_drop] at he
  obtain ⟨y, hy⟩ : ∃ y, (4 + x + 7) / 8 * 8 = y := ⟨_, rfl⟩
  obtain ⟨x4, hx4⟩ : ∃ x4, 4 + x = x4 := ⟨_, rfl⟩
  obtain ⟨x7, hx7⟩ : ∃ x7, 4 + x + 7 = x7 := ⟨_, rfl⟩
  rw [hx4] at hx7 w1 w2 w3 z1 hle hle' d5 he hn
  rw [hx7] at w2 w3 z1
  obtain ⟨y, hy⟩ : ∃ y, x7 / 8 * 8 = y := ⟨_, rfl⟩
  rw [hy] at w3 z1
  obtain ⟨B5, hB5⟩ : ∃ B5, b.drop x4 = B5 := ⟨_, rfl⟩
  rw [hB5] at d5 he hn
  clear hy hx4 hx7 hlb hl hB5
  refine FnP.intro Tryz.func202 rfl rfl fun G w => ?_
  cases k1 : allZ B5
  · rw [k1, if_neg Bool.false_ne_true] at hn
    repeat' (first
     | refine WK.seq ?_
     | refine WK.block ?_
     | refine WK.condT rfl ?_
     | refine WK.condF rfl ?_
     | (refine Hid.h hQ _ _ ?_; clear hQ hA)
     | (refine WK.regH Tryz.ntmps202 (by kernel_rfl) ?_; intro A hA Q hQ; simp [aRes, aBad, act0, Action.enc, Oxm.enc, oxm0, wideZ, uI_zero, bne, aFault, *])
     | (refine RunQ.gd rfl (by rw [hA.h]; rfl) ?_; simp [aRes, aBad, act0, Action.enc, Oxm.enc, oxm0, wideZ, uI_zero, bne, aFault, *])
     | (refine RunQ.call rfl rfl rfl rfl rfl ?_ (hd) ?_ ?_; (focus (simp (maxDischargeDepth := 120) [aRes, aBad, act0, Action.enc, Oxm.enc, oxm0, wideZ, uI_zero, bne, aFault, *]; done)); (focus (simp [aRes, aBad, act0, Action.enc, Oxm.enc, oxm0, wideZ, uI_zero, bne, aFault, *]; done)); refine RunQ.evalH ?_; simp [aRes, aBad, act0, Action.enc, Oxm.enc, oxm0, wideZ, uI_zero, bne, aFault, *])
     | (refine RunQ.call rfl rfl rfl rfl rfl ?_ (he) ?_ ?_; (focus (simp (maxDischargeDepth := 120) [aRes, aBad, act0, Action.enc, Oxm.enc, oxm0, wideZ, uI_zero, bne, aFault, *]; done)); (focus (simp [aRes, aBad, act0, Action.enc, Oxm.enc, oxm0, wideZ, uI_zero, bne, aFault, *]; done)); refine RunQ.evalH ?_; simp [aRes, aBad, act0, Action.enc, Oxm.enc, oxm0, wideZ, uI_zero, bne, aFault, *])
     | (refine RunQ.call rfl rfl rfl rfl rfl ?_ (b5) ?_ ?_; (focus (simp (maxDischargeDepth := 120) [aRes, aBad, act0, Action.enc, Oxm.enc, oxm0, wideZ, uI_zero, bne, aFault, *]; done)); (focus (simp [aRes, aBad, act0, Action.enc, Oxm.enc, oxm0, wideZ, uI_zero, bne, aFault, *]; done)); refine RunQ.evalH ?_; simp [aRes, aBad, act0, Action.enc, Oxm.enc, oxm0, wideZ, uI_zero, bne, aFault, *])
     | (refine WK.ret Tryz.func202 ?_ ?_ <;> simp (maxDischargeDepth := 120) [Tryz.results202, aRes, aBad, act0, Action.enc, Oxm.enc, oxm0, wideZ, uI_zero, bne, aFault, *])
     | fail)
  rw [k1, if_pos rfl] at hn
  cases k2 : aSets o.field
  · rw [k2, if_neg Bool.false_ne_true] at hn
    repeat' (first
     | refine WK.seq ?_
     | refine WK.block ?_
     | refine WK.condT rfl ?_
     | refine WK.condF rfl ?_
     | (refine Hid.h hQ _ _ ?_; clear hQ hA)
     | (refine WK.regH Tryz.ntmps202 (by kernel_rfl) ?_; intro A hA Q hQ; simp [aRes, aBad, act0, Action.enc, Oxm.enc, oxm0, wideZ, uI_zero, bne, aFault, *])
     | (refine RunQ.gd rfl (by rw [hA.h]; rfl) ?_; simp [aRes, aBad, act0, Action.enc, Oxm.enc, oxm0, wideZ, uI_zero, bne, aFault, *])
     | (refine RunQ.call rfl rfl rfl rfl rfl ?_ (hd) ?_ ?_; (focus (simp (maxDischargeDepth := 120) [aRes, aBad, act0, Action.enc, Oxm.enc, oxm0, wideZ, uI_zero, bne, aFault, *]; done)); (focus (simp [aRes, aBad, act0, Action.enc, Oxm.enc, oxm0, wideZ, uI_zero, bne, aFault, *]; done)); refine RunQ.evalH ?_; simp [aRes, aBad, act0, Action.enc, Oxm.enc, oxm0, wideZ, uI_zero, bne, aFault, *])
     | (refine RunQ.call rfl rfl rfl rfl rfl ?_ (he) ?_ ?_; (focus (simp (maxDischargeDepth := 120) [aRes, aBad, act0, Action.enc, Oxm.enc, oxm0, wideZ, uI_zero, bne, aFault, *]; done)); (focus (simp [aRes, aBad, act0, Action.enc, Oxm.enc, oxm0, wideZ, uI_zero, bne, aFault, *]; done)); refine RunQ.evalH ?_; simp [aRes, aBad, act0, Action.enc, Oxm.enc, oxm0, wideZ, uI_zero, bne, aFault, *])
     | (refine RunQ.call rfl rfl rfl rfl rfl ?_ (asets_c o.field) ?_ ?_; (focus (simp (maxDischargeDepth := 120) [aRes, aBad, act0, Action.enc, Oxm.enc, oxm0, wideZ, uI_zero, bne, aFault, *]; done)); (focus (simp [aRes, aBad, act0, Action.enc, Oxm.enc, oxm0, wideZ, uI_zero, bne, aFault, *]; done)); refine RunQ.evalH ?_; simp [aRes, aBad, act0, Action.enc, Oxm.enc, oxm0, wideZ, uI_zero, bne, aFault, *])
     | (refine RunQ.call rfl rfl rfl rfl rfl ?_ (b13) ?_ ?_; (focus (simp (maxDischargeDepth := 120) [aRes, aBad, act0, Action.enc, Oxm.enc, oxm0, wideZ, uI_zero, bne, aFault, *]; done)); (focus (simp [aRes, aBad, act0, Action.enc, Oxm.enc, oxm0, wideZ, uI_zero, bne, aFault, *]; done)); refine RunQ.evalH ?_; simp [aRes, aBad, act0, Action.enc, Oxm.enc, oxm0, wideZ, uI_zero, bne, aFault, *])
     | (refine WK.ret Tryz.func202 ?_ ?_ <;> simp (maxDischargeDepth := 120) [Tryz.results202, aRes, aBad, act0, Action.enc, Oxm.enc, oxm0, wideZ, uI_zero, bne, aFault, *])
     | fail)
  rw [k2, if_pos rfl] at hn
  cases k3 : o.masked
  · rw [k3, if_neg Bool.false_ne_true] at hn
    repeat' (first
     | refine WK.seq ?_
     | refine WK.block ?_
     | refine WK.inBlock ?_
     | refine WK.skip ?_
     | refine WK.condF rfl ?_
     | (refine Hid.h hQ _ _ ?_; clear hQ hA)
     | (refine WK.regH Tryz.ntmps202 (by kernel_rfl) ?_; intro A hA Q hQ; simp [aRes, aBad, act0, Action.enc, Oxm.enc, oxm0, wideZ, uI_zero, bne, aFault, *])
     | (refine RunQ.gd rfl (by rw [hA.h]; rfl) ?_; simp [aRes, aBad, act0, Action.enc, Oxm.enc, oxm0, wideZ, uI_zero, bne, aFault, *])
     | (refine RunQ.call rfl rfl rfl rfl rfl ?_ (hd) ?_ ?_; (focus (simp (maxDischargeDepth := 120) [aRes, aBad, act0, Action.enc, Oxm.enc, oxm0, wideZ, uI_zero, bne, aFault, *]; done)); (focus (simp [aRes, aBad, act0, Action.enc, Oxm.enc, oxm0, wideZ, uI_zero, bne, aFault, *]; done)); refine RunQ.evalH ?_; simp [aRes, aBad, act0, Action.enc, Oxm.enc, oxm0, wideZ, uI_zero, bne, aFault, *])
     | (refine RunQ.call rfl rfl rfl rfl rfl ?_ (he) ?_ ?_; (focus (simp (maxDischargeDepth := 120) [aRes, aBad, act0, Action.enc, Oxm.enc, oxm0, wideZ, uI_zero, bne, aFault, *]; done)); (focus (simp [aRes, aBad, act0, Action.enc, Oxm.enc, oxm0, wideZ, uI_zero, bne, aFault, *]; done)); refine RunQ.evalH ?_; simp [aRes, aBad, act0, Action.enc, Oxm.enc, oxm0, wideZ, uI_zero, bne, aFault, *])
     | (refine RunQ.call rfl rfl rfl rfl rfl ?_ (asets_c o.field) ?_ ?_; (focus (simp (maxDischargeDepth := 120) [aRes, aBad, act0, Action.enc, Oxm.enc, oxm0, wideZ, uI_zero, bne, aFault, *]; done)); (focus (simp [aRes, aBad, act0, Action.enc, Oxm.enc, oxm0, wideZ, uI_zero, bne, aFault, *]; done)); refine RunQ.evalH ?_; simp [aRes, aBad, act0, Action.enc, Oxm.enc, oxm0, wideZ, uI_zero, bne, aFault, *])
     | (refine WK.ret Tryz.func202 ?_ ?_ <;> simp (maxDischargeDepth := 120) [Tryz.results202, aRes, aBad, act0, Action.enc, Oxm.enc, oxm0, wideZ, uI_zero, bne, aFault, *])
     | fail)
  · rw [k3, if_pos rfl] at hn
    repeat' (first
     | refine WK.seq ?_
     | refine WK.block ?_
     | refine WK.condT rfl ?_
     | refine WK.condF rfl ?_
     | (refine Hid.h hQ _ _ ?_; clear hQ hA)
     | (refine WK.regH Tryz.ntmps202 (by kernel_rfl) ?_; intro A hA Q hQ; simp [aRes, aBad, act0, Action.enc, Oxm.enc, oxm0, wideZ, uI_zero, bne, aFault, *])
     | (refine RunQ.gd rfl (by rw [hA.h]; rfl) ?_; simp [aRes, aBad, act0, Action.enc, Oxm.enc, oxm0, wideZ, uI_zero, bne, aFault, *])
     | (refine RunQ.call rfl rfl rfl rfl rfl ?_ (hd) ?_ ?_; (focus (simp (maxDischargeDepth := 120) [aRes, aBad, act0, Action.enc, Oxm.enc, oxm0, wideZ, uI_zero, bne, aFault, *]; done)); (focus (simp [aRes, aBad, act0, Action.enc, Oxm.enc, oxm0, wideZ, uI_zero, bne, aFault, *]; done)); refine RunQ.evalH ?_; simp [aRes, aBad, act0, Action.enc, Oxm.enc, oxm0, wideZ, uI_zero, bne, aFault, *])
     | (refine RunQ.call rfl rfl rfl rfl rfl ?_ (he) ?_ ?_; (focus (simp (maxDischargeDepth := 120) [aRes, aBad, act0, Action.enc, Oxm.enc, oxm0, wideZ, uI_zero, bne, aFault, *]; done)); (focus (simp [aRes, aBad, act0, Action.enc, Oxm.enc, oxm0, wideZ, uI_zero, bne, aFault, *]; done)); refine RunQ.evalH ?_; simp [aRes, aBad, act0, Action.enc, Oxm.enc, oxm0, wideZ, uI_zero, bne, aFault, *])
     | (refine RunQ.call rfl rfl rfl rfl rfl ?_ (asets_c o.field) ?_ ?_; (focus (simp (maxDischargeDepth := 120) [aRes, aBad, act0, Action.enc, Oxm.enc, oxm0, wideZ, uI_zero, bne, aFault, *]; done)); (focus (simp [aRes, aBad, act0, Action.enc, Oxm.enc, oxm0, wideZ, uI_zero, bne, aFault, *]; done)); refine RunQ.evalH ?_; simp [aRes, aBad, act0, Action.enc, Oxm.enc, oxm0, wideZ, uI_zero, bne, aFault, *])
     | (refine RunQ.call rfl rfl rfl rfl rfl ?_ (b15) ?_ ?_; (focus (simp (maxDischargeDepth := 120) [aRes, aBad, act0, Action.enc, Oxm.enc, oxm0, wideZ, uI_zero, bne, aFault, *]; done)); (focus (simp [aRes, aBad, act0, Action.enc, Oxm.enc, oxm0, wideZ, uI_zero, bne, aFault, *]; done)); refine RunQ.evalH ?_; simp [aRes, aBad, act0, Action.enc, Oxm.enc, oxm0, wideZ, uI_zero, bne, aFault, *])
     | (refine WK.ret Tryz.func202 ?_ ?_ <;> simp (maxDischargeDepth := 120) [Tryz.results202, aRes, aBad, act0, Action.enc, Oxm.enc, oxm0, wideZ, uI_zero, bne, aFault, *])
     | fail)
end Go.Proofs.YtcccfbjkcahgfaaGreat
end
