/- Actions: their bytes. -/
import Derived.Test.YtcccfbjkcahgfaaGreatAf
import Derived.Test.YtcccfbjkcahgfaaGreatWk3
set_option linter.all false
set_option linter.unnecessarySimpa false
namespace Go.Proofs.YtcccfbjkcahgfaaGreat
open Go Go.AI Go.Proofs
attribute [local irreducible] FnP FnO FnB FnT FnSeq WK RunQ RunQW RunX RunXW
set_option maxHeartbeats 4000000 in
theorem oencT_c (o : Oxm) : FnT Tryz.prog 238 [.agg o.enc] (oEnc o).1.length 1 (byL (oEnc o).1) [.int .i64 (oEnc o).2] := by
 have hr := oright_c o
 have hsz := fSize_le o.field
 have hid := (fRow_ok o.field).1
 have hbl := oBody_len o
 have hsh := shl_one o.field
 have p1 := nputP_c [] 32768 2 (by unfold Sz; omega) (by simp)
 rw [show byS [] = .sl false 0 [] from rfl] at p1
 have l1 := putN_len [] 32768 2
 have hbl2 : (oBody o).length ≤ 32 := by rw [hbl]; split <;> omega
 simp only [Oxm.enc] at hr
 cases k : Oxm.right o
 · have e : oEnc o = ([], 1) := by unfold oEnc; rw [k]; rfl
   rw [k] at hr
   rw [e]
   refine FnT.intro Tryz.func238 rfl rfl fun G w => ?_
   repeat apply WK.s
   refine WK.g 100 Tryz.ntmps238 (by kernel_rfl) ?_
   intro A hA Q hQ
   simp [Oxm.enc]
   apply hQ
   clear hQ hA
   repeat apply WK.s
   refine WK.ghost (Ghost.frzVar 1 rfl rfl) ?_
   refine WK.g 200 Tryz.ntmps238 (by kernel_rfl) ?_
   intro A hA Q hQ
   simp
   refine RunQ.call rfl rfl rfl rfl (by rfl) (by simp (maxDischargeDepth := 120)) (hr) (by simp) ?_
   refine RunQ.eval ?_
   simp
   apply hQ
   clear hQ hA
   refine WK.c2 rfl (fun h => ?_) (fun h => ?_)
   · repeat apply WK.s
     refine WK.g 300 Tryz.ntmps238 (by kernel_rfl) ?_
     intro A hA Q hQ
     simp
     apply hQ
     clear hQ hA
     refine WK.ghost (Ghost.own 2 900 1 rfl rfl) ?_
     refine WK.retT2 Tryz.func238 ?_ ?_ ?_ <;> simp (maxDischargeDepth := 120) [Tryz.results238, b0_]
   · cases h
 rw [k] at hr
 have e : oEnc o = (oHead o ++ oBody o, 0) := by unfold oEnc; rw [k]; rfl
 have hor := or_one o.field (right_field k)
 obtain ⟨b1, hb1⟩ : ∃ b1, b1 = putN [] 32768 2 := ⟨_, rfl⟩
 rw [← hb1] at p1 l1
 simp only [List.length_nil, Nat.zero_add] at l1
 have p2 := nputP_c b1 (oNum o) 1 (by unfold Sz; omega) (by omega)
 have l2 := putN_len b1 (oNum o) 1
 have p3 := nput_c (putN b1 (oNum o) 1) (oBody o).length 1 (by unfold Sz; omega) (by omega)
 have eh : oHead o = putN (putN b1 (oNum o) 1) (oBody o).length 1 := by unfold oHead; rw [hb1]
 have l3 := putN_len (putN b1 (oNum o) 1) (oBody o).length 1
 rw [← eh] at p3 l3
 obtain ⟨b2, hb2⟩ : ∃ b2, b2 = putN b1 (oNum o) 1 := ⟨_, rfl⟩
 rw [← hb2] at p2 p3
 have q1 := wputP_c [] o.value (fSize o.field) hsz (by simp)
 rw [show byS [] = .sl false 0 [] from rfl] at q1
 have hf := by_full (oBody o) _ rfl
 have hbd : (oHead o).length + (oBody o).length ≤ 140737488355328 := by omega
 have hT : (byL (oHead o) ++ byL (oBody o)).take ((oHead o).length + (oBody o).length) = byL (oHead o) ++ byL (oBody o) := List.take_of_length_le (by simp)
 rw [e]
 refine FnT.intro Tryz.func238 rfl rfl fun G w => ?_
 repeat apply WK.s
 refine WK.g 100 Tryz.ntmps238 (by kernel_rfl) ?_
 intro A hA Q hQ
 simp [Oxm.enc]
 apply hQ
 clear hQ hA
 repeat apply WK.s
 refine WK.ghost (Ghost.frzVar 1 rfl rfl) ?_
 refine WK.g 200 Tryz.ntmps238 (by kernel_rfl) ?_
 intro A hA Q hQ
 simp
 refine RunQ.call rfl rfl rfl rfl (by rfl) (by simp (maxDischargeDepth := 120)) (hr) (by simp) ?_
 refine RunQ.eval ?_
 simp
 apply hQ
 clear hQ hA
 refine WK.c2 rfl (fun h => ?_) (fun h => ?_)
 · cases h
 repeat (first | apply WK.s | apply WK.k)
 refine WK.g 300 Tryz.ntmps238 (by kernel_rfl) ?_
 intro A hA Q hQ
 simp
 refine RunQ.call rfl rfl rfl rfl (by rfl) (by simp (maxDischargeDepth := 120)) (fsize_c o.field) (by simp) ?_
 refine RunQ.eval ?_
 simp
 apply hQ
 clear hQ hA
 repeat apply WK.s
 apply WK.cut (⟨(upd (upd J 5 (.sl false (oBody o).length (byL (oBody o)))) 6 (.int .i64 (oNum o))), B0, 0⟩ : St)
 · intro hcut
   simp only [Wide.enc] at q1
   cases m : o.masked
   · have eb : oBody o = wPut [] o.value (fSize o.field) := by unfold oBody; rw [m]; rfl
     have en : oNum o = fID o.field * 2 := by unfold oNum; rw [m]; rfl
     rw [← eb] at q1
     refine WK.g 400 Tryz.ntmps238 (by kernel_rfl) ?_
     intro A hA Q hQ
     simp
     refine RunQ.call rfl rfl rfl rfl (by rfl) (by simp (maxDischargeDepth := 120)) (q1) (by simp) ?_
     refine RunQ.eval ?_
     simp
     apply hQ
     clear hQ hA
     repeat apply WK.s
     refine WK.g 500 Tryz.ntmps238 (by kernel_rfl) ?_
     intro A hA Q hQ
     simp
     refine RunQ.call rfl rfl rfl rfl (by rfl) (by simp (maxDischargeDepth := 120) [hsh]) (fid_c o.field) (by simp [hsh]) ?_
     refine RunQ.eval ?_
     simp [hsh]
     apply hQ
     clear hQ hA
     repeat apply WK.s
     refine WK.g 600 Tryz.ntmps238 (by kernel_rfl) ?_
     intro A hA Q hQ
     simp [m]
     apply hQ
     clear hQ hA
     refine WK.c2 rfl (fun h => ?_) (fun h => ?_)
     · cases h
     · repeat (first | apply WK.s | apply WK.k)
       refine WK.next (fun n => n) hcut (by repeat (first | exact TmW.nil | refine TmW.upd ?_ (by simp (maxDischargeDepth := 120) [en, byS]))) (by repeat (first | exact BxW.nil | refine BxW.upd ?_ (by simp (maxDischargeDepth := 120) [en, byS]))) InjW.id
   · have eb : oBody o = wPut (wPut [] o.value (fSize o.field)) o.mask (fSize o.field) := by unfold oBody; rw [m]; rfl
     have en : oNum o = fID o.field * 2 + 1 := by unfold oNum; rw [m]; rfl
     have l4 := wPut_len [] o.value (fSize o.field) hsz
     have q2 := wputP_c (wPut [] o.value (fSize o.field)) o.mask (fSize o.field) hsz (by rw [l4]; simp; omega)
     rw [← eb] at q2
     simp only [Wide.enc] at q2
     obtain ⟨b4, hb4⟩ : ∃ b4, b4 = wPut [] o.value (fSize o.field) := ⟨_, rfl⟩
     rw [← hb4] at q1 q2
     refine WK.g 700 Tryz.ntmps238 (by kernel_rfl) ?_
     intro A hA Q hQ
     simp
     refine RunQ.call rfl rfl rfl rfl (by rfl) (by simp (maxDischargeDepth := 120)) (q1) (by simp) ?_
     refine RunQ.eval ?_
     simp
     apply hQ
     clear hQ hA
     repeat apply WK.s
     refine WK.g 800 Tryz.ntmps238 (by kernel_rfl) ?_
     intro A hA Q hQ
     simp
     refine RunQ.call rfl rfl rfl rfl (by rfl) (by simp (maxDischargeDepth := 120) [hsh]) (fid_c o.field) (by simp [hsh]) ?_
     refine RunQ.eval ?_
     simp [hsh]
     apply hQ
     clear hQ hA
     repeat apply WK.s
     refine WK.g 900 Tryz.ntmps238 (by kernel_rfl) ?_
     intro A hA Q hQ
     simp [m]
     apply hQ
     clear hQ hA
     refine WK.c2 rfl (fun h => ?_) (fun h => ?_)
     · repeat apply WK.s
       refine WK.g 1000 Tryz.ntmps238 (by kernel_rfl) ?_
       intro A hA Q hQ
       simp
       refine RunQ.call rfl rfl rfl rfl (by rfl) (by simp (maxDischargeDepth := 120)) (q2) (by simp) ?_
       refine RunQ.eval ?_
       simp
       apply hQ
       clear hQ hA
       refine WK.g 1100 Tryz.ntmps238 (by kernel_rfl) ?_
       intro A hA Q hQ
       simp [hor]
       apply hQ
       clear hQ hA
       repeat apply WK.s
       refine WK.next (fun n => n) hcut (by repeat (first | exact TmW.nil | refine TmW.upd ?_ (by simp (maxDischargeDepth := 120) [en, byS]))) (by repeat (first | exact BxW.nil | refine BxW.upd ?_ (by simp (maxDischargeDepth := 120) [en, byS]))) InjW.id
     · cases h
 refine WK.g 1200 Tryz.ntmps238 (by kernel_rfl) ?_
 intro A hA Q hQ
 simp
 refine RunQ.call rfl rfl rfl rfl (by rfl) (by simp (maxDischargeDepth := 120)) (p1) (by simp) ?_
 refine RunQ.eval ?_
 simp
 refine RunQ.call rfl rfl rfl rfl (by rfl) (by simp (maxDischargeDepth := 120)) (p2) (by simp) ?_
 refine RunQ.eval ?_
 simp
 refine RunQ.callO 900 rfl rfl rfl (by simp) (by rfl) (by simp (maxDischargeDepth := 120)) (p3) (by simp) (by simp) (by simp) ?_
 refine RunQ.eval ?_
 simp
 apply hQ
 clear hQ hA
 repeat apply WK.s
 refine WK.g 1300 Tryz.ntmps238 (by kernel_rfl) ?_
 intro A hA Q hQ
 simp
 refine RunQ.append 901 appByte rfl rfl rfl rfl rfl rfl rfl (by simp [hbd, hf]) rfl (by simp [hbd, hf]) (by simp [hbd, hf]) (by simp [hbd, hf]) (by simp [hbd, hf]) ?_
 refine RunQ.eval ?_
 simp [hbd, hf]
 apply hQ
 clear hQ hA
 refine WK.retT2 Tryz.func238 ?_ ?_ ?_ <;> simp (maxDischargeDepth := 120) [Tryz.results238, byL_app, hf, hT]
def aBody (a : Action) : List (BitVec 8) := if a.kind = 0 then putN (putN [] a.port 4) a.max 2 else if a.kind = 22 then putN [] a.group 4 else if a.kind = 17 then putN [] a.ether 2 else if a.kind = 25 then (oEnc a.oxm).1 else []
theorem oEnc_len (o : Oxm) : (oEnc o).1.length ≤ 36 := by
 unfold oEnc
 split
 · have h1 := oBody_len o
   have h2 := fSize_le o.field
   have h3 : (oHead o).length ≤ 4 := by
     unfold oHead
     have a1 := putN_len [] 32768 2
     have a2 := putN_len (putN [] 32768 2) (oNum o) 1
     have a3 := putN_len (putN (putN [] 32768 2) (oNum o) 1) (oBody o).length 1
     simp at a1; omega
   simp only [List.length_append]
   have : (oBody o).length ≤ 32 := by rw [h1]; split <;> omega
   omega
 · simp
theorem aBody_len (a : Action) : (aBody a).length ≤ 36 := by
 have h1 := putN_len [] a.port 4
 have h2 := putN_len (putN [] a.port 4) a.max 2
 have h3 := putN_len [] a.group 4
 have h4 := putN_len [] a.ether 2
 have h5 := oEnc_len a.oxm
 simp at h1 h3 h4
 unfold aBody; split
 · omega
 split
 · omega
 split
 · omega
 split
 · omega
 · simp
set_option maxHeartbeats 4000000 in
theorem abody_c (a : Action) : FnO Tryz.prog 244 [.agg a.enc] (aBody a).length 1 (byL (aBody a)) := by
 have p1 := nputP_c [] a.port 4 (by unfold Sz; omega) (by simp)
 have l1 := putN_len [] a.port 4
 simp at l1
 have p2 := nput_c (putN [] a.port 4) a.max 2 (by unfold Sz; omega) (by omega)
 have p3 := nput_c [] a.group 4 (by unfold Sz; omega) (by simp)
 have p4 := nput_c [] a.ether 2 (by unfold Sz; omega) (by simp)
 have p5 := oencT_c a.oxm
 rw [show byS [] = .sl false 0 [] from rfl] at p1 p3 p4
 obtain ⟨k, port, max, group, ether, oxm⟩ := a
 simp only [Oxm.enc] at p1 p2 p3 p4 p5
 by_cases k0 : k = 0
 · subst k0
   have e : aBody ⟨0, port, max, group, ether, oxm⟩ = putN (putN [] port 4) max 2 := rfl
   rw [e]
   refine FnO.intro Tryz.func244 rfl rfl fun G w => ?_
   repeat' (first | apply WK.s | apply WK.b | refine WK.cT rfl ?_ | (refine hQ.h _ _ ?_; clear hQ hA) | (refine WK.rH Tryz.ntmps244 (by kernel_rfl) ?_; intro A hA Q hQ; simp [Action.enc, *]) | (refine WK.rX (by kernel_rfl) Tryz.ntmps244 (by kernel_rfl) ?_; intro A hA Q hQ; simp [Action.enc, *]) | (refine hQ.h _ _ _ (by decide +kernel) ?_; clear hQ hA) | (refine RunX.callO 900 rfl rfl rfl rfl ?_ (p2) ?_ ?_ ?_ ?_; (focus (simp (maxDischargeDepth := 120) [Action.enc, *]; done)); (focus (simp [Action.enc, *]; done)); (focus (simp [Action.enc, *]; done)); (focus (simp [Action.enc, *]; done)); refine RunX.e ?_; simp [Action.enc, *]) | (refine RunX.k rfl rfl rfl rfl ?_ (p1) ?_ ?_ <;> simp (maxDischargeDepth := 120) [Action.enc, *] <;> refine ⟨?_⟩) | (refine WK.retO Tryz.func244 rfl rfl ?_ ?_ <;> simp (maxDischargeDepth := 120) [Action.enc, *]))
 by_cases k1 : k = 22
 · subst k1
   have e : aBody ⟨22, port, max, group, ether, oxm⟩ = putN [] group 4 := rfl
   rw [e]
   refine FnO.intro Tryz.func244 rfl rfl fun G w => ?_
   repeat' (first | apply WK.s | apply WK.b | refine WK.cT rfl ?_ | refine WK.cF rfl ?_ | (refine hQ.h _ _ ?_; clear hQ hA) | (refine WK.rH Tryz.ntmps244 (by kernel_rfl) ?_; intro A hA Q hQ; simp [Action.enc, *]) | (refine RunQ.callO 900 rfl rfl rfl rfl rfl ?_ (p3) ?_ ?_ ?_ ?_; (focus (simp (maxDischargeDepth := 120) [Action.enc, *]; done)); (focus (simp [Action.enc, *]; done)); (focus (simp [Action.enc, *]; done)); (focus (simp [Action.enc, *]; done)); refine RunQ.e ?_; simp [Action.enc, *]) | (refine WK.retO Tryz.func244 rfl rfl ?_ ?_ <;> simp (maxDischargeDepth := 120) [Action.enc, *]))
 by_cases k2 : k = 17
 · subst k2
   have e : aBody ⟨17, port, max, group, ether, oxm⟩ = putN [] ether 2 := rfl
   rw [e]
   refine FnO.intro Tryz.func244 rfl rfl fun G w => ?_
   repeat' (first | apply WK.s | apply WK.b | refine WK.cT rfl ?_ | refine WK.cF rfl ?_ | (refine hQ.h _ _ ?_; clear hQ hA) | (refine WK.rH Tryz.ntmps244 (by kernel_rfl) ?_; intro A hA Q hQ; simp [Action.enc, *]) | (refine RunQ.callO 900 rfl rfl rfl rfl rfl ?_ (p4) ?_ ?_ ?_ ?_; (focus (simp (maxDischargeDepth := 120) [Action.enc, *]; done)); (focus (simp [Action.enc, *]; done)); (focus (simp [Action.enc, *]; done)); (focus (simp [Action.enc, *]; done)); refine RunQ.e ?_; simp [Action.enc, *]) | (refine WK.retO Tryz.func244 rfl rfl ?_ ?_ <;> simp (maxDischargeDepth := 120) [Action.enc, *]))
 by_cases k4 : k = 25
 · subst k4
   have e : aBody ⟨25, port, max, group, ether, oxm⟩ = (oEnc oxm).1 := rfl
   rw [e]
   refine FnO.intro Tryz.func244 rfl rfl fun G w => ?_
   repeat' (first | apply WK.s | apply WK.b | refine WK.cT rfl ?_ | refine WK.cF rfl ?_ | (refine hQ.h _ _ ?_; clear hQ hA) | (refine WK.rH Tryz.ntmps244 (by kernel_rfl) ?_; intro A hA Q hQ; simp [Action.enc, *]) | (refine RunQ.callT 900 rfl rfl rfl rfl rfl ?_ (p5) ?_ ?_ ?_ ?_ ?_; (focus (simp (maxDischargeDepth := 120) [Action.enc, *]; done)); (focus (simp [Action.enc, *]; done)); (focus (simp [Action.enc, *]; done)); (focus (simp [Action.enc, *]; done)); (focus (simp [Action.enc, *]; done)); refine RunQ.e ?_; simp [Action.enc, *]) | (refine WK.retO Tryz.func244 rfl rfl ?_ ?_ <;> simp (maxDischargeDepth := 120) [Action.enc, *]))
 · have e : aBody ⟨k, port, max, group, ether, oxm⟩ = [] := by unfold aBody; rw [if_neg k0, if_neg k1, if_neg k2, if_neg k4]
   rw [e]
   refine FnO.intro Tryz.func244 rfl rfl fun G w => ?_
   repeat' (first | apply WK.s | apply WK.b | apply WK.n | apply WK.k | (refine hQ.h _ _ ?_; clear hQ hA) | (refine WK.c2 rfl (fun h => ?_) (fun h => ?_) <;> (first | (simp [*] at h; done) | (have h2 := h; simp at h2; exfalso; omega) | (have h2 := h; simp at h2; try simp only [Bool.not_eq_true', Bool.not_eq_false'] at h) | skip)) | (refine WK.rH Tryz.ntmps244 (by kernel_rfl) ?_; intro A hA Q hQ; simp [Action.enc, *]))
   refine WK.ghost (Ghost.own 2 900 1 rfl rfl) ?_
   refine WK.retO Tryz.func244 (by rfl) (by rfl) (by simp (maxDischargeDepth := 120) [b0_]) (by simp [b0_])

def aLen (n : Nat) : Nat := if 8 < (4 + n + 7) / 8 * 8 then (4 + n + 7) / 8 * 8 else 8
def aPad (a : Action) : List (BitVec 8) := aBody a ++ List.replicate (aLen (aBody a).length - 4 - (aBody a).length) 0#8
def aEnc (a : Action) : List (BitVec 8) × Int := if Action.right a = true then (putN (putN [] a.kind 2) (aLen (aBody a).length : Nat) 2 ++ aPad a, 0) else ([], 1)
theorem aLen_ge (n : Nat) : 4 + n ≤ aLen n ∧ 8 ≤ aLen n := by unfold aLen; split <;> omega
theorem aLen_le (n : Nat) (h : n ≤ 36) : aLen n ≤ 48 := by unfold aLen; split <;> omega
theorem aPad_len (a : Action) : 4 + (aPad a).length = aLen (aBody a).length := by
 have := aLen_ge (aBody a).length
 simp only [aPad, List.length_append, List.length_replicate]; omega
theorem byL_rep (n : Nat) : List.replicate n (AV.int .u8 0) = byL (List.replicate n 0#8) := by simp [byL, bI]
theorem bNot7_all : ∀ n : Fin 64, bNot .i64 (n.val : Int) 7 = ((n.val / 8 * 8 : Nat) : Int) := by decide +kernel
theorem bNot7 (n : Nat) (h : n < 64) : bNot .i64 (n : Int) 7 = ((n / 8 * 8 : Nat) : Int) := bNot7_all ⟨n, h⟩
set_option maxHeartbeats 4000000 in
theorem aenc_c (a : Action) : FnT Tryz.prog 243 [.agg a.enc] (aEnc a).1.length 1 (byL (aEnc a).1) [.int .i64 (aEnc a).2] := by
 have hr := aright_c a
 cases k : Action.right a
 · have e : aEnc a = ([], 1) := by unfold aEnc; rw [k, if_neg Bool.false_ne_true]
   rw [k] at hr
   rw [e]
   refine FnT.intro Tryz.func243 rfl rfl fun G w => ?_
   repeat' (first | apply WK.s | refine WK.cT rfl ?_ | (refine hQ.h _ _ ?_; clear hQ hA) | (refine WK.rH Tryz.ntmps243 (by kernel_rfl) ?_; intro A hA Q hQ; simp [*]) | (refine RunQ.k rfl rfl rfl rfl rfl ?_ (hr) ?_ ?_ <;> simp (maxDischargeDepth := 120) [*] <;> refine ⟨?_⟩))
   refine WK.ghost (Ghost.own 2 900 1 rfl rfl) ?_
   refine WK.retT2 Tryz.func243 ?_ ?_ ?_ <;> simp (maxDischargeDepth := 120) [Tryz.results243, b0_]
 have e : aEnc a = (putN (putN [] a.kind 2) (aLen (aBody a).length : Nat) 2 ++ aPad a, 0) := by unfold aEnc; rw [k, if_pos rfl]
 rw [k] at hr
 have hb := abody_c a
 have hl := aBody_len a
 have hpl := aPad_len a
 have hep : aPad a = aBody a ++ List.replicate (aLen (aBody a).length - 4 - (aBody a).length) 0#8 := rfl
 have hle := aLen_le _ hl
 have hge := aLen_ge (aBody a).length
 have hdef : aLen (aBody a).length = if 8 < (4 + (aBody a).length + 7) / 8 * 8 then (4 + (aBody a).length + 7) / 8 * 8 else 8 := rfl
 have p1 := nputP_c [] a.kind 2 (by unfold Sz; omega) (by simp)
 have l1 := putN_len [] a.kind 2
 simp only [List.length_nil, Nat.zero_add] at l1
 have p2 := nput_c (putN [] a.kind 2) (aLen (aBody a).length : Nat) 2 (by unfold Sz; omega) (by omega)
 have l2 := putN_len (putN [] a.kind 2) (aLen (aBody a).length : Nat) 2
 rw [show byS [] = .sl false 0 [] from rfl] at p1
 obtain ⟨B, hB⟩ : ∃ B, aBody a = B := ⟨_, rfl⟩
 rw [hB] at hb hl hpl hep hle hge hdef p2 l2 e
 obtain ⟨n, hn⟩ : ∃ n, aLen B.length = n := ⟨_, rfl⟩
 rw [hn] at hpl hep hle hge hdef p2 l2 e
 have q1 : IntKind.i64.wrap (4 + (B.length : Int)) = ((4 + B.length : Nat) : Int) := by rw [wrap_i64 (by omega) (by omega)]; omega
 have q2 : IntKind.i64.wrap (((4 + B.length : Nat) : Int) + 7) = ((4 + B.length + 7 : Nat) : Int) := by rw [wrap_i64 (by omega) (by omega)]; omega
 have q3 := bNot7 (4 + B.length + 7) (by omega)
 obtain ⟨x1, hx1⟩ : ∃ x1, 4 + B.length = x1 := ⟨_, rfl⟩
 rw [hx1] at q1 q2 q3 hdef hge
 obtain ⟨x2, hx2⟩ : ∃ x2, x1 + 7 = x2 := ⟨_, rfl⟩
 rw [hx2] at q2 q3 hdef
 obtain ⟨x3, hx3⟩ : ∃ x3, x2 / 8 * 8 = x3 := ⟨_, rfl⟩
 rw [hx3] at q3 hdef
 have q4 : (if (8 : Int) < (x3 : Int) then (x3 : Int) else 8) = (n : Int) := by rw [hdef]; split <;> split <;> omega
 have q4' : (if (x3 : Int) < 8 then (8 : Int) else (x3 : Int)) = (n : Int) := by rw [hdef]; split <;> split <;> omega
 have q5 : IntKind.i64.wrap ((n : Int) - 4) = ((n - 4 : Nat) : Int) := by rw [wrap_i64 (by omega) (by omega)]; omega
 obtain ⟨n4, hn4⟩ : ∃ n4, n - 4 = n4 := ⟨_, rfl⟩
 rw [hn4] at q5 hep
 have q6 : IntKind.i64.wrap ((n4 : Int) - (B.length : Int)) = ((n4 - B.length : Nat) : Int) := by rw [wrap_i64 (by omega) (by omega)]; omega
 obtain ⟨m, hm⟩ : ∃ m, n4 - B.length = m := ⟨_, rfl⟩
 rw [hm] at q6 hep
 have hbd1 : (B.length + m) * 1 ≤ 140737488355328 := by omega
 have hbd2 : ((putN (putN [] a.kind 2) (n : Int) 2).length + (B.length + m)) ≤ 140737488355328 := by omega
 have hz := byL_rep m
 have hf : byL B ++ byL (List.replicate m 0#8) = byL (aPad a) := by rw [← byL_app, hep]
 have hk0 : a.enc[0]? = some (.int .i64 a.kind) := rfl
 have hpl2 : (aPad a).length = B.length + m := by rw [hep]; simp
 rw [e]
 clear hep hB hn hx1 hx2 hx3 hn4 hm hdef hpl hl hle hge l1 l2
 refine FnT.intro Tryz.func243 rfl rfl fun G w => ?_
 repeat' (first | apply WK.s | apply WK.k | refine WK.cF rfl ?_ | (refine hQ.h _ _ ?_; clear hQ hA) | (refine WK.rH Tryz.ntmps243 (by kernel_rfl) ?_; intro A hA Q hQ; simp [q1, q2, q3, q4, q4', q5, q6, *]) | (refine RunQ.callO 900 rfl rfl rfl rfl rfl ?_ (hb) ?_ ?_ ?_ ?_; (focus (simp (maxDischargeDepth := 120) [q1, q2, q3, q4, q4', q5, q6, *]; done)); (focus (simp [q1, q2, q3, q4, q4', q5, q6, *]; done)); (focus (simp [q1, q2, q3, q4, q4', q5, q6, *]; done)); (focus (simp [q1, q2, q3, q4, q4', q5, q6, *]; done)); refine RunQ.e ?_; simp [q1, q2, q3, q4, q4', q5, q6, *]) | (refine RunQ.callO 901 rfl rfl rfl rfl rfl ?_ (p2) ?_ ?_ ?_ ?_; (focus (simp (maxDischargeDepth := 120) [q1, q2, q3, q4, q4', q5, q6, *]; done)); (focus (simp [q1, q2, q3, q4, q4', q5, q6, *]; done)); (focus (simp [q1, q2, q3, q4, q4', q5, q6, *]; done)); (focus (simp [q1, q2, q3, q4, q4', q5, q6, *]; done)); refine RunQ.e ?_; simp [q1, q2, q3, q4, q4', q5, q6, *]) | (refine RunQ.appendZ (m := m) (kk := .i64) (zv := .int .u8 0) 902 appByte rfl rfl rfl rfl (by simp) (by simp) rfl ?_ rfl rfl rfl ?_ ?_ ?_ ?_; (focus (simp (maxDischargeDepth := 120) [q1, q2, q3, q4, q4', q5, q6, *]; done)); (focus (first | omega | (simp [q1, q2, q3, q4, q4', q5, q6, *]; done); done)); (focus (first | omega | (simp [q1, q2, q3, q4, q4', q5, q6, *]; done); done)); (focus (simp [q1, q2, q3, q4, q4', q5, q6, *]; done)); refine RunQ.e ?_; simp [q1, q2, q3, q4, q4', q5, q6, *]) | (refine RunQ.appendFz 903 appByte rfl rfl rfl rfl rfl rfl rfl rfl rfl rfl ?_ ?_ ?_ ?_ ?_ ?_; (focus (first | omega | (simp [q1, q2, q3, q4, q4', q5, q6, *]; done); done)); (focus (first | omega | (simp [q1, q2, q3, q4, q4', q5, q6, *]; done); done)); (focus (first | omega | (simp [q1, q2, q3, q4, q4', q5, q6, *]; done); done)); (focus (simp [q1, q2, q3, q4, q4', q5, q6, *]; done)); (focus (simp [q1, q2, q3, q4, q4', q5, q6, *]; done)); refine RunQ.e ?_; simp [q1, q2, q3, q4, q4', q5, q6, *]) | (refine RunQ.k rfl rfl rfl rfl rfl ?_ (hr) ?_ ?_ <;> simp (maxDischargeDepth := 120) [q1, q2, q3, q4, q4', q5, q6, *] <;> refine ⟨?_⟩) | (refine RunQ.k rfl rfl rfl rfl rfl ?_ (p1) ?_ ?_ <;> simp (maxDischargeDepth := 120) [q1, q2, q3, q4, q4', q5, q6, *] <;> refine ⟨?_⟩) | (refine WK.retT2 Tryz.func243 ?_ ?_ ?_ <;> simp (maxDischargeDepth := 120) [Tryz.results243, q1, q2, q3, q4, q4', q5, q6, byL_app, *]))

theorem putN_ok {b : List (BitVec 8)} {n : Int} {s : Nat} (h : numOk n s = true) : (putN b n s).length = b.length + s := by
 unfold putN; rw [h, if_pos rfl, List.length_append, beN_len]
theorem right_cases {a : Action} (h : Action.right a = true) : (a.kind = 0 ∧ numOk a.port 4 = true ∧ numOk a.max 2 = true) ∨ (a.kind = 22 ∧ numOk a.group 4 = true) ∨ (a.kind = 17 ∧ numOk a.ether 2 = true) ∨
   a.kind = 18 ∨ (a.kind = 25 ∧ Oxm.right a.oxm = true) := by
 unfold Action.right Action.fine at h
 rw [Bool.and_eq_true] at h
 obtain ⟨h, _⟩ := h
 unfold aGoes aMost at h
 unfold numOk
 split at h
 · rename_i k; left
   simp only [Bool.and_eq_true, Bool.or_eq_true, decide_eq_true_eq, beq_iff_eq] at h ⊢
   refine ⟨k, ?_, ?_⟩ <;> omega
 split at h
 · rename_i k; right; left
   simp only [Bool.and_eq_true, Bool.or_eq_true, decide_eq_true_eq, beq_iff_eq] at h ⊢
   refine ⟨k, ?_⟩; omega
 split at h
 · rename_i k; right; right; left
   simp only [Bool.and_eq_true, Bool.or_eq_true, decide_eq_true_eq, beq_iff_eq] at h ⊢
   refine ⟨k, ?_⟩; omega
 split at h
 · rename_i k; exact .inr (.inr (.inr (.inl k)))
 split at h
 · rename_i k; right; right; right; right
   simp only [Bool.and_eq_true] at h
   exact ⟨k, h.1⟩
 · cases h
theorem oEnc_ge {o : Oxm} (h : Oxm.right o = true) : 5 ≤ (oEnc o).1.length := by
 have hf := right_field h
 have hs : 1 ≤ fSize o.field := by
   unfold fRight at hf
   rw [Bool.and_eq_true, decide_eq_true_eq, decide_eq_true_eq] at hf
   unfold fSize fBits fRow
   rw [if_pos ⟨hf.1, hf.2⟩]
   have hl : o.field.toNat < fRows.length := by show o.field.toNat < 24; omega
   have : ∀ r, r ∈ fRows → 2 ≤ r.2.1 := by decide
   have := this _ (nth_mem hl)
   omega
 have hid : 0 ≤ oNum o ∧ oNum o < 256 := by
   have hp : 0 ≤ fID o.field ∧ fID o.field ≤ 34 := by
     unfold fRight at hf
     rw [Bool.and_eq_true, decide_eq_true_eq, decide_eq_true_eq] at hf
     unfold fID fRow
     rw [if_pos ⟨hf.1, hf.2⟩]
     have hl : o.field.toNat < fRows.length := by show o.field.toNat < 24; omega
     have : ∀ r, r ∈ fRows → 0 ≤ r.1 ∧ r.1 ≤ 34 := by decide
     exact this _ (nth_mem hl)
   unfold oNum; split <;> omega
 have hbl := oBody_len o
 have h16 := fSize_le o.field
 have hb : (oBody o).length ≤ 32 ∧ 1 ≤ (oBody o).length := by rw [hbl]; split <;> omega
 have a1 : (putN [] 32768 2).length = 2 := putN_ok (b := []) (n := 32768) (s := 2) rfl
 have a2 : (putN (putN [] 32768 2) (oNum o) 1).length = 3 := by rw [putN_ok (by unfold numOk; simp; omega), a1]
 have a3 : (oHead o).length = 4 := by unfold oHead; rw [putN_ok (by unfold numOk; simp; omega), a2]
 unfold oEnc; rw [if_pos h]; simp only [List.length_append]; omega

theorem Sz4 : Sz 4 := .inr (.inr rfl)
theorem Sz2 : Sz 2 := .inr (.inl rfl)
theorem Sz1 : Sz 1 := .inl rfl

theorem indexf_by (fid : Nat) (caps : List AV) (p : BitVec 8 → Bool) (l : List (BitVec 8)) (hcl : ClL caps = true) (hl : l.length ≤ 9223372036854775807)
   (hf : ∀ x, x ∈ l → FnP Tryz.prog fid (.int .u8 (bI x) :: caps) (.bool (p x))) :
   FnP Tryz.prog 165 [byS l, .fn fid caps] (.int .i64 (idxI p l)) := by
 unfold byS
 refine FnP.i Tryz.func165 rfl rfl fun G w => ?_
 repeat' (first | apply WK.s | apply WK.b | (refine hQ.h _ _ ?_; clear hQ hA) | (refine WK.rH Tryz.ntmps165 (by kernel_rfl) ?_; intro A hA Q hQ; simp [*]))
 refine WK.lI (fun n => n) (fun i : Nat => (⟨(upd (upd (upd (upd J 0 (.sl false l.length (byL l))) 1 (.fn fid caps)) 7 (.int .i64 l.length)) 8 (.int .i64 i)), B0, 0⟩ : St)) (fun i => i ≤ l.length ∧ ∀ j, j < i → p (nth l j) = false) (fun i => l.length - i) (0) (by repeat (first | exact TmW.nil | refine TmW.upd ?_ (by simp (maxDischargeDepth := 120) [hcl]))) (by repeat (first | exact BxW.nil | refine BxW.upd ?_ (by simp (maxDischargeDepth := 120) [hcl]))) InjW.id (⟨by omega, by simp⟩) (fun i hi IH => ?_)
 by_cases h1 : i < l.length
 · have h4 := by_get l i h1
   have h6 : IntKind.i64.wrap ((i : Int) + 1) = i + 1 := wrap_i64 (by omega) (by omega)
   have hc := hf (nth l i) (nth_mem h1)
   cases h5 : p (nth l i)
   · repeat' (first | apply WK.s | apply WK.b | apply WK.n | apply WK.k | refine WK.cT rfl ?_ | refine WK.cF rfl ?_ | (refine hQ.h _ _ ?_; clear hQ hA) | (refine WK.rH Tryz.ntmps165 (by kernel_rfl) ?_; intro A hA Q hQ; simp [*]) | (refine RunQ.k rfl rfl rfl rfl rfl ?_ (hc) ?_ ?_ <;> simp (maxDischargeDepth := 120) [*] <;> refine ⟨?_⟩))
     refine WK.next (fun n => n) (IH (i + 1) (⟨by omega, fun j hj => by by_cases h7 : j = i; (subst h7; exact h5); exact hi.2 j (by omega)⟩) (by first | omega | (dsimp only; omega))) (by repeat (first | exact TmW.nil | refine TmW.upd ?_ (by simp (maxDischargeDepth := 120) [hcl]))) (by repeat (first | exact BxW.nil | refine BxW.upd ?_ (by simp (maxDischargeDepth := 120) [hcl]))) InjW.id
   · have e := idxI_some h1 h5 hi.2
     repeat' (first | apply WK.s | apply WK.b | apply WK.k | refine WK.cT rfl ?_ | (refine hQ.h _ _ ?_; clear hQ hA) | (refine WK.rH Tryz.ntmps165 (by kernel_rfl) ?_; intro A hA Q hQ; simp [*]) | (refine RunQ.k rfl rfl rfl rfl rfl ?_ (hc) ?_ ?_ <;> simp (maxDischargeDepth := 120) [*] <;> refine ⟨?_⟩) | (refine WK.t Tryz.func165 ?_ ?_ <;> simp (maxDischargeDepth := 120) [Tryz.results165, *]))
 · have e := idxI_none (p := p) (l := l) (fun j hj => hi.2 j (by omega))
   repeat' (first | apply WK.s | refine WK.exit rfl ?_ | refine WK.cF rfl ?_ | (refine hQ.h _ _ ?_; clear hQ hA) | (refine WK.rH Tryz.ntmps165 (by kernel_rfl) ?_; intro A hA Q hQ; simp [*]) | (refine WK.t Tryz.func165 ?_ ?_ <;> simp (maxDischargeDepth := 120) [Tryz.results165, *]))
theorem containsf_by (fid : Nat) (caps : List AV) (p : BitVec 8 → Bool) (l : List (BitVec 8)) (hcl : ClL caps = true) (hl : l.length ≤ 9223372036854775807)
   (hf : ∀ x, x ∈ l → FnP Tryz.prog fid (.int .u8 (bI x) :: caps) (.bool (p x))) :
   FnP Tryz.prog 131 [byS l, .fn fid caps] (.bool (l.any p)) := by
 have e := idxI_ge p l
 simp only [ge_iff_le] at e
 have hi := indexf_by fid caps p l hcl hl hf
 refine FnP.i Tryz.func131 rfl rfl fun G w => ?_
 repeat' (first | apply WK.s | (refine hQ.h _ _ ?_; clear hQ hA) | (refine WK.rH Tryz.ntmps131 (by kernel_rfl) ?_; intro A hA Q hQ; simp [*]) | (refine RunQ.k rfl rfl rfl rfl rfl ?_ (hi) ?_ ?_ <;> simp (maxDischargeDepth := 120) [*] <;> refine ⟨?_⟩) | (refine WK.t Tryz.func131 ?_ ?_ <;> simp (maxDischargeDepth := 120) [Tryz.results131, *]))
def allZ (b : List (BitVec 8)) : Bool := b.all fun x => x == 0#8
theorem bI_zero (x : BitVec 8) : (bI x == 0) = (x == 0#8) := by
 rw [Bool.eq_iff_iff, beq_iff_eq, beq_iff_eq]
 unfold bI
 constructor
 · intro h; exact BitVec.eq_of_toNat_eq (by simp; omega)
 · intro h; subst h; rfl
theorem empty1_c (x : BitVec 8) : FnP Tryz.prog 208 [.int .u8 (bI x)] (.bool (!(x == 0#8))) := by
 have e := bI_zero x
 refine FnP.i Tryz.func208 rfl rfl fun G w => ?_
 repeat' (first | apply WK.s | (refine hQ.h _ _ ?_; clear hQ hA) | (refine WK.rH Tryz.ntmps208 (by kernel_rfl) ?_; intro A hA Q hQ; simp [bne, *]) | (refine WK.t Tryz.func208 ?_ ?_ <;> simp (maxDischargeDepth := 120) [Tryz.results208, bne, *]))
theorem aempty_c (b : List (BitVec 8)) (hb : b.length ≤ 9223372036854775807) : FnP Tryz.prog 204 [byS b] (.bool (allZ b)) := by
 have h := containsf_by 208 [] (fun x => !(x == 0#8)) b rfl hb (fun x _ => empty1_c x)
 have e : allZ b = !(b.any fun x => !(x == 0#8)) := by unfold allZ; rw [List.any_eq_not_all_not]; simp
 rw [e]
 refine FnP.i Tryz.func204 rfl rfl fun G w => ?_
 repeat' (first | apply WK.s | (refine hQ.h _ _ ?_; clear hQ hA) | (refine WK.rH Tryz.ntmps204 (by kernel_rfl) ?_; intro A hA Q hQ; simp [*]) | (refine RunQ.k rfl rfl rfl rfl rfl ?_ (h) ?_ ?_ <;> simp (maxDischargeDepth := 120) [*] <;> refine ⟨?_⟩) | (refine WK.t Tryz.func204 ?_ ?_ <;> simp (maxDischargeDepth := 120) [Tryz.results204, *]))
theorem rnoughts_c (b : List (BitVec 8)) (hb : b.length ≤ 9223372036854775807) : FnP Tryz.prog 176 [byS b] (.bool (allZ b)) := by
 unfold byS
 refine FnP.i Tryz.func176 rfl rfl fun G w => ?_
 repeat' (first | apply WK.s | apply WK.b | (refine hQ.h _ _ ?_; clear hQ hA) | (refine WK.rH Tryz.ntmps176 (by kernel_rfl) ?_; intro A hA Q hQ; simp [*]))
 refine WK.lI (fun n => n) (fun i : Nat => (⟨(upd (upd J 0 (.sl false b.length (byL b))) 3 (.int .i64 i)), B0, 0⟩ : St)) (fun i => i ≤ b.length ∧ ∀ j, j < i → nth b j = 0#8) (fun i => b.length - i) (0) (by repeat (first | exact TmW.nil | refine TmW.upd ?_ (by simp (maxDischargeDepth := 120)))) (by repeat (first | exact BxW.nil | refine BxW.upd ?_ (by simp (maxDischargeDepth := 120)))) InjW.id (⟨by omega, by simp⟩) (fun i hi IH => ?_)
 by_cases h1 : i < b.length
 · have h4 := by_get b i h1
   have h6 : IntKind.i64.wrap ((i : Int) + 1) = i + 1 := wrap_i64 (by omega) (by omega)
   have h7 := bI_zero (nth b i)
   cases h5 : nth b i == 0#8
   · have e : allZ b = false := by
       unfold allZ; rw [List.all_eq_false]; exact ⟨nth b i, nth_mem h1, by simp [h5]⟩
     rw [h5] at h7
     repeat' (first | apply WK.s | apply WK.b | apply WK.k | refine WK.cT rfl ?_ | (refine hQ.h _ _ ?_; clear hQ hA) | (refine WK.rH Tryz.ntmps176 (by kernel_rfl) ?_; intro A hA Q hQ; simp [bne, *]) | (refine WK.t Tryz.func176 ?_ ?_ <;> simp (maxDischargeDepth := 120) [Tryz.results176, bne, *]))
   · rw [h5] at h7
     repeat' (first | apply WK.s | apply WK.b | apply WK.n | apply WK.k | refine WK.cT rfl ?_ | refine WK.cF rfl ?_ | (refine hQ.h _ _ ?_; clear hQ hA) | (refine WK.rH Tryz.ntmps176 (by kernel_rfl) ?_; intro A hA Q hQ; simp [bne, *]))
     refine WK.next (fun n => n) (IH (i + 1) (⟨by omega, fun j hj => by by_cases h7 : j = i; (subst h7; simpa using h5); exact hi.2 j (by omega)⟩) (by first | omega | (dsimp only; omega))) (by repeat (first | exact TmW.nil | refine TmW.upd ?_ (by simp (maxDischargeDepth := 120)))) (by repeat (first | exact BxW.nil | refine BxW.upd ?_ (by simp (maxDischargeDepth := 120)))) InjW.id
 · have e : allZ b = true := by
     unfold allZ; rw [List.all_eq_true]; intro x hx
     obtain ⟨j, hj, rfl⟩ := mem_nth hx
     rw [hi.2 j (by omega)]; rfl
   repeat' (first | apply WK.s | refine WK.exit rfl ?_ | refine WK.cF rfl ?_ | (refine hQ.h _ _ ?_; clear hQ hA) | (refine WK.rH Tryz.ntmps176 (by kernel_rfl) ?_; intro A hA Q hQ; simp [*]) | (refine WK.t Tryz.func176 ?_ ?_ <;> simp (maxDischargeDepth := 120) [Tryz.results176, *]))

theorem bNot7b_all : ∀ n : Fin 512, bNot .i64 (n.val : Int) 7 = ((n.val / 8 * 8 : Nat) : Int) := by decide +kernel
theorem bNot7b (n : Nat) (h : n < 512) : bNot .i64 (n : Int) 7 = ((n / 8 * 8 : Nat) : Int) := bNot7b_all ⟨n, h⟩
theorem bAnd7 (n : Nat) (h : n < 65536) : bAnd .i64 (n : Int) 7 = ((n % 8 : Nat) : Int) := by
 unfold bAnd
 show IntKind.wrap .i64 (((BitVec.ofInt 64 (n : Int) &&& BitVec.ofInt 64 7).toNat : Nat) : Int) = _
 rw [show BitVec.ofInt 64 (n : Int) = BitVec.ofNat 64 n from by rw [← BitVec.ofInt_natCast], show BitVec.ofInt 64 7 = BitVec.ofNat 64 7 from rfl, BitVec.toNat_and, BitVec.toNat_ofNat, BitVec.toNat_ofNat, Nat.mod_eq_of_lt (by omega), Nat.mod_eq_of_lt (by omega)]
 have e3 : n &&& 7 = n % 8 := Nat.and_two_pow_sub_one_eq_mod n 3
 rw [e3, wrap_i64 (by omega) (by omega)]
def aBad (c : Int) : Action × Int × Option Int := (act0, 0, some c)
def aF : Option Int → List AV
 | none => [.bool false, .int .i64 0, .int .i64 0]
 | some c => [.bool true, .int .i64 2, .int .i64 c]
def aRes (r : Action × Int × Option Int) : AV := .tup [.agg r.1.enc, .int .i64 r.2.1, .agg (aF r.2.2)]
theorem zA : (type_of% @aRes.eq_1) ∧ (type_of% @aBad.eq_1) ∧ (type_of% @act0.eq_1) ∧ (type_of% @Action.enc.eq_1) ∧ (type_of% @oxm0.eq_1) ∧ (type_of% @wideZ.eq_1) ∧ (type_of% @uZ_) := ⟨aRes.eq_1, aBad.eq_1, act0.eq_1, Action.enc.eq_1, oxm0.eq_1, wideZ.eq_1, uZ_⟩
@[simp] theorem aFault_cl (c : Option Int) : ClL (aF c) = true := by cases c <;> rfl
@[simp] theorem aRes_cl (r : Action × Int × Option Int) : Cl (aRes r) = true := by simp [aRes, Cl, ClL]
theorem abad_c (c : Int) : FnP Tryz.prog 201 [.int .i64 c] (aRes (aBad c)) := by
 refine FnP.i Tryz.func201 rfl rfl fun G w => ?_
 repeat' (first | apply WK.s | (refine hQ.h _ _ ?_; clear hQ hA) | (refine WK.rH Tryz.ntmps201 (by kernel_rfl) ?_; intro A hA Q hQ; simp [*]) | (refine WK.t Tryz.func201 ?_ ?_ <;> simp (maxDischargeDepth := 120) [Tryz.results201, aRes, aBad, aF, act0, Action.enc, oxm0, wideZ, uZ_, *]))
theorem rabad_c (c : Int) : FnP Tryz.prog 172 [.int .i64 c] (.agg [.bool true, .int .i64 2, .int .i64 c]) := by
 refine FnP.i Tryz.func172 rfl rfl fun G w => ?_
 repeat' (first | apply WK.s | (refine hQ.h _ _ ?_; clear hQ hA) | (refine WK.rH Tryz.ntmps172 (by kernel_rfl) ?_; intro A hA Q hQ; simp [*]) | (refine WK.t Tryz.func172 ?_ ?_ <;> simp (maxDischargeDepth := 120) [Tryz.results172, *]))
def aLength (k : Int) : Nat × Nat := if k = 0 then (16, 10) else if k = 22 then (8, 8) else if k = 17 then (8, 6) else if k = 18 then (8, 4) else (0, 0)
theorem alength_c (k : Int) : FnP Tryz.prog 203 [.int .i64 k] (.tup [.int .i64 ((aLength k).1 : Int), .int .i64 ((aLength k).2 : Int)]) := by
 refine FnP.i Tryz.func203 rfl rfl fun G w => ?_
 repeat' (first | apply WK.s | apply WK.b | apply WK.n | apply WK.k | (refine hQ.h _ _ ?_; clear hQ hA) | (refine WK.c2 rfl (fun h => ?_) (fun h => ?_) <;> (first | (simp [*] at h; done) | (have h2 := h; simp at h2; exfalso; omega) | (have h2 := h; simp at h2; try simp only [Bool.not_eq_true', Bool.not_eq_false'] at h) | skip)) | (refine WK.rH Tryz.ntmps203 (by kernel_rfl) ?_; intro A hA Q hQ; simp [*]) | (refine WK.t Tryz.func203 ?_ ?_ <;> simp (maxDischargeDepth := 120) [Tryz.results203, aLength, *]))
def aK_ (k : Int) : Bool := k == 0 || (k == 22 || (k == 17 || (k == 18 || k == 25)))
theorem raknown_c (k : Int) : FnP Tryz.prog 174 [.int .i64 k] (.bool (aK_ k)) := by
 refine FnP.i Tryz.func174 rfl rfl fun G w => ?_
 repeat' (first | apply WK.s | (refine hQ.h _ _ ?_; clear hQ hA) | (refine Fork.mk (fun h => ?_) (fun h => ?_) <;> (first | (simp [*] at h; done) | (have h2 := h; simp at h2; exfalso; omega) | (have h2 := h; simp at h2; try simp only [Bool.not_eq_true', Bool.not_eq_false'] at h) | skip)) | (refine WK.rH Tryz.ntmps174 (by kernel_rfl) ?_; intro A hA Q hQ; simp [*]) | (refine RunQ.g rfl (by rw [hA.h]; rfl) ?_; simp [*]) | (refine WK.t Tryz.func174 ?_ ?_ <;> simp (maxDischargeDepth := 120) [Tryz.results174, aK_, *]))
theorem rnumber_c (b : List (BitVec 8)) (p s : Nat) (hs : Sz s) (hb : b.length ≤ 9223372036854775807) (hp : p ≤ 1000000) : FnP Tryz.prog 173 [byS b, .int .i64 p, .int .i64 s] (.int .i64 (getN b p s).1) := by
 have h := rget_c b p s hs hb hp
 refine FnP.i Tryz.func173 rfl rfl fun G w => ?_
 repeat' (first | apply WK.s | (refine hQ.h _ _ ?_; clear hQ hA) | (refine WK.rH Tryz.ntmps173 (by kernel_rfl) ?_; intro A hA Q hQ; simp [*]) | (refine RunQ.k rfl rfl rfl rfl rfl ?_ (h) ?_ ?_ <;> simp (maxDischargeDepth := 120) [*] <;> refine ⟨?_⟩) | (refine WK.t Tryz.func173 ?_ ?_ <;> simp (maxDischargeDepth := 120) [Tryz.results173, *]))
def aOf (k : Int) (b : List (BitVec 8)) : Action := if k = 0 then ⟨0, (getN b 4 4).1, (getN b 8 2).1, 0, 0, oxm0⟩ else if k = 22 then ⟨22, 0, 0, (getN b 4 4).1, 0, oxm0⟩ else if k = 17 then ⟨17, 0, 0, 0, (getN b 4 2).1, oxm0⟩ else ⟨k, 0, 0, 0, 0, oxm0⟩
def aPlain (k : Int) (b : List (BitVec 8)) : Action × Int × Option Int :=
 if k = 0 ∧ aGoes (getN b 4 4).1 = false then aBad 4 else if Action.right (aOf k b) = true then (aOf k b, b.length, none) else aBad (if k = 22 then 9 else 5)
set_option maxHeartbeats 4000000 in
theorem aplain_c (k : Int) (b : List (BitVec 8)) (hb : b.length ≤ 9223372036854775807) : FnP Tryz.prog 205 [.int .i64 k, byS b] (aRes (aPlain k b)) := by
 have hr := aright_c (aOf k b)
 have g1 := nget_c b 4 4 Sz4 hb (by omega)
 have g2 := nget_c b 8 2 Sz2 hb (by omega)
 have g3 := nget_c b 4 2 Sz2 hb (by omega)
 have b4 := abad_c 4
 have b5 := abad_c 5
 have b9 := abad_c 9
 obtain ⟨r, hre⟩ : ∃ r, Action.right (aOf k b) = r := ⟨_, rfl⟩
 rw [hre] at hr
 unfold byS at *
 by_cases k0 : k = 0
 · subst k0
   cases hg : aGoes (getN b 4 4).1
   · have e : aPlain 0 b = aBad 4 := by unfold aPlain; rw [if_pos ⟨rfl, hg⟩]
     clear hr hre
     refine FnP.i Tryz.func205 rfl rfl fun G w => ?_
     repeat' (first | apply WK.s | apply WK.b | refine WK.cT rfl ?_ | (refine hQ.h _ _ ?_; clear hQ hA) | (refine WK.rH Tryz.ntmps205 (by kernel_rfl) ?_; intro A hA Q hQ; simp [zA, aF, *]) | (refine RunQ.k rfl rfl rfl rfl rfl ?_ (g1) ?_ ?_ <;> simp (maxDischargeDepth := 120) [zA, aF, *] <;> refine ⟨?_⟩) | (refine RunQ.k rfl rfl rfl rfl rfl ?_ (g2) ?_ ?_ <;> simp (maxDischargeDepth := 120) [zA, aF, *] <;> refine ⟨?_⟩) | (refine RunQ.k rfl rfl rfl rfl rfl ?_ (agoes_c (getN b 4 4).1) ?_ ?_ <;> simp (maxDischargeDepth := 120) [zA, aF, *] <;> refine ⟨?_⟩) | (refine RunQ.k rfl rfl rfl rfl rfl ?_ (b4) ?_ ?_ <;> simp (maxDischargeDepth := 120) [zA, aF, *] <;> refine ⟨?_⟩) | (refine WK.t Tryz.func205 ?_ ?_ <;> simp (maxDischargeDepth := 120) [Tryz.results205, zA, aF, *]))
   · have e : aPlain 0 b = if r = true then (aOf 0 b, (b.length : Int), none) else aBad 5 := by unfold aPlain; rw [if_neg (by simp [hg]), hre]; rfl
     simp only [aOf, if_pos rfl, Action.enc, oxm0, wideZ, uZ_] at hr
     clear hre
     refine FnP.i Tryz.func205 rfl rfl fun G w => ?_
     cases r
     · repeat' (first | apply WK.s | apply WK.b | apply WK.n | apply WK.k | refine WK.cT rfl ?_ | refine WK.cF rfl ?_ | (refine hQ.h _ _ ?_; clear hQ hA) | (refine WK.rH Tryz.ntmps205 (by kernel_rfl) ?_; intro A hA Q hQ; simp [zA, aF, *]) | (refine RunQ.k rfl rfl rfl rfl rfl ?_ (g1) ?_ ?_ <;> simp (maxDischargeDepth := 120) [zA, aF, *] <;> refine ⟨?_⟩) | (refine RunQ.k rfl rfl rfl rfl rfl ?_ (g2) ?_ ?_ <;> simp (maxDischargeDepth := 120) [zA, aF, *] <;> refine ⟨?_⟩) | (refine RunQ.k rfl rfl rfl rfl rfl ?_ (agoes_c (getN b 4 4).1) ?_ ?_ <;> simp (maxDischargeDepth := 120) [zA, aF, *] <;> refine ⟨?_⟩) | (refine RunQ.k rfl rfl rfl rfl rfl ?_ (hr) ?_ ?_ <;> simp (maxDischargeDepth := 120) [zA, aF, *] <;> refine ⟨?_⟩) | (refine RunQ.k rfl rfl rfl rfl rfl ?_ (b5) ?_ ?_ <;> simp (maxDischargeDepth := 120) [zA, aF, *] <;> refine ⟨?_⟩) | (refine WK.t Tryz.func205 ?_ ?_ <;> simp (maxDischargeDepth := 120) [Tryz.results205, zA, aF, *]))
     · repeat' (first | apply WK.s | apply WK.b | apply WK.n | apply WK.k | refine WK.cT rfl ?_ | refine WK.cF rfl ?_ | (refine hQ.h _ _ ?_; clear hQ hA) | (refine WK.rH Tryz.ntmps205 (by kernel_rfl) ?_; intro A hA Q hQ; simp [zA, aF, *]) | (refine RunQ.k rfl rfl rfl rfl rfl ?_ (g1) ?_ ?_ <;> simp (maxDischargeDepth := 120) [zA, aF, *] <;> refine ⟨?_⟩) | (refine RunQ.k rfl rfl rfl rfl rfl ?_ (g2) ?_ ?_ <;> simp (maxDischargeDepth := 120) [zA, aF, *] <;> refine ⟨?_⟩) | (refine RunQ.k rfl rfl rfl rfl rfl ?_ (agoes_c (getN b 4 4).1) ?_ ?_ <;> simp (maxDischargeDepth := 120) [zA, aF, *] <;> refine ⟨?_⟩) | (refine RunQ.k rfl rfl rfl rfl rfl ?_ (hr) ?_ ?_ <;> simp (maxDischargeDepth := 120) [zA, aF, *] <;> refine ⟨?_⟩) | (refine WK.t Tryz.func205 ?_ ?_ <;> simp (maxDischargeDepth := 120) [Tryz.results205, zA, aF, aOf, *]))
 by_cases k1 : k = 22
 · subst k1
   have e : aPlain 22 b = if r = true then (aOf 22 b, (b.length : Int), none) else aBad 9 := by unfold aPlain; rw [if_neg (by simp), hre]; rfl
   simp only [aOf, if_neg k0, if_pos rfl, Action.enc, oxm0, wideZ, uZ_] at hr
   clear hre
   refine FnP.i Tryz.func205 rfl rfl fun G w => ?_
   cases r
   · repeat' (first | apply WK.s | apply WK.b | refine WK.cT rfl ?_ | refine WK.cF rfl ?_ | (refine hQ.h _ _ ?_; clear hQ hA) | (refine WK.rH Tryz.ntmps205 (by kernel_rfl) ?_; intro A hA Q hQ; simp [zA, aF, *]) | (refine RunQ.k rfl rfl rfl rfl rfl ?_ (g1) ?_ ?_ <;> simp (maxDischargeDepth := 120) [zA, aF, *] <;> refine ⟨?_⟩) | (refine RunQ.k rfl rfl rfl rfl rfl ?_ (hr) ?_ ?_ <;> simp (maxDischargeDepth := 120) [zA, aF, *] <;> refine ⟨?_⟩) | (refine RunQ.k rfl rfl rfl rfl rfl ?_ (b9) ?_ ?_ <;> simp (maxDischargeDepth := 120) [zA, aF, *] <;> refine ⟨?_⟩) | (refine WK.t Tryz.func205 ?_ ?_ <;> simp (maxDischargeDepth := 120) [Tryz.results205, zA, aF, *]))
   · repeat' (first | apply WK.s | apply WK.b | apply WK.n | apply WK.k | refine WK.cT rfl ?_ | refine WK.cF rfl ?_ | (refine hQ.h _ _ ?_; clear hQ hA) | (refine WK.rH Tryz.ntmps205 (by kernel_rfl) ?_; intro A hA Q hQ; simp [zA, aF, *]) | (refine RunQ.k rfl rfl rfl rfl rfl ?_ (g1) ?_ ?_ <;> simp (maxDischargeDepth := 120) [zA, aF, *] <;> refine ⟨?_⟩) | (refine RunQ.k rfl rfl rfl rfl rfl ?_ (hr) ?_ ?_ <;> simp (maxDischargeDepth := 120) [zA, aF, *] <;> refine ⟨?_⟩) | (refine WK.t Tryz.func205 ?_ ?_ <;> simp (maxDischargeDepth := 120) [Tryz.results205, zA, aF, aOf, *]))
 by_cases k2 : k = 17
 · subst k2
   have e : aPlain 17 b = if r = true then (aOf 17 b, (b.length : Int), none) else aBad 5 := by unfold aPlain; rw [if_neg (by simp), hre]; rfl
   simp only [aOf, if_neg k0, if_neg k1, if_pos rfl, Action.enc, oxm0, wideZ, uZ_] at hr
   clear hre
   refine FnP.i Tryz.func205 rfl rfl fun G w => ?_
   cases r
   · repeat' (first | apply WK.s | apply WK.b | apply WK.n | refine WK.cT rfl ?_ | refine WK.cF rfl ?_ | (refine hQ.h _ _ ?_; clear hQ hA) | (refine WK.rH Tryz.ntmps205 (by kernel_rfl) ?_; intro A hA Q hQ; simp [zA, aF, *]) | (refine RunQ.k rfl rfl rfl rfl rfl ?_ (g3) ?_ ?_ <;> simp (maxDischargeDepth := 120) [zA, aF, *] <;> refine ⟨?_⟩) | (refine RunQ.k rfl rfl rfl rfl rfl ?_ (hr) ?_ ?_ <;> simp (maxDischargeDepth := 120) [zA, aF, *] <;> refine ⟨?_⟩) | (refine RunQ.k rfl rfl rfl rfl rfl ?_ (b5) ?_ ?_ <;> simp (maxDischargeDepth := 120) [zA, aF, *] <;> refine ⟨?_⟩) | (refine WK.t Tryz.func205 ?_ ?_ <;> simp (maxDischargeDepth := 120) [Tryz.results205, zA, aF, *]))
   · repeat' (first | apply WK.s | apply WK.b | apply WK.n | apply WK.k | refine WK.cT rfl ?_ | refine WK.cF rfl ?_ | (refine hQ.h _ _ ?_; clear hQ hA) | (refine WK.rH Tryz.ntmps205 (by kernel_rfl) ?_; intro A hA Q hQ; simp [zA, aF, *]) | (refine RunQ.k rfl rfl rfl rfl rfl ?_ (g3) ?_ ?_ <;> simp (maxDischargeDepth := 120) [zA, aF, *] <;> refine ⟨?_⟩) | (refine RunQ.k rfl rfl rfl rfl rfl ?_ (hr) ?_ ?_ <;> simp (maxDischargeDepth := 120) [zA, aF, *] <;> refine ⟨?_⟩) | (refine WK.t Tryz.func205 ?_ ?_ <;> simp (maxDischargeDepth := 120) [Tryz.results205, zA, aF, aOf, *]))
 have e : aPlain k b = if r = true then (aOf k b, (b.length : Int), none) else aBad 5 := by unfold aPlain; rw [if_neg (by simp [k0]), hre, if_neg k1]
 simp only [aOf, if_neg k0, if_neg k1, if_neg k2, Action.enc, oxm0, wideZ, uZ_] at hr
 clear hre
 refine FnP.i Tryz.func205 rfl rfl fun G w => ?_
 cases r
 · repeat' (first | apply WK.s | apply WK.b | apply WK.n | apply WK.k | refine WK.cT rfl ?_ | (refine hQ.h _ _ ?_; clear hQ hA) | (refine WK.c2 rfl (fun h => ?_) (fun h => ?_) <;> (first | (simp [*] at h; done) | (have h2 := h; simp at h2; exfalso; omega) | (have h2 := h; simp at h2; try simp only [Bool.not_eq_true', Bool.not_eq_false'] at h) | skip)) | (refine WK.rH Tryz.ntmps205 (by kernel_rfl) ?_; intro A hA Q hQ; simp [zA, aF, *]) | (refine RunQ.k rfl rfl rfl rfl rfl ?_ (hr) ?_ ?_ <;> simp (maxDischargeDepth := 120) [zA, aF, *] <;> refine ⟨?_⟩) | (refine RunQ.k rfl rfl rfl rfl rfl ?_ (b5) ?_ ?_ <;> simp (maxDischargeDepth := 120) [zA, aF, *] <;> refine ⟨?_⟩) | (refine WK.t Tryz.func205 ?_ ?_ <;> simp (maxDischargeDepth := 120) [Tryz.results205, zA, aF, *]))
 · repeat' (first | apply WK.s | apply WK.b | apply WK.n | apply WK.k | refine WK.cF rfl ?_ | (refine hQ.h _ _ ?_; clear hQ hA) | (refine WK.c2 rfl (fun h => ?_) (fun h => ?_) <;> (first | (simp [*] at h; done) | (have h2 := h; simp at h2; exfalso; omega) | (have h2 := h; simp at h2; try simp only [Bool.not_eq_true', Bool.not_eq_false'] at h) | skip)) | (refine WK.rH Tryz.ntmps205 (by kernel_rfl) ?_; intro A hA Q hQ; simp [zA, aF, *]) | (refine RunQ.k rfl rfl rfl rfl rfl ?_ (hr) ?_ ?_ <;> simp (maxDischargeDepth := 120) [zA, aF, *] <;> refine ⟨?_⟩) | (refine WK.t Tryz.func205 ?_ ?_ <;> simp (maxDischargeDepth := 120) [Tryz.results205, zA, aF, aOf, *]))

def oLen (b : List (BitVec 8)) : Nat := (oDec b).2.1.toNat
theorem oLen_eq (b : List (BitVec 8)) : (oDec b).2.1 = (oLen b : Int) ∧ oLen b ≤ 259 := by
 have h : 0 ≤ (oDec b).2.1 ∧ (oDec b).2.1 ≤ 259 := by
   have := bAt_lt b 3
   unfold oDec
   split
   · split <;> (simp only; omega)
   · simp
 unfold oLen; omega
def aSetD (b : List (BitVec 8)) : Action × Int × Option Int :=
 if (oDec (b.drop 4)).2.2 = 1 then aBad 14 else if (oDec (b.drop 4)).2.2 = 6 then aBad 13 else if (oDec (b.drop 4)).2.2 = 0 then
   (if b.length = (4 + oLen (b.drop 4) + 7) / 8 * 8 then (if allZ (b.drop (4 + oLen (b.drop 4))) = true then (if aSets (oDec (b.drop 4)).1.field = true then
     (if (oDec (b.drop 4)).1.masked = true then aBad 15 else (⟨25, 0, 0, 0, 0, (oDec (b.drop 4)).1⟩, (b.length : Int), none)) else aBad 13) else aBad 5) else aBad 1) else aBad 15
set_option maxHeartbeats 4000000 in
theorem aset_c (b : List (BitVec 8)) (hb : b.length ≤ 65536) (h8 : 8 ≤ b.length) : FnP Tryz.prog 202 [byS b] (aRes (aSetD b)) := by
 have hd := odec_c (b.drop 4) (by rw [List.length_drop]; omega)
 have hol := oLen_eq (b.drop 4)
 have hn : aSetD b = if (oDec (b.drop 4)).2.2 = 1 then aBad 14 else if (oDec (b.drop 4)).2.2 = 6 then aBad 13 else if (oDec (b.drop 4)).2.2 = 0 then
   (if b.length = (4 + oLen (b.drop 4) + 7) / 8 * 8 then (if allZ (b.drop (4 + oLen (b.drop 4))) = true then (if aSets (oDec (b.drop 4)).1.field = true then
     (if (oDec (b.drop 4)).1.masked = true then aBad 15 else (⟨25, 0, 0, 0, 0, (oDec (b.drop 4)).1⟩, (b.length : Int), none)) else aBad 13) else aBad 5) else aBad 1) else aBad 15 := rfl
 obtain ⟨x, hx⟩ : ∃ x, oLen (b.drop 4) = x := ⟨_, rfl⟩
 obtain ⟨D, hD⟩ : ∃ D, oDec (b.drop 4) = D := ⟨_, rfl⟩
 rw [hx, hD] at hol
 rw [hx, hD] at hn
 rw [hD, hol.1] at hd
 have hx9 := hol.2
 obtain ⟨o, m, c⟩ := D
 simp only at hn hd
 clear hD hx hol
 have d4 : ((byL b).drop 4).take (b.length - 4) = byL (b.drop 4) := by rw [byL_drop]; exact by_full _ _ (by rw [List.length_drop])
 have j4 : (4 : Int) ≤ b.length := by omega
 unfold byS at *
 rw [List.length_drop] at hd
 have b1 := abad_c 1
 have b5 := abad_c 5
 have b13 := abad_c 13
 have b14 := abad_c 14
 have b15 := abad_c 15
 by_cases c1 : c = 1
 · subst c1
   have e : aSetD b = aBad 14 := by rw [hn, if_pos rfl]
   clear hn
   simp only [oFault, if_neg (show ¬ (1 : Int) = 0 by decide)] at hd
   refine FnP.i Tryz.func202 rfl rfl fun G w => ?_
   repeat' (first | apply WK.s | apply WK.b | refine WK.cT rfl ?_ | (refine hQ.h _ _ ?_; clear hQ hA) | (refine WK.rH Tryz.ntmps202 (by kernel_rfl) ?_; intro A hA Q hQ; simp [zA, Oxm.enc, aF, *]) | (refine RunQ.g rfl (by rw [hA.h]; rfl) ?_; simp [zA, Oxm.enc, aF, *]) | (refine RunQ.k rfl rfl rfl rfl rfl ?_ (hd) ?_ ?_ <;> simp (maxDischargeDepth := 120) [zA, Oxm.enc, aF, *] <;> refine ⟨?_⟩) | (refine RunQ.k rfl rfl rfl rfl rfl ?_ (b14) ?_ ?_ <;> simp (maxDischargeDepth := 120) [zA, Oxm.enc, aF, *] <;> refine ⟨?_⟩) | (refine WK.t Tryz.func202 ?_ ?_ <;> simp (maxDischargeDepth := 120) [Tryz.results202, zA, Oxm.enc, aF, *]))
 by_cases c6 : c = 6
 · subst c6
   have e : aSetD b = aBad 13 := by rw [hn, if_neg c1, if_pos rfl]
   clear hn
   simp only [oFault, if_neg (show ¬ (6 : Int) = 0 by decide)] at hd
   refine FnP.i Tryz.func202 rfl rfl fun G w => ?_
   repeat' (first | apply WK.s | apply WK.b | refine WK.cT rfl ?_ | refine WK.cF rfl ?_ | (refine hQ.h _ _ ?_; clear hQ hA) | (refine WK.rH Tryz.ntmps202 (by kernel_rfl) ?_; intro A hA Q hQ; simp [zA, Oxm.enc, aF, *]) | (refine RunQ.g rfl (by rw [hA.h]; rfl) ?_; simp [zA, Oxm.enc, aF, *]) | (refine RunQ.k rfl rfl rfl rfl rfl ?_ (hd) ?_ ?_ <;> simp (maxDischargeDepth := 120) [zA, Oxm.enc, aF, *] <;> refine ⟨?_⟩) | (refine RunQ.k rfl rfl rfl rfl rfl ?_ (b13) ?_ ?_ <;> simp (maxDischargeDepth := 120) [zA, Oxm.enc, aF, *] <;> refine ⟨?_⟩) | (refine WK.t Tryz.func202 ?_ ?_ <;> simp (maxDischargeDepth := 120) [Tryz.results202, zA, Oxm.enc, aF, *]))
 by_cases c0 : c = 0
 case neg =>
   have e : aSetD b = aBad 15 := by rw [hn, if_neg c1, if_neg c6, if_neg c0]
   clear hn
   simp only [oFault, if_neg c0] at hd
   refine FnP.i Tryz.func202 rfl rfl fun G w => ?_
   repeat' (first | apply WK.s | apply WK.b | refine WK.cT rfl ?_ | (refine hQ.h _ _ ?_; clear hQ hA) | (refine WK.c2 rfl (fun h => ?_) (fun h => ?_) <;> (first | (simp [*] at h; done) | (have h2 := h; simp at h2; exfalso; omega) | (have h2 := h; simp at h2; try simp only [Bool.not_eq_true', Bool.not_eq_false'] at h) | skip)) | (refine WK.rH Tryz.ntmps202 (by kernel_rfl) ?_; intro A hA Q hQ; simp [zA, Oxm.enc, aF, *]) | (refine RunQ.g rfl (by rw [hA.h]; rfl) ?_; simp [zA, Oxm.enc, aF, *]) | (refine RunQ.k rfl rfl rfl rfl rfl ?_ (hd) ?_ ?_ <;> simp (maxDischargeDepth := 120) [zA, Oxm.enc, aF, *] <;> refine ⟨?_⟩) | (refine RunQ.k rfl rfl rfl rfl rfl ?_ (b15) ?_ ?_ <;> simp (maxDischargeDepth := 120) [zA, Oxm.enc, aF, *] <;> refine ⟨?_⟩) | (refine WK.t Tryz.func202 ?_ ?_ <;> simp (maxDischargeDepth := 120) [Tryz.results202, zA, Oxm.enc, aF, *]))
 subst c0
 rw [if_neg c1, if_neg c6, if_pos rfl] at hn
 simp only [oFault, if_pos rfl] at hd
 have w1 : IntKind.i64.wrap (4 + (x : Int)) = ((4 + x : Nat) : Int) := by rw [wrap_i64 (by omega) (by omega)]; omega
 have w2 : IntKind.i64.wrap (((4 + x : Nat) : Int) + 7) = ((4 + x + 7 : Nat) : Int) := by rw [wrap_i64 (by omega) (by omega)]; omega
 have w3 := bNot7b (4 + x + 7) (by omega)
 have z1 : ((b.length : Int) == (((4 + x + 7) / 8 * 8 : Nat) : Int)) = (b.length == (4 + x + 7) / 8 * 8) := by rw [Bool.eq_iff_iff, beq_iff_eq, beq_iff_eq]; omega
 by_cases hl : b.length = (4 + x + 7) / 8 * 8
 case neg =>
   have hlb : (b.length == (4 + x + 7) / 8 * 8) = false := by simpa using hl
   have e : aSetD b = aBad 1 := by rw [hn, if_neg hl]
   clear hn hl
   rw [hlb] at z1
   obtain ⟨y, hy⟩ : ∃ y, (4 + x + 7) / 8 * 8 = y := ⟨_, rfl⟩
   obtain ⟨x4, hx4⟩ : ∃ x4, 4 + x = x4 := ⟨_, rfl⟩
   obtain ⟨x7, hx7⟩ : ∃ x7, 4 + x + 7 = x7 := ⟨_, rfl⟩
   rw [hx4] at hx7 w1 w2 w3 z1
   rw [hx7] at w2 w3 z1
   obtain ⟨y, hy⟩ : ∃ y, x7 / 8 * 8 = y := ⟨_, rfl⟩
   rw [hy] at w3 z1
   clear hy hx4 hx7 hlb
   refine FnP.i Tryz.func202 rfl rfl fun G w => ?_
   repeat' (first | apply WK.s | apply WK.b | refine WK.cT rfl ?_ | refine WK.cF rfl ?_ | (refine hQ.h _ _ ?_; clear hQ hA) | (refine WK.rH Tryz.ntmps202 (by kernel_rfl) ?_; intro A hA Q hQ; simp [zA, Oxm.enc, bne, aF, *]) | (refine RunQ.g rfl (by rw [hA.h]; rfl) ?_; simp [zA, Oxm.enc, bne, aF, *]) | (refine RunQ.k rfl rfl rfl rfl rfl ?_ (hd) ?_ ?_ <;> simp (maxDischargeDepth := 120) [zA, Oxm.enc, bne, aF, *] <;> refine ⟨?_⟩) | (refine RunQ.k rfl rfl rfl rfl rfl ?_ (b1) ?_ ?_ <;> simp (maxDischargeDepth := 120) [zA, Oxm.enc, bne, aF, *] <;> refine ⟨?_⟩) | (refine WK.t Tryz.func202 ?_ ?_ <;> simp (maxDischargeDepth := 120) [Tryz.results202, zA, Oxm.enc, bne, aF, *]))
 have hlb : (b.length == (4 + x + 7) / 8 * 8) = true := by simpa using hl
 rw [if_pos hl] at hn
 rw [hlb] at z1
 have hle : 4 + x ≤ b.length := by omega
 have hle' : ((4 + x : Nat) : Int) ≤ b.length := by omega
 have d5 : ((byL b).drop (4 + x)).take (b.length - (4 + x)) = byL (b.drop (4 + x)) := by rw [byL_drop]; exact by_full _ _ (by rw [List.length_drop])
 have he := aempty_c (b.drop (4 + x)) (by rw [List.length_drop]; omega)
 unfold byS at he
 rw [List.length_drop] at he
 obtain ⟨y, hy⟩ : ∃ y, (4 + x + 7) / 8 * 8 = y := ⟨_, rfl⟩
 obtain ⟨x4, hx4⟩ : ∃ x4, 4 + x = x4 := ⟨_, rfl⟩
 obtain ⟨x7, hx7⟩ : ∃ x7, 4 + x + 7 = x7 := ⟨_, rfl⟩
 rw [hx4] at hx7 w1 w2 w3 z1 hle hle' d5 he hn
 rw [hx7] at w2 w3 z1
 obtain ⟨y, hy⟩ : ∃ y, x7 / 8 * 8 = y := ⟨_, rfl⟩
 rw [hy] at w3 z1
 obtain ⟨B5, hB5⟩ : ∃ B5, b.drop x4 = B5 := ⟨_, rfl⟩
 rw [hB5] at d5 he hn
 clear hy hx4 hx7 hlb hl hB5
 refine FnP.i Tryz.func202 rfl rfl fun G w => ?_
 cases k1 : allZ B5
 · rw [k1, if_neg Bool.false_ne_true] at hn
   repeat' (first | apply WK.s | apply WK.b | refine WK.cT rfl ?_ | refine WK.cF rfl ?_ | (refine hQ.h _ _ ?_; clear hQ hA) | (refine WK.rH Tryz.ntmps202 (by kernel_rfl) ?_; intro A hA Q hQ; simp [zA, Oxm.enc, bne, aF, *]) | (refine RunQ.g rfl (by rw [hA.h]; rfl) ?_; simp [zA, Oxm.enc, bne, aF, *]) | (refine RunQ.k rfl rfl rfl rfl rfl ?_ (hd) ?_ ?_ <;> simp (maxDischargeDepth := 120) [zA, Oxm.enc, bne, aF, *] <;> refine ⟨?_⟩) | (refine RunQ.k rfl rfl rfl rfl rfl ?_ (he) ?_ ?_ <;> simp (maxDischargeDepth := 120) [zA, Oxm.enc, bne, aF, *] <;> refine ⟨?_⟩) | (refine RunQ.k rfl rfl rfl rfl rfl ?_ (b5) ?_ ?_ <;> simp (maxDischargeDepth := 120) [zA, Oxm.enc, bne, aF, *] <;> refine ⟨?_⟩) | (refine WK.t Tryz.func202 ?_ ?_ <;> simp (maxDischargeDepth := 120) [Tryz.results202, zA, Oxm.enc, bne, aF, *]))
 rw [k1, if_pos rfl] at hn
 cases k2 : aSets o.field
 · rw [k2, if_neg Bool.false_ne_true] at hn
   repeat' (first | apply WK.s | apply WK.b | refine WK.cT rfl ?_ | refine WK.cF rfl ?_ | (refine hQ.h _ _ ?_; clear hQ hA) | (refine WK.rH Tryz.ntmps202 (by kernel_rfl) ?_; intro A hA Q hQ; simp [zA, Oxm.enc, bne, aF, *]) | (refine RunQ.g rfl (by rw [hA.h]; rfl) ?_; simp [zA, Oxm.enc, bne, aF, *]) | (refine RunQ.k rfl rfl rfl rfl rfl ?_ (hd) ?_ ?_ <;> simp (maxDischargeDepth := 120) [zA, Oxm.enc, bne, aF, *] <;> refine ⟨?_⟩) | (refine RunQ.k rfl rfl rfl rfl rfl ?_ (he) ?_ ?_ <;> simp (maxDischargeDepth := 120) [zA, Oxm.enc, bne, aF, *] <;> refine ⟨?_⟩) | (refine RunQ.k rfl rfl rfl rfl rfl ?_ (asets_c o.field) ?_ ?_ <;> simp (maxDischargeDepth := 120) [zA, Oxm.enc, bne, aF, *] <;> refine ⟨?_⟩) | (refine RunQ.k rfl rfl rfl rfl rfl ?_ (b13) ?_ ?_ <;> simp (maxDischargeDepth := 120) [zA, Oxm.enc, bne, aF, *] <;> refine ⟨?_⟩) | (refine WK.t Tryz.func202 ?_ ?_ <;> simp (maxDischargeDepth := 120) [Tryz.results202, zA, Oxm.enc, bne, aF, *]))
 rw [k2, if_pos rfl] at hn
 cases k3 : o.masked
 · rw [k3, if_neg Bool.false_ne_true] at hn
   repeat' (first | apply WK.s | apply WK.b | apply WK.n | apply WK.k | refine WK.cF rfl ?_ | (refine hQ.h _ _ ?_; clear hQ hA) | (refine WK.rH Tryz.ntmps202 (by kernel_rfl) ?_; intro A hA Q hQ; simp [zA, Oxm.enc, bne, aF, *]) | (refine RunQ.g rfl (by rw [hA.h]; rfl) ?_; simp [zA, Oxm.enc, bne, aF, *]) | (refine RunQ.k rfl rfl rfl rfl rfl ?_ (hd) ?_ ?_ <;> simp (maxDischargeDepth := 120) [zA, Oxm.enc, bne, aF, *] <;> refine ⟨?_⟩) | (refine RunQ.k rfl rfl rfl rfl rfl ?_ (he) ?_ ?_ <;> simp (maxDischargeDepth := 120) [zA, Oxm.enc, bne, aF, *] <;> refine ⟨?_⟩) | (refine RunQ.k rfl rfl rfl rfl rfl ?_ (asets_c o.field) ?_ ?_ <;> simp (maxDischargeDepth := 120) [zA, Oxm.enc, bne, aF, *] <;> refine ⟨?_⟩) | (refine WK.t Tryz.func202 ?_ ?_ <;> simp (maxDischargeDepth := 120) [Tryz.results202, zA, Oxm.enc, bne, aF, *]))
 · rw [k3, if_pos rfl] at hn
   repeat' (first | apply WK.s | apply WK.b | refine WK.cT rfl ?_ | refine WK.cF rfl ?_ | (refine hQ.h _ _ ?_; clear hQ hA) | (refine WK.rH Tryz.ntmps202 (by kernel_rfl) ?_; intro A hA Q hQ; simp [zA, Oxm.enc, bne, aF, *]) | (refine RunQ.g rfl (by rw [hA.h]; rfl) ?_; simp [zA, Oxm.enc, bne, aF, *]) | (refine RunQ.k rfl rfl rfl rfl rfl ?_ (hd) ?_ ?_ <;> simp (maxDischargeDepth := 120) [zA, Oxm.enc, bne, aF, *] <;> refine ⟨?_⟩) | (refine RunQ.k rfl rfl rfl rfl rfl ?_ (he) ?_ ?_ <;> simp (maxDischargeDepth := 120) [zA, Oxm.enc, bne, aF, *] <;> refine ⟨?_⟩) | (refine RunQ.k rfl rfl rfl rfl rfl ?_ (asets_c o.field) ?_ ?_ <;> simp (maxDischargeDepth := 120) [zA, Oxm.enc, bne, aF, *] <;> refine ⟨?_⟩) | (refine RunQ.k rfl rfl rfl rfl rfl ?_ (b15) ?_ ?_ <;> simp (maxDischargeDepth := 120) [zA, Oxm.enc, bne, aF, *] <;> refine ⟨?_⟩) | (refine WK.t Tryz.func202 ?_ ?_ <;> simp (maxDischargeDepth := 120) [Tryz.results202, zA, Oxm.enc, bne, aF, *]))

set_option maxHeartbeats 4000000 in
theorem raset_c (b : List (BitVec 8)) (hb : b.length ≤ 65536) (h8 : 8 ≤ b.length) : FnP Tryz.prog 175 [byS b] (aRes (aSetD b)) := by
 have hd := rodec_c (b.drop 4) (by rw [List.length_drop]; omega)
 have hol := oLen_eq (b.drop 4)
 have hn : aSetD b = if (oDec (b.drop 4)).2.2 = 1 then aBad 14 else if (oDec (b.drop 4)).2.2 = 6 then aBad 13 else if (oDec (b.drop 4)).2.2 = 0 then
   (if b.length = (4 + oLen (b.drop 4) + 7) / 8 * 8 then (if allZ (b.drop (4 + oLen (b.drop 4))) = true then (if aSets (oDec (b.drop 4)).1.field = true then
     (if (oDec (b.drop 4)).1.masked = true then aBad 15 else (⟨25, 0, 0, 0, 0, (oDec (b.drop 4)).1⟩, (b.length : Int), none)) else aBad 13) else aBad 5) else aBad 1) else aBad 15 := rfl
 obtain ⟨x, hx⟩ : ∃ x, oLen (b.drop 4) = x := ⟨_, rfl⟩
 obtain ⟨D, hD⟩ : ∃ D, oDec (b.drop 4) = D := ⟨_, rfl⟩
 rw [hx, hD] at hol
 rw [hx, hD] at hn
 rw [hD, hol.1] at hd
 have hx9 := hol.2
 obtain ⟨o, m, c⟩ := D
 simp only at hn hd
 clear hD hx hol
 have d4 : ((byL b).drop 4).take (b.length - 4) = byL (b.drop 4) := by rw [byL_drop]; exact by_full _ _ (by rw [List.length_drop])
 have j4 : (4 : Int) ≤ b.length := by omega
 unfold byS at *
 rw [List.length_drop] at hd
 have b1 := rabad_c 1
 have b5 := rabad_c 5
 have b13 := rabad_c 13
 have b14 := rabad_c 14
 have b15 := rabad_c 15
 by_cases c1 : c = 1
 · subst c1
   have e : aSetD b = aBad 14 := by rw [hn, if_pos rfl]
   clear hn
   simp only [oFault, if_neg (show ¬ (1 : Int) = 0 by decide)] at hd
   refine FnP.i Tryz.func175 rfl rfl fun G w => ?_
   repeat' (first | apply WK.s | apply WK.b | refine WK.cT rfl ?_ | (refine hQ.h _ _ ?_; clear hQ hA) | (refine WK.rH Tryz.ntmps175 (by kernel_rfl) ?_; intro A hA Q hQ; simp [zA, Oxm.enc, aF, *]) | (refine RunQ.g rfl (by rw [hA.h]; rfl) ?_; simp [zA, Oxm.enc, aF, *]) | (refine RunQ.k rfl rfl rfl rfl rfl ?_ (hd) ?_ ?_ <;> simp (maxDischargeDepth := 120) [zA, Oxm.enc, aF, *] <;> refine ⟨?_⟩) | (refine RunQ.k rfl rfl rfl rfl rfl ?_ (b14) ?_ ?_ <;> simp (maxDischargeDepth := 120) [zA, Oxm.enc, aF, *] <;> refine ⟨?_⟩) | (refine WK.t Tryz.func175 ?_ ?_ <;> simp (maxDischargeDepth := 120) [Tryz.results175, zA, Oxm.enc, aF, *]))
 by_cases c6 : c = 6
 · subst c6
   have e : aSetD b = aBad 13 := by rw [hn, if_neg c1, if_pos rfl]
   clear hn
   simp only [oFault, if_neg (show ¬ (6 : Int) = 0 by decide)] at hd
   refine FnP.i Tryz.func175 rfl rfl fun G w => ?_
   repeat' (first | apply WK.s | apply WK.b | refine WK.cT rfl ?_ | refine WK.cF rfl ?_ | (refine hQ.h _ _ ?_; clear hQ hA) | (refine WK.rH Tryz.ntmps175 (by kernel_rfl) ?_; intro A hA Q hQ; simp [zA, Oxm.enc, aF, *]) | (refine RunQ.g rfl (by rw [hA.h]; rfl) ?_; simp [zA, Oxm.enc, aF, *]) | (refine RunQ.k rfl rfl rfl rfl rfl ?_ (hd) ?_ ?_ <;> simp (maxDischargeDepth := 120) [zA, Oxm.enc, aF, *] <;> refine ⟨?_⟩) | (refine RunQ.k rfl rfl rfl rfl rfl ?_ (b13) ?_ ?_ <;> simp (maxDischargeDepth := 120) [zA, Oxm.enc, aF, *] <;> refine ⟨?_⟩) | (refine WK.t Tryz.func175 ?_ ?_ <;> simp (maxDischargeDepth := 120) [Tryz.results175, zA, Oxm.enc, aF, *]))
 by_cases c0 : c = 0
 case neg =>
   have e : aSetD b = aBad 15 := by rw [hn, if_neg c1, if_neg c6, if_neg c0]
   clear hn
   simp only [oFault, if_neg c0] at hd
   refine FnP.i Tryz.func175 rfl rfl fun G w => ?_
   repeat' (first | apply WK.s | apply WK.b | refine WK.cT rfl ?_ | (refine hQ.h _ _ ?_; clear hQ hA) | (refine WK.c2 rfl (fun h => ?_) (fun h => ?_) <;> (first | (simp [*] at h; done) | (have h2 := h; simp at h2; exfalso; omega) | (have h2 := h; simp at h2; try simp only [Bool.not_eq_true', Bool.not_eq_false'] at h) | skip)) | (refine WK.rH Tryz.ntmps175 (by kernel_rfl) ?_; intro A hA Q hQ; simp [zA, Oxm.enc, aF, *]) | (refine RunQ.g rfl (by rw [hA.h]; rfl) ?_; simp [zA, Oxm.enc, aF, *]) | (refine RunQ.k rfl rfl rfl rfl rfl ?_ (hd) ?_ ?_ <;> simp (maxDischargeDepth := 120) [zA, Oxm.enc, aF, *] <;> refine ⟨?_⟩) | (refine RunQ.k rfl rfl rfl rfl rfl ?_ (b15) ?_ ?_ <;> simp (maxDischargeDepth := 120) [zA, Oxm.enc, aF, *] <;> refine ⟨?_⟩) | (refine WK.t Tryz.func175 ?_ ?_ <;> simp (maxDischargeDepth := 120) [Tryz.results175, zA, Oxm.enc, aF, *]))
 subst c0
 rw [if_neg c1, if_neg c6, if_pos rfl] at hn
 simp only [oFault, if_pos rfl] at hd
 have w1 : IntKind.i64.wrap (4 + (x : Int)) = ((4 + x : Nat) : Int) := by rw [wrap_i64 (by omega) (by omega)]; omega
 have w2 : IntKind.i64.wrap (((4 + x : Nat) : Int) + 7) = ((4 + x + 7 : Nat) : Int) := by rw [wrap_i64 (by omega) (by omega)]; omega
 have w3 : IntKind.i64.wrap (((4 + x + 7 : Nat) : Int) / 8) = (((4 + x + 7) / 8 : Nat) : Int) := by rw [wrap_i64 (by omega) (by omega)]; omega
 have w4 : IntKind.i64.wrap ((((4 + x + 7) / 8 : Nat) : Int) * 8) = (((4 + x + 7) / 8 * 8 : Nat) : Int) := by rw [wrap_i64 (by omega) (by omega)]; omega
 have z1 : ((b.length : Int) == (((4 + x + 7) / 8 * 8 : Nat) : Int)) = (b.length == (4 + x + 7) / 8 * 8) := by rw [Bool.eq_iff_iff, beq_iff_eq, beq_iff_eq]; omega
 by_cases hl : b.length = (4 + x + 7) / 8 * 8
 case neg =>
   have hlb : (b.length == (4 + x + 7) / 8 * 8) = false := by simpa using hl
   have e : aSetD b = aBad 1 := by rw [hn, if_neg hl]
   clear hn hl
   rw [hlb] at z1
   obtain ⟨y, hy⟩ : ∃ y, (4 + x + 7) / 8 * 8 = y := ⟨_, rfl⟩
   obtain ⟨x4, hx4⟩ : ∃ x4, 4 + x = x4 := ⟨_, rfl⟩
   obtain ⟨x7, hx7⟩ : ∃ x7, 4 + x + 7 = x7 := ⟨_, rfl⟩
   rw [hx4] at hx7 w1 w2 w3 w4 z1
   rw [hx7] at w2 w3 w4 z1
   obtain ⟨q, hq⟩ : ∃ q, x7 / 8 = q := ⟨_, rfl⟩
   rw [hq] at w3 w4 z1
   obtain ⟨y, hy⟩ : ∃ y, q * 8 = y := ⟨_, rfl⟩
   rw [hy] at w4 z1
   clear hq hy hx4 hx7 hlb
   refine FnP.i Tryz.func175 rfl rfl fun G w => ?_
   repeat' (first | apply WK.s | apply WK.b | refine WK.cT rfl ?_ | refine WK.cF rfl ?_ | (refine hQ.h _ _ ?_; clear hQ hA) | (refine WK.rH Tryz.ntmps175 (by kernel_rfl) ?_; intro A hA Q hQ; simp [zA, Oxm.enc, bne, aF, *]) | (refine RunQ.g rfl (by rw [hA.h]; rfl) ?_; simp [zA, Oxm.enc, bne, aF, *]) | (refine RunQ.k rfl rfl rfl rfl rfl ?_ (hd) ?_ ?_ <;> simp (maxDischargeDepth := 120) [zA, Oxm.enc, bne, aF, *] <;> refine ⟨?_⟩) | (refine RunQ.k rfl rfl rfl rfl rfl ?_ (b1) ?_ ?_ <;> simp (maxDischargeDepth := 120) [zA, Oxm.enc, bne, aF, *] <;> refine ⟨?_⟩) | (refine WK.t Tryz.func175 ?_ ?_ <;> simp (maxDischargeDepth := 120) [Tryz.results175, zA, Oxm.enc, bne, aF, *]))
 have hlb : (b.length == (4 + x + 7) / 8 * 8) = true := by simpa using hl
 rw [if_pos hl] at hn
 rw [hlb] at z1
 have hle : 4 + x ≤ b.length := by omega
 have hle' : ((4 + x : Nat) : Int) ≤ b.length := by omega
 have d5 : ((byL b).drop (4 + x)).take (b.length - (4 + x)) = byL (b.drop (4 + x)) := by rw [byL_drop]; exact by_full _ _ (by rw [List.length_drop])
 have he := rnoughts_c (b.drop (4 + x)) (by rw [List.length_drop]; omega)
 unfold byS at he
 rw [List.length_drop] at he
 obtain ⟨y, hy⟩ : ∃ y, (4 + x + 7) / 8 * 8 = y := ⟨_, rfl⟩
 obtain ⟨x4, hx4⟩ : ∃ x4, 4 + x = x4 := ⟨_, rfl⟩
 obtain ⟨x7, hx7⟩ : ∃ x7, 4 + x + 7 = x7 := ⟨_, rfl⟩
 rw [hx4] at hx7 w1 w2 w3 w4 z1 hle hle' d5 he hn
 rw [hx7] at w2 w3 w4 z1
 obtain ⟨q, hq⟩ : ∃ q, x7 / 8 = q := ⟨_, rfl⟩
 rw [hq] at w3 w4 z1
 obtain ⟨y, hy⟩ : ∃ y, q * 8 = y := ⟨_, rfl⟩
 rw [hy] at w4 z1
 obtain ⟨B5, hB5⟩ : ∃ B5, b.drop x4 = B5 := ⟨_, rfl⟩
 rw [hB5] at d5 he hn
 clear hq hy hx4 hx7 hlb hl hB5
 refine FnP.i Tryz.func175 rfl rfl fun G w => ?_
 cases k1 : allZ B5
 · rw [k1, if_neg Bool.false_ne_true] at hn
   repeat' (first | apply WK.s | apply WK.b | refine WK.cT rfl ?_ | refine WK.cF rfl ?_ | (refine hQ.h _ _ ?_; clear hQ hA) | (refine WK.rH Tryz.ntmps175 (by kernel_rfl) ?_; intro A hA Q hQ; simp [zA, Oxm.enc, bne, aF, *]) | (refine RunQ.g rfl (by rw [hA.h]; rfl) ?_; simp [zA, Oxm.enc, bne, aF, *]) | (refine RunQ.k rfl rfl rfl rfl rfl ?_ (hd) ?_ ?_ <;> simp (maxDischargeDepth := 120) [zA, Oxm.enc, bne, aF, *] <;> refine ⟨?_⟩) | (refine RunQ.k rfl rfl rfl rfl rfl ?_ (he) ?_ ?_ <;> simp (maxDischargeDepth := 120) [zA, Oxm.enc, bne, aF, *] <;> refine ⟨?_⟩) | (refine RunQ.k rfl rfl rfl rfl rfl ?_ (b5) ?_ ?_ <;> simp (maxDischargeDepth := 120) [zA, Oxm.enc, bne, aF, *] <;> refine ⟨?_⟩) | (refine WK.t Tryz.func175 ?_ ?_ <;> simp (maxDischargeDepth := 120) [Tryz.results175, zA, Oxm.enc, bne, aF, *]))
 rw [k1, if_pos rfl] at hn
 cases k2 : aSets o.field
 · rw [k2, if_neg Bool.false_ne_true] at hn
   repeat' (first | apply WK.s | apply WK.b | refine WK.cT rfl ?_ | refine WK.cF rfl ?_ | (refine hQ.h _ _ ?_; clear hQ hA) | (refine WK.rH Tryz.ntmps175 (by kernel_rfl) ?_; intro A hA Q hQ; simp [zA, Oxm.enc, bne, aF, *]) | (refine RunQ.g rfl (by rw [hA.h]; rfl) ?_; simp [zA, Oxm.enc, bne, aF, *]) | (refine RunQ.k rfl rfl rfl rfl rfl ?_ (hd) ?_ ?_ <;> simp (maxDischargeDepth := 120) [zA, Oxm.enc, bne, aF, *] <;> refine ⟨?_⟩) | (refine RunQ.k rfl rfl rfl rfl rfl ?_ (he) ?_ ?_ <;> simp (maxDischargeDepth := 120) [zA, Oxm.enc, bne, aF, *] <;> refine ⟨?_⟩) | (refine RunQ.k rfl rfl rfl rfl rfl ?_ (rasets_c o.field) ?_ ?_ <;> simp (maxDischargeDepth := 120) [zA, Oxm.enc, bne, aF, *] <;> refine ⟨?_⟩) | (refine RunQ.k rfl rfl rfl rfl rfl ?_ (b13) ?_ ?_ <;> simp (maxDischargeDepth := 120) [zA, Oxm.enc, bne, aF, *] <;> refine ⟨?_⟩) | (refine WK.t Tryz.func175 ?_ ?_ <;> simp (maxDischargeDepth := 120) [Tryz.results175, zA, Oxm.enc, bne, aF, *]))
 rw [k2, if_pos rfl] at hn
 cases k3 : o.masked
 · rw [k3, if_neg Bool.false_ne_true] at hn
   repeat' (first | apply WK.s | apply WK.b | apply WK.n | apply WK.k | refine WK.cF rfl ?_ | (refine hQ.h _ _ ?_; clear hQ hA) | (refine WK.rH Tryz.ntmps175 (by kernel_rfl) ?_; intro A hA Q hQ; simp [zA, Oxm.enc, bne, aF, *]) | (refine RunQ.g rfl (by rw [hA.h]; rfl) ?_; simp [zA, Oxm.enc, bne, aF, *]) | (refine RunQ.k rfl rfl rfl rfl rfl ?_ (hd) ?_ ?_ <;> simp (maxDischargeDepth := 120) [zA, Oxm.enc, bne, aF, *] <;> refine ⟨?_⟩) | (refine RunQ.k rfl rfl rfl rfl rfl ?_ (he) ?_ ?_ <;> simp (maxDischargeDepth := 120) [zA, Oxm.enc, bne, aF, *] <;> refine ⟨?_⟩) | (refine RunQ.k rfl rfl rfl rfl rfl ?_ (rasets_c o.field) ?_ ?_ <;> simp (maxDischargeDepth := 120) [zA, Oxm.enc, bne, aF, *] <;> refine ⟨?_⟩) | (refine WK.t Tryz.func175 ?_ ?_ <;> simp (maxDischargeDepth := 120) [Tryz.results175, zA, Oxm.enc, bne, aF, *]))
 · rw [k3, if_pos rfl] at hn
   repeat' (first | apply WK.s | apply WK.b | refine WK.cT rfl ?_ | refine WK.cF rfl ?_ | (refine hQ.h _ _ ?_; clear hQ hA) | (refine WK.rH Tryz.ntmps175 (by kernel_rfl) ?_; intro A hA Q hQ; simp [zA, Oxm.enc, bne, aF, *]) | (refine RunQ.g rfl (by rw [hA.h]; rfl) ?_; simp [zA, Oxm.enc, bne, aF, *]) | (refine RunQ.k rfl rfl rfl rfl rfl ?_ (hd) ?_ ?_ <;> simp (maxDischargeDepth := 120) [zA, Oxm.enc, bne, aF, *] <;> refine ⟨?_⟩) | (refine RunQ.k rfl rfl rfl rfl rfl ?_ (he) ?_ ?_ <;> simp (maxDischargeDepth := 120) [zA, Oxm.enc, bne, aF, *] <;> refine ⟨?_⟩) | (refine RunQ.k rfl rfl rfl rfl rfl ?_ (rasets_c o.field) ?_ ?_ <;> simp (maxDischargeDepth := 120) [zA, Oxm.enc, bne, aF, *] <;> refine ⟨?_⟩) | (refine RunQ.k rfl rfl rfl rfl rfl ?_ (b15) ?_ ?_ <;> simp (maxDischargeDepth := 120) [zA, Oxm.enc, bne, aF, *] <;> refine ⟨?_⟩) | (refine WK.t Tryz.func175 ?_ ?_ <;> simp (maxDischargeDepth := 120) [Tryz.results175, zA, Oxm.enc, bne, aF, *]))

def aN (b : List (BitVec 8)) : Nat := valN ((b.drop 2).take 2)
def aK (b : List (BitVec 8)) : Nat := valN ((b.drop 0).take 2)
theorem aN_lt (b : List (BitVec 8)) (h : 8 ≤ b.length) : aN b < 65536 := by
 have := valN_lt 2 ((b.drop 2).take 2) (by simp; omega)
 exact this
theorem aN_get (b : List (BitVec 8)) (h : 8 ≤ b.length) : getN b 2 2 = ((aN b : Int), 0) := by unfold getN aN; rw [if_pos (by omega)]
theorem aK_get (b : List (BitVec 8)) (h : 8 ≤ b.length) : getN b 0 2 = ((aK b : Int), 0) := by unfold getN aK; rw [if_pos (by omega)]
def aDec (b : List (BitVec 8)) : Action × Int × Option Int :=
 if b.length < 8 then aBad 1 else if aN b < 8 ∨ ¬ aN b % 8 = 0 ∨ b.length < aN b then aBad 1 else
 if aK b = 25 then aSetD (b.take (aN b)) else if (aLength (aK b)).1 = 0 then aBad 0 else if ¬ aN b = (aLength (aK b)).1 then aBad 1 else
 if allZ ((b.take (aN b)).drop (aLength (aK b)).2) = true then aPlain (aK b) (b.take (aN b)) else aBad 5
set_option maxHeartbeats 4000000 in
theorem adec_c (b : List (BitVec 8)) (hb : b.length ≤ 9223372036854775807) : FnP Tryz.prog 193 [byS b] (aRes (aDec b)) := by
 have b1 := abad_c 1
 have b0 := abad_c 0
 have b5 := abad_c 5
 by_cases h8 : b.length < 8
 · have e : aDec b = aBad 1 := by unfold aDec; rw [if_pos h8]
   have j8 : (b.length : Int) < 8 := by omega
   unfold byS
   refine FnP.i Tryz.func193 rfl rfl fun G w => ?_
   repeat' (first | apply WK.s | refine WK.cT rfl ?_ | (refine hQ.h _ _ ?_; clear hQ hA) | (refine WK.rH Tryz.ntmps193 (by kernel_rfl) ?_; intro A hA Q hQ; simp [zA, aF, *]) | (refine RunQ.k rfl rfl rfl rfl rfl ?_ (b1) ?_ ?_ <;> simp (maxDischargeDepth := 120) [zA, aF, *] <;> refine ⟨?_⟩) | (refine WK.t Tryz.func193 ?_ ?_ <;> simp (maxDischargeDepth := 120) [Tryz.results193, zA, aF, *]))
 have h8' : 8 ≤ b.length := by omega
 have j8 : ¬ (b.length : Int) < 8 := by omega
 have g1 := nget_c b 0 2 Sz2 hb (by omega)
 have g2 := nget_c b 2 2 Sz2 hb (by omega)
 rw [aK_get b h8'] at g1
 rw [aN_get b h8'] at g2
 have hlt := aN_lt b h8'
 have hdef : aDec b = if aN b < 8 ∨ ¬ aN b % 8 = 0 ∨ b.length < aN b then aBad 1 else
   if aK b = 25 then aSetD (b.take (aN b)) else if (aLength (aK b)).1 = 0 then aBad 0 else if ¬ aN b = (aLength (aK b)).1 then aBad 1 else
   if allZ ((b.take (aN b)).drop (aLength (aK b)).2) = true then aPlain (aK b) (b.take (aN b)) else aBad 5 := by
   rw [aDec, if_neg h8]
 obtain ⟨n, hn⟩ : ∃ n, aN b = n := ⟨_, rfl⟩
 obtain ⟨k, hk⟩ : ∃ k, aK b = k := ⟨_, rfl⟩
 simp only [hn] at g2 hlt hdef
 simp only [hk] at g1 hdef
 clear hn hk
 have m7 := bAnd7 n hlt
 have z7 : (((n % 8 : Nat) : Int) == 0) = (n % 8 == 0) := by rw [Bool.eq_iff_iff, beq_iff_eq, beq_iff_eq]; omega
 obtain ⟨r, hr⟩ : ∃ r, n % 8 = r := ⟨_, rfl⟩
 rw [hr] at m7 z7 hdef
 by_cases c1 : n < 8
 · have e : aDec b = aBad 1 := by rw [hdef, if_pos (.inl c1)]
   have d1 : (n : Int) < 8 := by omega
   unfold byS at *
   clear hdef hr
   refine FnP.i Tryz.func193 rfl rfl fun G w => ?_
   repeat' (first | apply WK.s | apply WK.k | refine WK.cT rfl ?_ | refine WK.cF rfl ?_ | (refine hQ.h _ _ ?_; clear hQ hA) | (refine WK.rH Tryz.ntmps193 (by kernel_rfl) ?_; intro A hA Q hQ; simp [zA, aF, *]) | (refine RunQ.g rfl (by rw [hA.h]; rfl) ?_; simp [zA, aF, *]) | (refine RunQ.k rfl rfl rfl rfl rfl ?_ (g1) ?_ ?_ <;> simp (maxDischargeDepth := 120) [zA, aF, *] <;> refine ⟨?_⟩) | (refine RunQ.k rfl rfl rfl rfl rfl ?_ (g2) ?_ ?_ <;> simp (maxDischargeDepth := 120) [zA, aF, *] <;> refine ⟨?_⟩) | (refine RunQ.k rfl rfl rfl rfl rfl ?_ (b1) ?_ ?_ <;> simp (maxDischargeDepth := 120) [zA, aF, *] <;> refine ⟨?_⟩) | (refine WK.t Tryz.func193 ?_ ?_ <;> simp (maxDischargeDepth := 120) [Tryz.results193, zA, aF, *]))
 have d1 : ¬ (n : Int) < 8 := by omega
 by_cases c2 : r = 0
 case neg =>
   have e : aDec b = aBad 1 := by rw [hdef, if_pos (.inr (.inl c2))]
   have d2 : (r == 0) = false := by simpa using c2
   rw [d2] at z7
   unfold byS at *
   clear hdef hr
   refine FnP.i Tryz.func193 rfl rfl fun G w => ?_
   repeat' (first | apply WK.s | apply WK.k | refine WK.cT rfl ?_ | refine WK.cF rfl ?_ | (refine hQ.h _ _ ?_; clear hQ hA) | (refine WK.rH Tryz.ntmps193 (by kernel_rfl) ?_; intro A hA Q hQ; simp [zA, aF, bne, *]) | (refine RunQ.g rfl (by rw [hA.h]; rfl) ?_; simp [zA, aF, bne, *]) | (refine RunQ.k rfl rfl rfl rfl rfl ?_ (g1) ?_ ?_ <;> simp (maxDischargeDepth := 120) [zA, aF, bne, *] <;> refine ⟨?_⟩) | (refine RunQ.k rfl rfl rfl rfl rfl ?_ (g2) ?_ ?_ <;> simp (maxDischargeDepth := 120) [zA, aF, bne, *] <;> refine ⟨?_⟩) | (refine RunQ.k rfl rfl rfl rfl rfl ?_ (b1) ?_ ?_ <;> simp (maxDischargeDepth := 120) [zA, aF, bne, *] <;> refine ⟨?_⟩) | (refine WK.t Tryz.func193 ?_ ?_ <;> simp (maxDischargeDepth := 120) [Tryz.results193, zA, aF, bne, *]))
 have d2 : (r == 0) = true := by simpa using c2
 rw [d2] at z7
 by_cases c3 : b.length < n
 · have e : aDec b = aBad 1 := by rw [hdef, if_pos (.inr (.inr c3))]
   have d3 : (b.length : Int) < n := by omega
   unfold byS at *
   clear hdef hr c2
   refine FnP.i Tryz.func193 rfl rfl fun G w => ?_
   repeat' (first | apply WK.s | apply WK.k | refine WK.cT rfl ?_ | refine WK.cF rfl ?_ | (refine hQ.h _ _ ?_; clear hQ hA) | (refine WK.rH Tryz.ntmps193 (by kernel_rfl) ?_; intro A hA Q hQ; simp [zA, aF, bne, *]) | (refine RunQ.g rfl (by rw [hA.h]; rfl) ?_; simp [zA, aF, bne, *]) | (refine RunQ.k rfl rfl rfl rfl rfl ?_ (g1) ?_ ?_ <;> simp (maxDischargeDepth := 120) [zA, aF, bne, *] <;> refine ⟨?_⟩) | (refine RunQ.k rfl rfl rfl rfl rfl ?_ (g2) ?_ ?_ <;> simp (maxDischargeDepth := 120) [zA, aF, bne, *] <;> refine ⟨?_⟩) | (refine RunQ.k rfl rfl rfl rfl rfl ?_ (b1) ?_ ?_ <;> simp (maxDischargeDepth := 120) [zA, aF, bne, *] <;> refine ⟨?_⟩) | (refine WK.t Tryz.func193 ?_ ?_ <;> simp (maxDischargeDepth := 120) [Tryz.results193, zA, aF, bne, *]))
 rw [if_neg (by omega)] at hdef
 have d3 : ¬ (b.length : Int) < n := by omega
 have j1 : (n : Int) ≤ b.length := by omega
 have hBl : (b.take n).length = n := by rw [List.length_take]; omega
 obtain ⟨B, hB⟩ : ∃ B, b.take n = B := ⟨_, rfl⟩
 have t1 : (byL b).take n = byL B := by rw [byL_take, hB]
 rw [hB] at hdef hBl
 have hs := aset_c B (by omega) (by omega)
 have hp := aplain_c k B (by omega)
 unfold byS at *
 rw [hBl] at hs hp
 clear hB hr c2
 by_cases k5 : k = 25
 · subst k5
   rw [if_pos rfl] at hdef
   clear hp
   obtain ⟨R, hR⟩ : ∃ R, aSetD B = R := ⟨_, rfl⟩
   rw [hR] at hs hdef
   obtain ⟨ra, rn, rf⟩ := R
   clear hR
   refine FnP.i Tryz.func193 rfl rfl fun G w => ?_
   cases rf <;>
   · repeat' (first | apply WK.s | apply WK.k | refine WK.cT rfl ?_ | refine WK.cF rfl ?_ | (refine hQ.h _ _ ?_; clear hQ hA) | (refine WK.rH Tryz.ntmps193 (by kernel_rfl) ?_; intro A hA Q hQ; simp [aRes, Action.enc, Oxm.enc, oxm0, wideZ, uZ_, aF, bne, *]) | (refine RunQ.g rfl (by rw [hA.h]; rfl) ?_; simp [aRes, Action.enc, Oxm.enc, oxm0, wideZ, uZ_, aF, bne, *]) | (refine RunQ.k rfl rfl rfl rfl rfl ?_ (g1) ?_ ?_ <;> simp (maxDischargeDepth := 120) [aRes, Action.enc, Oxm.enc, oxm0, wideZ, uZ_, aF, bne, *] <;> refine ⟨?_⟩) | (refine RunQ.k rfl rfl rfl rfl rfl ?_ (g2) ?_ ?_ <;> simp (maxDischargeDepth := 120) [aRes, Action.enc, Oxm.enc, oxm0, wideZ, uZ_, aF, bne, *] <;> refine ⟨?_⟩) | (refine RunQ.k rfl rfl rfl rfl rfl ?_ (hs) ?_ ?_ <;> simp (maxDischargeDepth := 120) [aRes, Action.enc, Oxm.enc, oxm0, wideZ, uZ_, aF, bne, *] <;> refine ⟨?_⟩) | (refine WK.t Tryz.func193 ?_ ?_ <;> simp (maxDischargeDepth := 120) [Tryz.results193, aRes, Action.enc, Oxm.enc, oxm0, wideZ, uZ_, aF, bne, *]))
 have d5 : ((k : Int) == 25) = false := by rw [beq_eq_false_iff_ne]; omega
 have d5' : ¬ (k : Int) = 25 := by omega
 rw [if_neg k5] at hdef
 clear hs k5
 have hL := alength_c (k : Int)
 obtain ⟨L, hLe⟩ : ∃ L, aLength (k : Int) = L := ⟨_, rfl⟩
 rw [hLe] at hL hdef
 have hLb : L.2 ≤ L.1 ∧ (L.1 = 0 → L.2 = 0) := by rw [← hLe]; unfold aLength; (repeat' split) <;> simp
 obtain ⟨want, used⟩ := L
 simp only at hL hdef hLb
 clear hLe
 have z9 : ((n : Int) == (want : Int)) = (n == want) := by rw [Bool.eq_iff_iff, beq_iff_eq, beq_iff_eq]; omega
 have z8 : ((want : Int) == 0) = (want == 0) := by rw [Bool.eq_iff_iff, beq_iff_eq, beq_iff_eq]; omega
 by_cases k0 : want = 0
 · have e : aDec b = aBad 0 := by rw [hdef, if_pos k0]
   have d0 : (want == 0) = true := by simpa using k0
   rw [d0] at z8
   clear hdef hp z9 k0
   refine FnP.i Tryz.func193 rfl rfl fun G w => ?_
   repeat' (first | apply WK.s | apply WK.b | apply WK.k | refine WK.cT rfl ?_ | refine WK.cF rfl ?_ | (refine hQ.h _ _ ?_; clear hQ hA) | (refine WK.rH Tryz.ntmps193 (by kernel_rfl) ?_; intro A hA Q hQ; simp [zA, aF, bne, *]) | (refine RunQ.g rfl (by rw [hA.h]; rfl) ?_; simp [zA, aF, bne, *]) | (refine RunQ.k rfl rfl rfl rfl rfl ?_ (g1) ?_ ?_ <;> simp (maxDischargeDepth := 120) [zA, aF, bne, *] <;> refine ⟨?_⟩) | (refine RunQ.k rfl rfl rfl rfl rfl ?_ (g2) ?_ ?_ <;> simp (maxDischargeDepth := 120) [zA, aF, bne, *] <;> refine ⟨?_⟩) | (refine RunQ.k rfl rfl rfl rfl rfl ?_ (hL) ?_ ?_ <;> simp (maxDischargeDepth := 120) [zA, aF, bne, *] <;> refine ⟨?_⟩) | (refine RunQ.k rfl rfl rfl rfl rfl ?_ (b0) ?_ ?_ <;> simp (maxDischargeDepth := 120) [zA, aF, bne, *] <;> refine ⟨?_⟩) | (refine WK.t Tryz.func193 ?_ ?_ <;> simp (maxDischargeDepth := 120) [Tryz.results193, zA, aF, bne, *]))
 rw [if_neg k0] at hdef
 have d0 : (want == 0) = false := by simpa using k0
 rw [d0] at z8
 by_cases k1 : n = want
 case neg =>
   have e : aDec b = aBad 1 := by rw [hdef, if_pos k1]
   have d9 : (n == want) = false := by simpa using k1
   rw [d9] at z9
   clear hdef hp k1
   refine FnP.i Tryz.func193 rfl rfl fun G w => ?_
   repeat' (first | apply WK.s | apply WK.b | apply WK.k | refine WK.cT rfl ?_ | refine WK.cF rfl ?_ | (refine hQ.h _ _ ?_; clear hQ hA) | (refine WK.rH Tryz.ntmps193 (by kernel_rfl) ?_; intro A hA Q hQ; simp [zA, aF, bne, *]) | (refine RunQ.g rfl (by rw [hA.h]; rfl) ?_; simp [zA, aF, bne, *]) | (refine RunQ.k rfl rfl rfl rfl rfl ?_ (g1) ?_ ?_ <;> simp (maxDischargeDepth := 120) [zA, aF, bne, *] <;> refine ⟨?_⟩) | (refine RunQ.k rfl rfl rfl rfl rfl ?_ (g2) ?_ ?_ <;> simp (maxDischargeDepth := 120) [zA, aF, bne, *] <;> refine ⟨?_⟩) | (refine RunQ.k rfl rfl rfl rfl rfl ?_ (hL) ?_ ?_ <;> simp (maxDischargeDepth := 120) [zA, aF, bne, *] <;> refine ⟨?_⟩) | (refine RunQ.k rfl rfl rfl rfl rfl ?_ (b1) ?_ ?_ <;> simp (maxDischargeDepth := 120) [zA, aF, bne, *] <;> refine ⟨?_⟩) | (refine WK.t Tryz.func193 ?_ ?_ <;> simp (maxDischargeDepth := 120) [Tryz.results193, zA, aF, bne, *]))
 rw [if_neg (by simpa using k1)] at hdef
 have d9 : (n == want) = true := by simpa using k1
 rw [d9] at z9
 have u1 : used ≤ n := by omega
 have u2 : (used : Int) ≤ n := by omega
 have hE := aempty_c (B.drop used) (by rw [List.length_drop]; omega)
 have hdr : ((byL B).drop used).take (n - used) = byL (B.drop used) := by rw [byL_drop]; exact by_full _ _ (by rw [List.length_drop, hBl])
 unfold byS at hE
 rw [List.length_drop, hBl] at hE
 obtain ⟨E5, hE5⟩ : ∃ E5, B.drop used = E5 := ⟨_, rfl⟩
 rw [hE5] at hE hdr hdef
 clear hE5 k1 k0 hLb
 refine FnP.i Tryz.func193 rfl rfl fun G w => ?_
 cases kz : allZ E5
 · rw [kz, if_neg Bool.false_ne_true] at hdef
   clear hp
   repeat' (first | apply WK.s | apply WK.b | apply WK.k | refine WK.cT rfl ?_ | refine WK.cF rfl ?_ | (refine hQ.h _ _ ?_; clear hQ hA) | (refine WK.rH Tryz.ntmps193 (by kernel_rfl) ?_; intro A hA Q hQ; simp [zA, aF, bne, *]) | (refine RunQ.g rfl (by rw [hA.h]; rfl) ?_; simp [zA, aF, bne, *]) | (refine RunQ.k rfl rfl rfl rfl rfl ?_ (g1) ?_ ?_ <;> simp (maxDischargeDepth := 120) [zA, aF, bne, *] <;> refine ⟨?_⟩) | (refine RunQ.k rfl rfl rfl rfl rfl ?_ (g2) ?_ ?_ <;> simp (maxDischargeDepth := 120) [zA, aF, bne, *] <;> refine ⟨?_⟩) | (refine RunQ.k rfl rfl rfl rfl rfl ?_ (hL) ?_ ?_ <;> simp (maxDischargeDepth := 120) [zA, aF, bne, *] <;> refine ⟨?_⟩) | (refine RunQ.k rfl rfl rfl rfl rfl ?_ (hE) ?_ ?_ <;> simp (maxDischargeDepth := 120) [zA, aF, bne, *] <;> refine ⟨?_⟩) | (refine RunQ.k rfl rfl rfl rfl rfl ?_ (b5) ?_ ?_ <;> simp (maxDischargeDepth := 120) [zA, aF, bne, *] <;> refine ⟨?_⟩) | (refine WK.t Tryz.func193 ?_ ?_ <;> simp (maxDischargeDepth := 120) [Tryz.results193, zA, aF, bne, *]))
 · rw [kz, if_pos rfl] at hdef
   obtain ⟨R, hR⟩ : ∃ R, aPlain k B = R := ⟨_, rfl⟩
   rw [hR] at hp hdef
   obtain ⟨ra, rn, rf⟩ := R
   clear hR
   cases rf <;>
   · repeat' (first | apply WK.s | apply WK.b | apply WK.n | apply WK.k | refine WK.cF rfl ?_ | (refine hQ.h _ _ ?_; clear hQ hA) | (refine WK.rH Tryz.ntmps193 (by kernel_rfl) ?_; intro A hA Q hQ; simp [aRes, Action.enc, Oxm.enc, oxm0, wideZ, uZ_, aF, bne, *]) | (refine RunQ.g rfl (by rw [hA.h]; rfl) ?_; simp [aRes, Action.enc, Oxm.enc, oxm0, wideZ, uZ_, aF, bne, *]) | (refine RunQ.k rfl rfl rfl rfl rfl ?_ (g1) ?_ ?_ <;> simp (maxDischargeDepth := 120) [aRes, Action.enc, Oxm.enc, oxm0, wideZ, uZ_, aF, bne, *] <;> refine ⟨?_⟩) | (refine RunQ.k rfl rfl rfl rfl rfl ?_ (g2) ?_ ?_ <;> simp (maxDischargeDepth := 120) [aRes, Action.enc, Oxm.enc, oxm0, wideZ, uZ_, aF, bne, *] <;> refine ⟨?_⟩) | (refine RunQ.k rfl rfl rfl rfl rfl ?_ (hL) ?_ ?_ <;> simp (maxDischargeDepth := 120) [aRes, Action.enc, Oxm.enc, oxm0, wideZ, uZ_, aF, bne, *] <;> refine ⟨?_⟩) | (refine RunQ.k rfl rfl rfl rfl rfl ?_ (hE) ?_ ?_ <;> simp (maxDischargeDepth := 120) [aRes, Action.enc, Oxm.enc, oxm0, wideZ, uZ_, aF, bne, *] <;> refine ⟨?_⟩) | (refine RunQ.k rfl rfl rfl rfl rfl ?_ (hp) ?_ ?_ <;> simp (maxDischargeDepth := 120) [aRes, Action.enc, Oxm.enc, oxm0, wideZ, uZ_, aF, bne, *] <;> refine ⟨?_⟩) | (refine WK.t Tryz.func193 ?_ ?_ <;> simp (maxDischargeDepth := 120) [Tryz.results193, aRes, Action.enc, Oxm.enc, oxm0, wideZ, uZ_, aF, bne, *]))
end Go.Proofs.YtcccfbjkcahgfaaGreat
