/- Parts of a match: their head read. -/
import Derived.Test.YtmhapglejjehbaaGreatWk3
import Derived.Test.YtmhapglejjehbaaGreatAf
import Derived.Test.YtmhapglejjehbaaGreatDa
set_option linter.all false
set_option linter.unnecessarySimpa false
namespace Go.Proofs.YtmhapglejjehbaaGreat
open Go Go.AI Go.Proofs
def bAt (b : List (BitVec 8)) (i : Nat) : Nat := (nth b i).toNat
def hField (b : List (BitVec 8)) : Int × Bool := fIndex (bAt b 2 / 2 : Nat)
def hMasked (b : List (BitVec 8)) : Bool := bAt b 2 % 2 == 1
def hWant (b : List (BitVec 8)) : Nat := if hMasked b then fSize (hField b).1 * 2 else fSize (hField b).1
def hCode (b : List (BitVec 8)) : Int :=
 if b.length < 4 then 1 else if b.length < 4 + bAt b 3 then 1
 else if bAt b 0 != 128 || (bAt b 1 != 0 || !(hField b).2) then 6
 else if hMasked b && !fMasks (hField b).1 then 8
 else if bAt b 3 != hWant b then 1 else 0
theorem bAt_lt (b : List (BitVec 8)) (i : Nat) : bAt b i < 256 := (nth b i).isLt

def x0_ : Oxm := ⟨0, false, wZ_, wZ_⟩
def oRead (b : List (BitVec 8)) : Oxm := ⟨(hField b).1, hMasked b, (wGet (b.drop 4) (fSize (hField b).1)).1,
 if hMasked b then (wGet (b.drop (4 + fSize (hField b).1)) (fSize (hField b).1)).1 else wZ_⟩
def oDec (b : List (BitVec 8)) : Oxm × Int × Int :=
 if hCode b = 0 then (if Oxm.form (oRead b) = 0 then (oRead b, 4 + bAt b 3, 0) else (x0_, 0, Oxm.form (oRead b))) else (x0_, 0, hCode b)
end Go.Proofs.YtmhapglejjehbaaGreat

namespace Go.Proofs.YtmhapglejjehbaaGreat
open Go Go.AI Go.Proofs
attribute [local irreducible] FnP FnO FnB FnT FnSeq WK RunQ RunQW RunX RunXW
def act0 : Action := ⟨0, 0, 0, 0, 0, x0_⟩
def aSets (f : Int) : Bool := fRight f && (f != 0 && f != 1)
def aGoes (p : Int) : Bool := (decide (0 < p) && decide (p ≤ 4294967040)) || p == 4294967293
def aMost (a : Action) : Bool := decide (0 ≤ a.max) && (decide (a.max ≤ 65535) && (a.max == 0 || a.port == 4294967293))
def Action.bare (a : Action) : Action := if a.kind = 0 then ⟨0, a.port, a.max, 0, 0, x0_⟩ else if a.kind = 22 then ⟨22, 0, 0, a.group, 0, x0_⟩ else if a.kind = 17 then ⟨17, 0, 0, 0, a.ether, x0_⟩
 else if a.kind = 25 then ⟨25, 0, 0, 0, 0, a.oxm⟩ else ⟨a.kind, 0, 0, 0, 0, x0_⟩
def Action.fine (a : Action) : Bool := if a.kind = 0 then aGoes a.port && aMost a else if a.kind = 22 then decide (0 ≤ a.group) && decide (a.group ≤ 4294967040) else if a.kind = 17 then a.ether == 33024 || a.ether == 34984
 else if a.kind = 18 then true else if a.kind = 25 then Oxm.right a.oxm && (!a.oxm.masked && aSets a.oxm.field) else false
def Action.right (a : Action) : Bool := Action.fine a && a == Action.bare a
theorem asets_c (f : Int) : FnP Tryz.prog 206 [.int .i64 f] (.bool (aSets f)) := by
 refine FnP.i Tryz.func206 rfl rfl fun G w => ?_
 repeat' (first | apply WK.s | (refine hQ.h _ _ ?_; clear hQ hA) | (refine Fork.mk (fun h => ?_) (fun h => ?_) <;> (first | (simp [*] at h; done) | (have h2 := h; simp at h2; exfalso; omega) | (have h2 := h; simp at h2; try simp only [Bool.not_eq_true', Bool.not_eq_false'] at h) | skip)) | (refine WK.rH Tryz.ntmps206 (by kernel_rfl) ?_; intro A hA Q hQ; simp [bne, *]) | (refine RunQ.g rfl (by rw [hA.h]; rfl) ?_; simp [bne, *]) | (refine RunQ.k rfl rfl rfl rfl rfl ?_ (fright_c f) ?_ ?_ <;> simp (maxDischargeDepth := 120) [bne, *] <;> refine ⟨?_⟩) | (refine WK.t Tryz.func206 ?_ ?_ <;> simp (maxDischargeDepth := 120) [Tryz.results206, bne, aSets, *]))
theorem agoes_c (p : Int) : FnP Tryz.prog 205 [.int .i64 p] (.bool (aGoes p)) := by
 refine FnP.i Tryz.func205 rfl rfl fun G w => ?_
 repeat' (first | apply WK.s | (refine hQ.h _ _ ?_; clear hQ hA) | (refine Fork.mk (fun h => ?_) (fun h => ?_) <;> (first | (simp [*] at h; done) | (have h2 := h; simp at h2; exfalso; omega) | (have h2 := h; simp at h2; try simp only [Bool.not_eq_true', Bool.not_eq_false'] at h) | skip)) | (refine WK.rH Tryz.ntmps205 (by kernel_rfl) ?_; intro A hA Q hQ; simp [*]) | (refine RunQ.g rfl (by rw [hA.h]; rfl) ?_; simp [*]) | (refine WK.t Tryz.func205 ?_ ?_ <;> simp (maxDischargeDepth := 120) [Tryz.results205, aGoes, *]))
set_option maxHeartbeats 4000000 in
theorem aright_c (a : Action) : FnP Tryz.prog 171 [.agg a.enc] (.bool (Action.right a)) := by
 have ho := oright_c a.oxm
 simp only [Oxm.enc] at ho
 have g : aGoes 4294967293 = true := rfl
 refine FnP.i Tryz.func171 rfl rfl fun G w => ?_
 repeat' (first | apply WK.s | apply WK.b | apply WK.n | apply WK.k | (refine hQ.h _ _ ?_; clear hQ hA) | (refine WK.c2 rfl (fun h => ?_) (fun h => ?_) <;> (first | (simp [*] at h; done) | (have h2 := h; simp at h2; exfalso; omega) | (have h2 := h; simp at h2; try simp only [Bool.not_eq_true', Bool.not_eq_false'] at h) | skip)) | (refine Fork.mk (fun h => ?_) (fun h => ?_) <;> (first | (simp [*] at h; done) | (have h2 := h; simp at h2; exfalso; omega) | (have h2 := h; simp at h2; try simp only [Bool.not_eq_true', Bool.not_eq_false'] at h) | skip)) | (refine WK.rH Tryz.ntmps171 (by kernel_rfl) ?_; intro A hA Q hQ; simp [Action.enc, *]) | (refine WK.rX (by kernel_rfl) Tryz.ntmps171 (by kernel_rfl) ?_; intro A hA Q hQ; simp [Action.enc, *]) | (refine hQ.h _ _ _ (by decide +kernel) ?_; clear hQ hA) | (refine RunQ.g rfl (by rw [hA.h]; rfl) ?_; simp [Action.enc, *]) | (refine RunQ.k rfl rfl rfl rfl rfl ?_ (agoes_c a.port) ?_ ?_ <;> simp (maxDischargeDepth := 120) [Action.enc, *] <;> refine ⟨?_⟩) | (refine RunQ.k rfl rfl rfl rfl rfl ?_ (ho) ?_ ?_ <;> simp (maxDischargeDepth := 120) [Action.enc, *] <;> refine ⟨?_⟩) | (refine RunQW.k rfl rfl rfl rfl ?_ (asets_c a.oxm.field) ?_ ?_ <;> simp (maxDischargeDepth := 120) [Action.enc, *] <;> refine ⟨?_⟩) | (refine WK.t Tryz.func171 ?_ ?_ <;> simp (maxDischargeDepth := 120) [Tryz.results171, Action.enc, Action.right, Action.fine, aMost, Action.bare, Action.beq, Oxm.beq, x0_, wZ_, *]))

set_option maxHeartbeats 4000000 in
theorem oencT_c (o : Oxm) : FnT Tryz.prog 132 [.agg o.enc] (oEnc o).1.length 1 (byL (oEnc o).1) [.int .i64 (oEnc o).2] := by
 have hr := oright_c o
 have hsz := fSize_le o.field
 have hid := (fRow_ok o.field).1
 have hbl := oBody_len o
 have hsh := shl_one o.field
 have p1 := nputP_c [] 32768 2 (by unfold Sz; omega) (by simp)
 rw [show byS [] = .sl false 0 [] from rfl] at p1
 have l1 := putN_len [] 32768 2
 have hbl2 : (oBody o).length ≤ 32 := by rw [hbl]; split <;> omega
 simp only [Oxm.enc] at hr
 cases k : Oxm.right o
 · have e : oEnc o = ([], 1) := by unfold oEnc; rw [k]; rfl
   rw [k] at hr
   rw [e]
   refine FnT.intro Tryz.func132 rfl rfl fun G w => ?_
   repeat apply WK.s
   refine WK.g 100 Tryz.ntmps132 (by kernel_rfl) ?_
   intro A hA Q hQ
   simp [Oxm.enc]
   apply hQ
   clear hQ hA
   repeat apply WK.s
   refine WK.ghost (Ghost.frzVar 1 rfl rfl) ?_
   refine WK.g 200 Tryz.ntmps132 (by kernel_rfl) ?_
   intro A hA Q hQ
   simp
   refine RunQ.call rfl rfl rfl rfl (by rfl) (by simp (maxDischargeDepth := 120)) (hr) (by simp) ?_
   refine RunQ.eval ?_
   simp
   apply hQ
   clear hQ hA
   refine WK.c2 rfl (fun h => ?_) (fun h => ?_)
   · repeat apply WK.s
     refine WK.g 300 Tryz.ntmps132 (by kernel_rfl) ?_
     intro A hA Q hQ
     simp
     apply hQ
     clear hQ hA
     refine WK.ghost (Ghost.own 2 900 1 rfl rfl) ?_
     refine WK.retT2 Tryz.func132 ?_ ?_ ?_ <;> simp (maxDischargeDepth := 120) [Tryz.results132, b0_]
   · cases h
 rw [k] at hr
 have e : oEnc o = (oHead o ++ oBody o, 0) := by unfold oEnc; rw [k]; rfl
 have hor := or_one o.field (right_field k)
 obtain ⟨b1, hb1⟩ : ∃ b1, b1 = putN [] 32768 2 := ⟨_, rfl⟩
 rw [← hb1] at p1 l1
 simp only [List.length_nil, Nat.zero_add] at l1
 have p2 := nputP_c b1 (oNum o) 1 (by unfold Sz; omega) (by omega)
 have l2 := putN_len b1 (oNum o) 1
 have p3 := nput_c (putN b1 (oNum o) 1) (oBody o).length 1 (by unfold Sz; omega) (by omega)
 have eh : oHead o = putN (putN b1 (oNum o) 1) (oBody o).length 1 := by unfold oHead; rw [hb1]
 have l3 := putN_len (putN b1 (oNum o) 1) (oBody o).length 1
 rw [← eh] at p3 l3
 obtain ⟨b2, hb2⟩ : ∃ b2, b2 = putN b1 (oNum o) 1 := ⟨_, rfl⟩
 rw [← hb2] at p2 p3
 have q1 := wputP_c [] o.value (fSize o.field) hsz (by simp)
 rw [show byS [] = .sl false 0 [] from rfl] at q1
 have hf := by_full (oBody o) _ rfl
 have hbd : (oHead o).length + (oBody o).length ≤ 140737488355328 := by omega
 have hT : (byL (oHead o) ++ byL (oBody o)).take ((oHead o).length + (oBody o).length) = byL (oHead o) ++ byL (oBody o) := List.take_of_length_le (by simp)
 rw [e]
 refine FnT.intro Tryz.func132 rfl rfl fun G w => ?_
 repeat apply WK.s
 refine WK.g 100 Tryz.ntmps132 (by kernel_rfl) ?_
 intro A hA Q hQ
 simp [Oxm.enc]
 apply hQ
 clear hQ hA
 repeat apply WK.s
 refine WK.ghost (Ghost.frzVar 1 rfl rfl) ?_
 refine WK.g 200 Tryz.ntmps132 (by kernel_rfl) ?_
 intro A hA Q hQ
 simp
 refine RunQ.call rfl rfl rfl rfl (by rfl) (by simp (maxDischargeDepth := 120)) (hr) (by simp) ?_
 refine RunQ.eval ?_
 simp
 apply hQ
 clear hQ hA
 refine WK.c2 rfl (fun h => ?_) (fun h => ?_)
 · cases h
 repeat (first | apply WK.s | apply WK.k)
 refine WK.g 300 Tryz.ntmps132 (by kernel_rfl) ?_
 intro A hA Q hQ
 simp
 refine RunQ.call rfl rfl rfl rfl (by rfl) (by simp (maxDischargeDepth := 120)) (fsize_c o.field) (by simp) ?_
 refine RunQ.eval ?_
 simp
 apply hQ
 clear hQ hA
 repeat apply WK.s
 apply WK.cut (⟨(upd (upd J 5 (.sl false (oBody o).length (byL (oBody o)))) 6 (.int .i64 (oNum o))), B0, 0⟩ : St)
 · intro hcut
   simp only [Wide.enc] at q1
   cases m : o.masked
   · have eb : oBody o = wPut [] o.value (fSize o.field) := by unfold oBody; rw [m]; rfl
     have en : oNum o = fID o.field * 2 := by unfold oNum; rw [m]; rfl
     rw [← eb] at q1
     refine WK.g 400 Tryz.ntmps132 (by kernel_rfl) ?_
     intro A hA Q hQ
     simp
     refine RunQ.call rfl rfl rfl rfl (by rfl) (by simp (maxDischargeDepth := 120)) (q1) (by simp) ?_
     refine RunQ.eval ?_
     simp
     apply hQ
     clear hQ hA
     repeat apply WK.s
     refine WK.g 500 Tryz.ntmps132 (by kernel_rfl) ?_
     intro A hA Q hQ
     simp
     refine RunQ.call rfl rfl rfl rfl (by rfl) (by simp (maxDischargeDepth := 120) [hsh]) (fid_c o.field) (by simp [hsh]) ?_
     refine RunQ.eval ?_
     simp [hsh]
     apply hQ
     clear hQ hA
     repeat apply WK.s
     refine WK.g 600 Tryz.ntmps132 (by kernel_rfl) ?_
     intro A hA Q hQ
     simp [m]
     apply hQ
     clear hQ hA
     refine WK.c2 rfl (fun h => ?_) (fun h => ?_)
     · cases h
     · repeat (first | apply WK.s | apply WK.k)
       refine WK.next (fun n => n) hcut (by repeat (first | exact TmW.nil | refine TmW.upd ?_ (by simp (maxDischargeDepth := 120) [en, byS]))) (by repeat (first | exact BxW.nil | refine BxW.upd ?_ (by simp (maxDischargeDepth := 120) [en, byS]))) InjW.id
   · have eb : oBody o = wPut (wPut [] o.value (fSize o.field)) o.mask (fSize o.field) := by unfold oBody; rw [m]; rfl
     have en : oNum o = fID o.field * 2 + 1 := by unfold oNum; rw [m]; rfl
     have l4 := wPut_len [] o.value (fSize o.field) hsz
     have q2 := wputP_c (wPut [] o.value (fSize o.field)) o.mask (fSize o.field) hsz (by rw [l4]; simp; omega)
     rw [← eb] at q2
     simp only [Wide.enc] at q2
     obtain ⟨b4, hb4⟩ : ∃ b4, b4 = wPut [] o.value (fSize o.field) := ⟨_, rfl⟩
     rw [← hb4] at q1 q2
     refine WK.g 700 Tryz.ntmps132 (by kernel_rfl) ?_
     intro A hA Q hQ
     simp
     refine RunQ.call rfl rfl rfl rfl (by rfl) (by simp (maxDischargeDepth := 120)) (q1) (by simp) ?_
     refine RunQ.eval ?_
     simp
     apply hQ
     clear hQ hA
     repeat apply WK.s
     refine WK.g 800 Tryz.ntmps132 (by kernel_rfl) ?_
     intro A hA Q hQ
     simp
     refine RunQ.call rfl rfl rfl rfl (by rfl) (by simp (maxDischargeDepth := 120) [hsh]) (fid_c o.field) (by simp [hsh]) ?_
     refine RunQ.eval ?_
     simp [hsh]
     apply hQ
     clear hQ hA
     repeat apply WK.s
     refine WK.g 900 Tryz.ntmps132 (by kernel_rfl) ?_
     intro A hA Q hQ
     simp [m]
     apply hQ
     clear hQ hA
     refine WK.c2 rfl (fun h => ?_) (fun h => ?_)
     · repeat apply WK.s
       refine WK.g 1000 Tryz.ntmps132 (by kernel_rfl) ?_
       intro A hA Q hQ
       simp
       refine RunQ.call rfl rfl rfl rfl (by rfl) (by simp (maxDischargeDepth := 120)) (q2) (by simp) ?_
       refine RunQ.eval ?_
       simp
       apply hQ
       clear hQ hA
       refine WK.g 1100 Tryz.ntmps132 (by kernel_rfl) ?_
       intro A hA Q hQ
       simp [hor]
       apply hQ
       clear hQ hA
       repeat apply WK.s
       refine WK.next (fun n => n) hcut (by repeat (first | exact TmW.nil | refine TmW.upd ?_ (by simp (maxDischargeDepth := 120) [en, byS]))) (by repeat (first | exact BxW.nil | refine BxW.upd ?_ (by simp (maxDischargeDepth := 120) [en, byS]))) InjW.id
     · cases h
 refine WK.g 1200 Tryz.ntmps132 (by kernel_rfl) ?_
 intro A hA Q hQ
 simp
 refine RunQ.call rfl rfl rfl rfl (by rfl) (by simp (maxDischargeDepth := 120)) (p1) (by simp) ?_
 refine RunQ.eval ?_
 simp
 refine RunQ.call rfl rfl rfl rfl (by rfl) (by simp (maxDischargeDepth := 120)) (p2) (by simp) ?_
 refine RunQ.eval ?_
 simp
 refine RunQ.callO 900 rfl rfl rfl (by simp) (by rfl) (by simp (maxDischargeDepth := 120)) (p3) (by simp) (by simp) (by simp) ?_
 refine RunQ.eval ?_
 simp
 apply hQ
 clear hQ hA
 repeat apply WK.s
 refine WK.g 1300 Tryz.ntmps132 (by kernel_rfl) ?_
 intro A hA Q hQ
 simp
 refine RunQ.append 901 appByte rfl rfl rfl rfl rfl rfl rfl (by simp [hbd, hf]) rfl (by simp [hbd, hf]) (by simp [hbd, hf]) (by simp [hbd, hf]) (by simp [hbd, hf]) ?_
 refine RunQ.eval ?_
 simp [hbd, hf]
 apply hQ
 clear hQ hA
 refine WK.retT2 Tryz.func132 ?_ ?_ ?_ <;> simp (maxDischargeDepth := 120) [Tryz.results132, byL_app, hf, hT]
def aBody (a : Action) : List (BitVec 8) := if a.kind = 0 then putN (putN [] a.port 4) a.max 2 else if a.kind = 22 then putN [] a.group 4 else if a.kind = 17 then putN [] a.ether 2 else if a.kind = 25 then (oEnc a.oxm).1 else []
theorem oEnc_len (o : Oxm) : (oEnc o).1.length ≤ 36 := by
 unfold oEnc
 split
 · have h1 := oBody_len o
   have h2 := fSize_le o.field
   have h3 : (oHead o).length ≤ 4 := by
     unfold oHead
     have a1 := putN_len [] 32768 2
     have a2 := putN_len (putN [] 32768 2) (oNum o) 1
     have a3 := putN_len (putN (putN [] 32768 2) (oNum o) 1) (oBody o).length 1
     simp at a1; omega
   simp only [List.length_append]
   have : (oBody o).length ≤ 32 := by rw [h1]; split <;> omega
   omega
 · simp
theorem aBody_len (a : Action) : (aBody a).length ≤ 36 := by
 have h1 := putN_len [] a.port 4
 have h2 := putN_len (putN [] a.port 4) a.max 2
 have h3 := putN_len [] a.group 4
 have h4 := putN_len [] a.ether 2
 have h5 := oEnc_len a.oxm
 simp at h1 h3 h4
 unfold aBody; split
 · omega
 split
 · omega
 split
 · omega
 split
 · omega
 · simp
set_option maxHeartbeats 4000000 in
theorem abody_c (a : Action) : FnO Tryz.prog 172 [.agg a.enc] (aBody a).length 1 (byL (aBody a)) := by
 have p1 := nputP_c [] a.port 4 (by unfold Sz; omega) (by simp)
 have l1 := putN_len [] a.port 4
 simp at l1
 have p2 := nput_c (putN [] a.port 4) a.max 2 (by unfold Sz; omega) (by omega)
 have p3 := nput_c [] a.group 4 (by unfold Sz; omega) (by simp)
 have p4 := nput_c [] a.ether 2 (by unfold Sz; omega) (by simp)
 have p5 := oencT_c a.oxm
 rw [show byS [] = .sl false 0 [] from rfl] at p1 p3 p4
 obtain ⟨k, port, max, group, ether, oxm⟩ := a
 simp only [Oxm.enc] at p1 p2 p3 p4 p5
 by_cases k0 : k = 0
 · subst k0
   have e : aBody ⟨0, port, max, group, ether, oxm⟩ = putN (putN [] port 4) max 2 := rfl
   rw [e]
   refine FnO.intro Tryz.func172 rfl rfl fun G w => ?_
   repeat' (first | apply WK.s | apply WK.b | refine WK.cT rfl ?_ | (refine hQ.h _ _ ?_; clear hQ hA) | (refine WK.rH Tryz.ntmps172 (by kernel_rfl) ?_; intro A hA Q hQ; simp [Action.enc, *]) | (refine WK.rX (by kernel_rfl) Tryz.ntmps172 (by kernel_rfl) ?_; intro A hA Q hQ; simp [Action.enc, *]) | (refine hQ.h _ _ _ (by decide +kernel) ?_; clear hQ hA) | (refine RunX.callO 900 rfl rfl rfl rfl ?_ (p2) ?_ ?_ ?_ ?_; (focus (simp (maxDischargeDepth := 120) [Action.enc, *]; done)); (focus (simp [Action.enc, *]; done)); (focus (simp [Action.enc, *]; done)); (focus (simp [Action.enc, *]; done)); refine RunX.e ?_; simp [Action.enc, *]) | (refine RunX.k rfl rfl rfl rfl ?_ (p1) ?_ ?_ <;> simp (maxDischargeDepth := 120) [Action.enc, *] <;> refine ⟨?_⟩) | (refine WK.retO Tryz.func172 rfl rfl ?_ ?_ <;> simp (maxDischargeDepth := 120) [Action.enc, *]))
 by_cases k1 : k = 22
 · subst k1
   have e : aBody ⟨22, port, max, group, ether, oxm⟩ = putN [] group 4 := rfl
   rw [e]
   refine FnO.intro Tryz.func172 rfl rfl fun G w => ?_
   repeat' (first | apply WK.s | apply WK.b | refine WK.cT rfl ?_ | refine WK.cF rfl ?_ | (refine hQ.h _ _ ?_; clear hQ hA) | (refine WK.rH Tryz.ntmps172 (by kernel_rfl) ?_; intro A hA Q hQ; simp [Action.enc, *]) | (refine RunQ.callO 900 rfl rfl rfl rfl rfl ?_ (p3) ?_ ?_ ?_ ?_; (focus (simp (maxDischargeDepth := 120) [Action.enc, *]; done)); (focus (simp [Action.enc, *]; done)); (focus (simp [Action.enc, *]; done)); (focus (simp [Action.enc, *]; done)); refine RunQ.evalH ?_; simp [Action.enc, *]) | (refine WK.retO Tryz.func172 rfl rfl ?_ ?_ <;> simp (maxDischargeDepth := 120) [Action.enc, *]))
 by_cases k2 : k = 17
 · subst k2
   have e : aBody ⟨17, port, max, group, ether, oxm⟩ = putN [] ether 2 := rfl
   rw [e]
   refine FnO.intro Tryz.func172 rfl rfl fun G w => ?_
   repeat' (first | apply WK.s | apply WK.b | refine WK.cT rfl ?_ | refine WK.cF rfl ?_ | (refine hQ.h _ _ ?_; clear hQ hA) | (refine WK.rH Tryz.ntmps172 (by kernel_rfl) ?_; intro A hA Q hQ; simp [Action.enc, *]) | (refine RunQ.callO 900 rfl rfl rfl rfl rfl ?_ (p4) ?_ ?_ ?_ ?_; (focus (simp (maxDischargeDepth := 120) [Action.enc, *]; done)); (focus (simp [Action.enc, *]; done)); (focus (simp [Action.enc, *]; done)); (focus (simp [Action.enc, *]; done)); refine RunQ.evalH ?_; simp [Action.enc, *]) | (refine WK.retO Tryz.func172 rfl rfl ?_ ?_ <;> simp (maxDischargeDepth := 120) [Action.enc, *]))
 by_cases k4 : k = 25
 · subst k4
   have e : aBody ⟨25, port, max, group, ether, oxm⟩ = (oEnc oxm).1 := rfl
   rw [e]
   refine FnO.intro Tryz.func172 rfl rfl fun G w => ?_
   repeat' (first | apply WK.s | apply WK.b | refine WK.cT rfl ?_ | refine WK.cF rfl ?_ | (refine hQ.h _ _ ?_; clear hQ hA) | (refine WK.rH Tryz.ntmps172 (by kernel_rfl) ?_; intro A hA Q hQ; simp [Action.enc, *]) | (refine RunQ.callT 900 rfl rfl rfl rfl rfl ?_ (p5) ?_ ?_ ?_ ?_ ?_; (focus (simp (maxDischargeDepth := 120) [Action.enc, *]; done)); (focus (simp [Action.enc, *]; done)); (focus (simp [Action.enc, *]; done)); (focus (simp [Action.enc, *]; done)); (focus (simp [Action.enc, *]; done)); refine RunQ.evalH ?_; simp [Action.enc, *]) | (refine WK.retO Tryz.func172 rfl rfl ?_ ?_ <;> simp (maxDischargeDepth := 120) [Action.enc, *]))
 · have e : aBody ⟨k, port, max, group, ether, oxm⟩ = [] := by unfold aBody; rw [if_neg k0, if_neg k1, if_neg k2, if_neg k4]
   rw [e]
   refine FnO.intro Tryz.func172 rfl rfl fun G w => ?_
   repeat' (first | apply WK.s | apply WK.b | apply WK.n | apply WK.k | (refine hQ.h _ _ ?_; clear hQ hA) | (refine WK.c2 rfl (fun h => ?_) (fun h => ?_) <;> (first | (simp [*] at h; done) | (have h2 := h; simp at h2; exfalso; omega) | (have h2 := h; simp at h2; try simp only [Bool.not_eq_true', Bool.not_eq_false'] at h) | skip)) | (refine WK.rH Tryz.ntmps172 (by kernel_rfl) ?_; intro A hA Q hQ; simp [Action.enc, *]))
   refine WK.ghost (Ghost.own 2 900 1 rfl rfl) ?_
   refine WK.retO Tryz.func172 (by rfl) (by rfl) (by simp (maxDischargeDepth := 120) [b0_]) (by simp [b0_])

def aLen (n : Nat) : Nat := if 8 < (4 + n + 7) / 8 * 8 then (4 + n + 7) / 8 * 8 else 8
def aPad (a : Action) : List (BitVec 8) := aBody a ++ List.replicate (aLen (aBody a).length - 4 - (aBody a).length) 0#8
def aEnc (a : Action) : List (BitVec 8) × Int := if Action.right a = true then (putN (putN [] a.kind 2) (aLen (aBody a).length : Nat) 2 ++ aPad a, 0) else ([], 1)
theorem aLen_ge (n : Nat) : 4 + n ≤ aLen n ∧ 8 ≤ aLen n := by unfold aLen; split <;> omega
theorem aLen_le (n : Nat) (h : n ≤ 36) : aLen n ≤ 48 := by unfold aLen; split <;> omega
theorem aPad_len (a : Action) : 4 + (aPad a).length = aLen (aBody a).length := by
 have := aLen_ge (aBody a).length
 simp only [aPad, List.length_append, List.length_replicate]; omega
theorem byL_rep (n : Nat) : List.replicate n (AV.int .u8 0) = byL (List.replicate n 0#8) := by simp [byL, bI]
theorem bNot7_all : ∀ n : Fin 64, bNot .i64 (n.val : Int) 7 = ((n.val / 8 * 8 : Nat) : Int) := by decide +kernel
theorem bNot7 (n : Nat) (h : n < 64) : bNot .i64 (n : Int) 7 = ((n / 8 * 8 : Nat) : Int) := bNot7_all ⟨n, h⟩
set_option maxHeartbeats 4000000 in
theorem aenc_c (a : Action) : FnT Tryz.prog 122 [.agg a.enc] (aEnc a).1.length 1 (byL (aEnc a).1) [.int .i64 (aEnc a).2] := by
 have hr := aright_c a
 cases k : Action.right a
 · have e : aEnc a = ([], 1) := by unfold aEnc; rw [k, if_neg Bool.false_ne_true]
   rw [k] at hr
   rw [e]
   refine FnT.intro Tryz.func122 rfl rfl fun G w => ?_
   repeat' (first | apply WK.s | refine WK.cT rfl ?_ | (refine hQ.h _ _ ?_; clear hQ hA) | (refine WK.rH Tryz.ntmps122 (by kernel_rfl) ?_; intro A hA Q hQ; simp [*]) | (refine RunQ.k rfl rfl rfl rfl rfl ?_ (hr) ?_ ?_ <;> simp (maxDischargeDepth := 120) [*] <;> refine ⟨?_⟩))
   refine WK.ghost (Ghost.own 2 900 1 rfl rfl) ?_
   refine WK.retT2 Tryz.func122 ?_ ?_ ?_ <;> simp (maxDischargeDepth := 120) [Tryz.results122, b0_]
 have e : aEnc a = (putN (putN [] a.kind 2) (aLen (aBody a).length : Nat) 2 ++ aPad a, 0) := by unfold aEnc; rw [k, if_pos rfl]
 rw [k] at hr
 have hb := abody_c a
 have hl := aBody_len a
 have hpl := aPad_len a
 have hep : aPad a = aBody a ++ List.replicate (aLen (aBody a).length - 4 - (aBody a).length) 0#8 := rfl
 have hle := aLen_le _ hl
 have hge := aLen_ge (aBody a).length
 have hdef : aLen (aBody a).length = if 8 < (4 + (aBody a).length + 7) / 8 * 8 then (4 + (aBody a).length + 7) / 8 * 8 else 8 := rfl
 have p1 := nputP_c [] a.kind 2 (by unfold Sz; omega) (by simp)
 have l1 := putN_len [] a.kind 2
 simp only [List.length_nil, Nat.zero_add] at l1
 have p2 := nput_c (putN [] a.kind 2) (aLen (aBody a).length : Nat) 2 (by unfold Sz; omega) (by omega)
 have l2 := putN_len (putN [] a.kind 2) (aLen (aBody a).length : Nat) 2
 rw [show byS [] = .sl false 0 [] from rfl] at p1
 obtain ⟨B, hB⟩ : ∃ B, aBody a = B := ⟨_, rfl⟩
 rw [hB] at hb hl hpl hep hle hge hdef p2 l2 e
 obtain ⟨n, hn⟩ : ∃ n, aLen B.length = n := ⟨_, rfl⟩
 rw [hn] at hpl hep hle hge hdef p2 l2 e
 have q1 : IntKind.i64.wrap (4 + (B.length : Int)) = ((4 + B.length : Nat) : Int) := by rw [wrap_i64 (by omega) (by omega)]; omega
 have q2 : IntKind.i64.wrap (((4 + B.length : Nat) : Int) + 7) = ((4 + B.length + 7 : Nat) : Int) := by rw [wrap_i64 (by omega) (by omega)]; omega
 have q3 := bNot7 (4 + B.length + 7) (by omega)
 obtain ⟨x1, hx1⟩ : ∃ x1, 4 + B.length = x1 := ⟨_, rfl⟩
 rw [hx1] at q1 q2 q3 hdef hge
 obtain ⟨x2, hx2⟩ : ∃ x2, x1 + 7 = x2 := ⟨_, rfl⟩
 rw [hx2] at q2 q3 hdef
 obtain ⟨x3, hx3⟩ : ∃ x3, x2 / 8 * 8 = x3 := ⟨_, rfl⟩
 rw [hx3] at q3 hdef
 have q4 : (if (8 : Int) < (x3 : Int) then (x3 : Int) else 8) = (n : Int) := by rw [hdef]; split <;> split <;> omega
 have q4' : (if (x3 : Int) < 8 then (8 : Int) else (x3 : Int)) = (n : Int) := by rw [hdef]; split <;> split <;> omega
 have q5 : IntKind.i64.wrap ((n : Int) - 4) = ((n - 4 : Nat) : Int) := by rw [wrap_i64 (by omega) (by omega)]; omega
 obtain ⟨n4, hn4⟩ : ∃ n4, n - 4 = n4 := ⟨_, rfl⟩
 rw [hn4] at q5 hep
 have q6 : IntKind.i64.wrap ((n4 : Int) - (B.length : Int)) = ((n4 - B.length : Nat) : Int) := by rw [wrap_i64 (by omega) (by omega)]; omega
 obtain ⟨m, hm⟩ : ∃ m, n4 - B.length = m := ⟨_, rfl⟩
 rw [hm] at q6 hep
 have hbd1 : (B.length + m) * 1 ≤ 140737488355328 := by omega
 have hbd2 : ((putN (putN [] a.kind 2) (n : Int) 2).length + (B.length + m)) ≤ 140737488355328 := by omega
 have hz := byL_rep m
 have hf : byL B ++ byL (List.replicate m 0#8) = byL (aPad a) := by rw [← byL_app, hep]
 have hk0 : a.enc[0]? = some (.int .i64 a.kind) := rfl
 have hpl2 : (aPad a).length = B.length + m := by rw [hep]; simp
 rw [e]
 clear hep hB hn hx1 hx2 hx3 hn4 hm hdef hpl hl hle hge l1 l2
 refine FnT.intro Tryz.func122 rfl rfl fun G w => ?_
 repeat' (first | apply WK.s | apply WK.k | refine WK.cF rfl ?_ | (refine hQ.h _ _ ?_; clear hQ hA) | (refine WK.rH Tryz.ntmps122 (by kernel_rfl) ?_; intro A hA Q hQ; simp [q1, q2, q3, q4, q4', q5, q6, *]) | (refine RunQ.callO 900 rfl rfl rfl rfl rfl ?_ (hb) ?_ ?_ ?_ ?_; (focus (simp (maxDischargeDepth := 120) [q1, q2, q3, q4, q4', q5, q6, *]; done)); (focus (simp [q1, q2, q3, q4, q4', q5, q6, *]; done)); (focus (simp [q1, q2, q3, q4, q4', q5, q6, *]; done)); (focus (simp [q1, q2, q3, q4, q4', q5, q6, *]; done)); refine RunQ.evalH ?_; simp [q1, q2, q3, q4, q4', q5, q6, *]) | (refine RunQ.callO 901 rfl rfl rfl rfl rfl ?_ (p2) ?_ ?_ ?_ ?_; (focus (simp (maxDischargeDepth := 120) [q1, q2, q3, q4, q4', q5, q6, *]; done)); (focus (simp [q1, q2, q3, q4, q4', q5, q6, *]; done)); (focus (simp [q1, q2, q3, q4, q4', q5, q6, *]; done)); (focus (simp [q1, q2, q3, q4, q4', q5, q6, *]; done)); refine RunQ.evalH ?_; simp [q1, q2, q3, q4, q4', q5, q6, *]) | (refine RunQ.appendZ (m := m) (kk := .i64) (zv := .int .u8 0) 902 appByte rfl rfl rfl rfl (by simp) (by simp) rfl ?_ rfl rfl rfl ?_ ?_ ?_ ?_; (focus (simp (maxDischargeDepth := 120) [q1, q2, q3, q4, q4', q5, q6, *]; done)); (focus (first | omega | (simp [q1, q2, q3, q4, q4', q5, q6, *]; done); done)); (focus (first | omega | (simp [q1, q2, q3, q4, q4', q5, q6, *]; done); done)); (focus (simp [q1, q2, q3, q4, q4', q5, q6, *]; done)); refine RunQ.evalH ?_; simp [q1, q2, q3, q4, q4', q5, q6, *]) | (refine RunQ.appendFz 903 appByte rfl rfl rfl rfl rfl rfl rfl rfl rfl rfl ?_ ?_ ?_ ?_ ?_ ?_; (focus (first | omega | (simp [q1, q2, q3, q4, q4', q5, q6, *]; done); done)); (focus (first | omega | (simp [q1, q2, q3, q4, q4', q5, q6, *]; done); done)); (focus (first | omega | (simp [q1, q2, q3, q4, q4', q5, q6, *]; done); done)); (focus (simp [q1, q2, q3, q4, q4', q5, q6, *]; done)); (focus (simp [q1, q2, q3, q4, q4', q5, q6, *]; done)); refine RunQ.evalH ?_; simp [q1, q2, q3, q4, q4', q5, q6, *]) | (refine RunQ.k rfl rfl rfl rfl rfl ?_ (hr) ?_ ?_ <;> simp (maxDischargeDepth := 120) [q1, q2, q3, q4, q4', q5, q6, *] <;> refine ⟨?_⟩) | (refine RunQ.k rfl rfl rfl rfl rfl ?_ (p1) ?_ ?_ <;> simp (maxDischargeDepth := 120) [q1, q2, q3, q4, q4', q5, q6, *] <;> refine ⟨?_⟩) | (refine WK.retT2 Tryz.func122 ?_ ?_ ?_ <;> simp (maxDischargeDepth := 120) [Tryz.results122, q1, q2, q3, q4, q4', q5, q6, byL_app, *]))

theorem putN_ok {b : List (BitVec 8)} {n : Int} {s : Nat} (h : numOk n s = true) : (putN b n s).length = b.length + s := by
 unfold putN; rw [h, if_pos rfl, List.length_append, beN_len]
theorem right_cases {a : Action} (h : Action.right a = true) : (a.kind = 0 ∧ numOk a.port 4 = true ∧ numOk a.max 2 = true) ∨ (a.kind = 22 ∧ numOk a.group 4 = true) ∨ (a.kind = 17 ∧ numOk a.ether 2 = true) ∨
   a.kind = 18 ∨ (a.kind = 25 ∧ Oxm.right a.oxm = true) := by
 unfold Action.right Action.fine at h
 rw [Bool.and_eq_true] at h
 obtain ⟨h, _⟩ := h
 unfold aGoes aMost at h
 unfold numOk
 split at h
 · rename_i k; left
   simp only [Bool.and_eq_true, Bool.or_eq_true, decide_eq_true_eq, beq_iff_eq] at h ⊢
   refine ⟨k, ?_, ?_⟩ <;> omega
 split at h
 · rename_i k; right; left
   simp only [Bool.and_eq_true, Bool.or_eq_true, decide_eq_true_eq, beq_iff_eq] at h ⊢
   refine ⟨k, ?_⟩; omega
 split at h
 · rename_i k; right; right; left
   simp only [Bool.and_eq_true, Bool.or_eq_true, decide_eq_true_eq, beq_iff_eq] at h ⊢
   refine ⟨k, ?_⟩; omega
 split at h
 · rename_i k; exact .inr (.inr (.inr (.inl k)))
 split at h
 · rename_i k; right; right; right; right
   simp only [Bool.and_eq_true] at h
   exact ⟨k, h.1⟩
 · cases h
theorem oEnc_ge {o : Oxm} (h : Oxm.right o = true) : 5 ≤ (oEnc o).1.length := by
 have hf := right_field h
 have hs : 1 ≤ fSize o.field := by
   unfold fRight at hf
   rw [Bool.and_eq_true, decide_eq_true_eq, decide_eq_true_eq] at hf
   unfold fSize fBits fRow
   rw [if_pos ⟨hf.1, hf.2⟩]
   have hl : o.field.toNat < fRows.length := by show o.field.toNat < 24; omega
   have : ∀ r, r ∈ fRows → 2 ≤ r.2.1 := by decide
   have := this _ (nth_mem hl)
   omega
 have hid : 0 ≤ oNum o ∧ oNum o < 256 := by
   have hp : 0 ≤ fID o.field ∧ fID o.field ≤ 34 := by
     unfold fRight at hf
     rw [Bool.and_eq_true, decide_eq_true_eq, decide_eq_true_eq] at hf
     unfold fID fRow
     rw [if_pos ⟨hf.1, hf.2⟩]
     have hl : o.field.toNat < fRows.length := by show o.field.toNat < 24; omega
     have : ∀ r, r ∈ fRows → 0 ≤ r.1 ∧ r.1 ≤ 34 := by decide
     exact this _ (nth_mem hl)
   unfold oNum; split <;> omega
 have hbl := oBody_len o
 have h16 := fSize_le o.field
 have hb : (oBody o).length ≤ 32 ∧ 1 ≤ (oBody o).length := by rw [hbl]; split <;> omega
 have a1 : (putN [] 32768 2).length = 2 := putN_ok (b := []) (n := 32768) (s := 2) rfl
 have a2 : (putN (putN [] 32768 2) (oNum o) 1).length = 3 := by rw [putN_ok (by unfold numOk; simp; omega), a1]
 have a3 : (oHead o).length = 4 := by unfold oHead; rw [putN_ok (by unfold numOk; simp; omega), a2]
 unfold oEnc; rw [if_pos h]; simp only [List.length_append]; omega

theorem Sz4 : Sz 4 := .inr (.inr rfl)
theorem Sz2 : Sz 2 := .inr (.inl rfl)

def allZ (b : List (BitVec 8)) : Bool := b.all fun x => x == 0#8

def aBad (c : Int) : Action × Int × Option Int := (act0, 0, some c)
def aLength (k : Int) : Nat × Nat := if k = 0 then (16, 10) else if k = 22 then (8, 8) else if k = 17 then (8, 6) else if k = 18 then (8, 4) else (0, 0)
def aOf (k : Int) (b : List (BitVec 8)) : Action := if k = 0 then ⟨0, (getN b 4 4).1, (getN b 8 2).1, 0, 0, x0_⟩ else if k = 22 then ⟨22, 0, 0, (getN b 4 4).1, 0, x0_⟩ else if k = 17 then ⟨17, 0, 0, 0, (getN b 4 2).1, x0_⟩ else ⟨k, 0, 0, 0, 0, x0_⟩
def aPlain (k : Int) (b : List (BitVec 8)) : Action × Int × Option Int :=
 if k = 0 ∧ aGoes (getN b 4 4).1 = false then aBad 4 else if Action.right (aOf k b) = true then (aOf k b, b.length, none) else aBad (if k = 22 then 9 else 5)

def oLen (b : List (BitVec 8)) : Nat := (oDec b).2.1.toNat
def aSetD (b : List (BitVec 8)) : Action × Int × Option Int :=
 if (oDec (b.drop 4)).2.2 = 1 then aBad 14 else if (oDec (b.drop 4)).2.2 = 6 then aBad 13 else if (oDec (b.drop 4)).2.2 = 0 then
   (if b.length = (4 + oLen (b.drop 4) + 7) / 8 * 8 then (if allZ (b.drop (4 + oLen (b.drop 4))) = true then (if aSets (oDec (b.drop 4)).1.field = true then
     (if (oDec (b.drop 4)).1.masked = true then aBad 15 else (⟨25, 0, 0, 0, 0, (oDec (b.drop 4)).1⟩, (b.length : Int), none)) else aBad 13) else aBad 5) else aBad 1) else aBad 15

def aN (b : List (BitVec 8)) : Nat := valN ((b.drop 2).take 2)
def aK (b : List (BitVec 8)) : Nat := valN ((b.drop 0).take 2)
theorem aN_lt (b : List (BitVec 8)) (h : 8 ≤ b.length) : aN b < 65536 := by
 have := valN_lt 2 ((b.drop 2).take 2) (by simp; omega)
 exact this
theorem aN_get (b : List (BitVec 8)) (h : 8 ≤ b.length) : getN b 2 2 = ((aN b : Int), 0) := by unfold getN aN; rw [if_pos (by omega)]
theorem aK_get (b : List (BitVec 8)) (h : 8 ≤ b.length) : getN b 0 2 = ((aK b : Int), 0) := by unfold getN aK; rw [if_pos (by omega)]
def aDec (b : List (BitVec 8)) : Action × Int × Option Int :=
 if b.length < 8 then aBad 1 else if aN b < 8 ∨ ¬ aN b % 8 = 0 ∨ b.length < aN b then aBad 1 else
 if aK b = 25 then aSetD (b.take (aN b)) else if (aLength (aK b)).1 = 0 then aBad 0 else if ¬ aN b = (aLength (aK b)).1 then aBad 1 else
 if allZ ((b.take (aN b)).drop (aLength (aK b)).2) = true then aPlain (aK b) (b.take (aN b)) else aBad 5

theorem aencP_c (a : Action) : FnP Tryz.prog 122 [.agg a.enc] (.tup [byS (aEnc a).1, .int .i64 (aEnc a).2]) := by
 have h := (aenc_c a).toP (by simp [byL_take]) (by rfl)
 rwa [Nat.mul_one, by_full _ _ rfl] at h
theorem aEnc_len (a : Action) : (aEnc a).1.length ≤ 60 := by
 unfold aEnc
 split
 · have h1 := aPad_len a
   have h2 := aLen_le _ (aBody_len a)
   have l1 := putN_len [] a.kind 2
   have l2 := putN_len (putN [] a.kind 2) (aLen (aBody a).length : Nat) 2
   simp only [List.length_append, List.length_nil] at l1 ⊢
   omega
 · simp
def A12 : Action := ⟨0, 4294967293, 128, 0, 0, x0_⟩
end Go.Proofs.YtmhapglejjehbaaGreat

namespace Go.Proofs.YtmhapglejjehbaaGreat
open Go Go.AI Go.Proofs
theorem beN_snoc (n : Int) (x : BitVec 8) (s : Nat) : beN (n * 256 + x.toNat) (s + 1) = beN n s ++ [x] := by
 have hx := x.isLt
 unfold beN
 rw [List.range_succ, List.map_append]
 congr 1
 · refine List.map_congr_left fun i hi => ?_
   rw [List.mem_range] at hi
   congr 1
   have e : (2 : Int) ^ (8 * (s + 1 - 1 - i)) = 256 * 2 ^ (8 * (s - 1 - i)) := by
     rw [show 8 * (s + 1 - 1 - i) = 8 + 8 * (s - 1 - i) by omega, Int.pow_add]; rfl
   rw [e, ← Int.ediv_ediv_of_nonneg (by decide)]
   congr 1; omega
 · simp only [List.map_cons, List.map_nil, Nat.add_sub_cancel, Nat.sub_self, Nat.mul_zero, Int.pow_zero, Int.ediv_one]
   congr 1
   apply BitVec.eq_of_toNat_eq
   rw [BitVec.toNat_ofInt]; omega
theorem beN_valN : ∀ (s : Nat) (l : List (BitVec 8)), l.length = s → beN (valN l) s = l
 | 0, l, h => by rw [List.eq_nil_of_length_eq_zero h]; rfl
 | s + 1, l, h => by
   have hne : l ≠ [] := by intro e; subst e; simp at h
   have h1 : valN l = valN l.dropLast * 256 + (l.getLast hne).toNat := by
     rw [← valN_snoc, List.dropLast_concat_getLast hne]
   rw [h1]
   have := beN_snoc (valN l.dropLast) (l.getLast hne) s
   rw [show ((valN l.dropLast * 256 + (l.getLast hne).toNat : Nat) : Int) = (valN l.dropLast : Int) * 256 + ((l.getLast hne).toNat : Int) by omega, this,
     beN_valN s l.dropLast (by rw [List.length_dropLast]; omega), List.dropLast_concat_getLast hne]
theorem valN_beN : ∀ (s : Nat) (n : Int), 0 ≤ n → n < 256 ^ s → (valN (beN n s) : Int) = n
 | 0, n, h0, h => by
   rw [Int.pow_zero] at h
   have : n = 0 := by omega
   subst this; rfl
 | s + 1, n, h0, h => by
   obtain ⟨x, hx⟩ : ∃ x : BitVec 8, (x.toNat : Int) = n % 256 := ⟨BitVec.ofInt 8 n, by rw [BitVec.toNat_ofInt]; omega⟩
   have hn : n = n / 256 * 256 + x.toNat := by omega
   rw [Int.pow_succ] at h
   have h2 : n / 256 < 256 ^ s := by
     apply Int.ediv_lt_of_lt_mul (by decide); exact h
   have := valN_beN s (n / 256) (by omega) h2
   rw [hn, beN_snoc, valN_snoc]; omega
theorem numOk_iff (n : Int) (s : Nat) : numOk n s = true ↔ 0 ≤ n ∧ n < 256 ^ s := by unfold numOk; simp
theorem numOk_valN {l : List (BitVec 8)} {s : Nat} (h : l.length = s) : numOk (valN l) s = true := by
 rw [numOk_iff]
 have := valN_lt s l h
 refine ⟨by omega, ?_⟩
 have h2 : ((256 ^ s : Nat) : Int) = (256 : Int) ^ s := by rw [Int.natCast_pow]; rfl
 omega
theorem putN_valN {b l : List (BitVec 8)} {s : Nat} (h : l.length = s) : putN b (valN l) s = b ++ l := by
 unfold putN; rw [numOk_valN h, if_pos rfl, beN_valN s l h]
theorem beN_at {n : Int} {s i : Nat} (h : i < (beN n s).length) : (beN n s)[i] = BitVec.ofInt 8 (n / 2 ^ (8 * (s - 1 - i))) := by simp [beN]
theorem beN_drop (n : Int) (s t : Nat) (h : s ≤ t) : (beN n t).drop (t - s) = beN n s := by
 refine List.ext_getElem (by simp [beN_len]; omega) fun i h1 h2 => ?_
 rw [beN_len] at h2
 rw [List.getElem_drop, beN_at, beN_at, show t - 1 - (t - s + i) = s - 1 - i by omega]
def wN (a : Wide) : Nat := a.hi.toNat * 18446744073709551616 + a.lo.toNat
theorem wN_inj {a b : Wide} (h : wN a = wN b) : a = b := by
 obtain ⟨ah, al⟩ := a
 obtain ⟨bh, bl⟩ := b
 have h1 := ah.isLt; have h2 := al.isLt; have h3 := bh.isLt; have h4 := bl.isLt
 unfold wN at h
 simp only at h
 have e1 : ah = bh := BitVec.eq_of_toNat_eq (by omega)
 have e2 : al = bl := BitVec.eq_of_toNat_eq (by omega)
 rw [e1, e2]
theorem hb_toNat (x : BitVec 64) (k : Nat) : (hb x k).toNat = x.toNat / 2 ^ k % 256 := by
 unfold hb; rw [BitVec.toNat_setWidth, BitVec.toNat_ushiftRight, Nat.shiftRight_eq_div_pow]
theorem wBytes_beN (a : Wide) : wBytes a = beN (wN a) 16 := by
 have h1 := a.hi.isLt; have h2 := a.lo.isLt
 unfold wBytes beN
 refine List.map_congr_left fun j hj => ?_
 rw [List.mem_range] at hj
 apply BitVec.eq_of_toNat_eq
 rw [BitVec.toNat_ofInt]
 have h16 : j = 0 ∨ j = 1 ∨ j = 2 ∨ j = 3 ∨ j = 4 ∨ j = 5 ∨ j = 6 ∨ j = 7 ∨ j = 8 ∨ j = 9 ∨ j = 10 ∨ j = 11 ∨ j = 12 ∨ j = 13 ∨ j = 14 ∨ j = 15 := by omega
 unfold wN
 rcases h16 with rfl | rfl | rfl | rfl | rfl | rfl | rfl | rfl | rfl | rfl | rfl | rfl | rfl | rfl | rfl | rfl <;>
 · simp only [Nat.reduceLT, if_true, if_false, Nat.reduceMul, Nat.reduceSub, hb_toNat, Nat.reducePow, Int.reducePow]
   omega
theorem wStep_wN {a : Wide} (x : BitVec 8) (h : wN a < 1329227995784915872903807060280344576) : wN (wStep a x) = wN a * 256 + x.toNat := by
 obtain ⟨ah, al⟩ := a
 have h1 := ah.isLt; have h2 := al.isLt; have h3 := x.isLt
 unfold wN at h
 simp only at h
 unfold wStep wN
 simp only [BitVec.toNat_or, BitVec.toNat_shiftLeft, BitVec.toNat_ushiftRight, BitVec.toNat_setWidth]
 have e1 : x.toNat % 2 ^ 64 = x.toNat := by omega
 have e2 : ah.toNat <<< 8 % 2 ^ 64 = (ah.toNat) <<< 8 := by rw [Nat.shiftLeft_eq]; omega
 have e3 : al.toNat <<< 8 % 2 ^ 64 = (al.toNat % 72057594037927936) <<< 8 := by rw [Nat.shiftLeft_eq, Nat.shiftLeft_eq]; omega
 rw [e1, e2, e3, ← Nat.shiftLeft_add_eq_or_of_lt (i := 8) (b := al.toNat >>> 56) (by rw [Nat.shiftRight_eq_div_pow]; omega), ← Nat.shiftLeft_add_eq_or_of_lt (i := 8) (b := x.toNat) h3,
   Nat.shiftLeft_eq, Nat.shiftLeft_eq, Nat.shiftRight_eq_div_pow]
 omega
set_option maxRecDepth 100000 in
theorem wVal_wN : ∀ (s : Nat) (l : List (BitVec 8)), l.length = s → s ≤ 16 → wN (wVal l) = valN l
 | 0, l, h, _ => by rw [List.eq_nil_of_length_eq_zero h]; rfl
 | s + 1, l, h, hs => by
   have hne : l ≠ [] := by intro e; subst e; simp at h
   have hd : l.dropLast.length = s := by rw [List.length_dropLast]; omega
   have ih := wVal_wN s l.dropLast hd (by omega)
   have hlt := valN_lt s l.dropLast hd
   have h15 : 256 ^ s ≤ 1329227995784915872903807060280344576 := by
     have e15 : 256 ^ 15 = 1329227995784915872903807060280344576 := by rfl
     rw [← e15]; exact Nat.pow_le_pow_right (by decide) (by omega)
   have hlt2 : wN (wVal l.dropLast) < 1329227995784915872903807060280344576 := by rw [ih]; exact Nat.lt_of_lt_of_le hlt h15
   rw [← List.dropLast_concat_getLast hne, wVal_snoc, valN_snoc, wStep_wN _ hlt2, ih]
theorem wPut_beN (b : List (BitVec 8)) (a : Wide) (s : Nat) (h : s ≤ 16) : wPut b a s = b ++ beN (wN a) s := by
 unfold wPut; rw [wBytes_beN, beN_drop _ s 16 h]
theorem wGet_beN (a : Wide) (s : Nat) (r : List (BitVec 8)) (h : s ≤ 16) (ha : (wN a : Int) < 256 ^ s) : wGet (beN (wN a) s ++ r) s = (a, true) := by
 unfold wGet
 rw [if_pos (by rw [List.length_append, beN_len]; omega), List.take_append_of_le_length (by rw [beN_len]; omega), List.take_of_length_le (by rw [beN_len]; omega)]
 congr 1
 apply wN_inj
 rw [wVal_wN s _ (beN_len _ _) h]
 have := valN_beN s (wN a) (by omega) ha
 omega
theorem wPut_wGet (b p : List (BitVec 8)) (s : Nat) (h : s ≤ 16) (hb : s ≤ b.length) : wPut p (wGet b s).1 s = p ++ b.take s := by
 have hl : (b.take s).length = s := by rw [List.length_take]; omega
 rw [wPut_beN _ _ _ h]
 unfold wGet
 rw [if_pos hb]
 simp only
 rw [wVal_wN s _ hl h, beN_valN s _ hl]
theorem and_le {n : Nat} {x m : BitVec n} (h : x &&& ~~~m = 0#n) : x.toNat ≤ m.toNat := by
 rw [b_less] at h
 have e : x &&& m = x := by
   apply BitVec.eq_of_getLsbD_eq; intro i hi
   rw [BitVec.getLsbD_and]
   cases hx : x.getLsbD i
   · rfl
   · rw [h i hx]; rfl
 rw [← e, BitVec.toNat_and]; exact Nat.and_le_right
theorem lowW_wN_all : ((List.range 129).all fun n => decide (wN (lowW (n : Int)) + 1 = 2 ^ n)) = true := by kernel_rfl
theorem low_lt {w : Wide} {n : Nat} (hn : n ≤ 128) (h : (w.less (lowW (n : Int))).zero = true) : wN w < 2 ^ n := by
 have h1 := List.all_eq_true.1 lowW_wN_all n (by simp; omega)
 rw [decide_eq_true_eq] at h1
 rw [Wide.zero_iff] at h
 have a1 := and_le h.1
 have a2 := and_le h.2
 unfold wN at h1 ⊢
 have : w.hi.toNat * 18446744073709551616 ≤ (lowW (n : Int)).hi.toNat * 18446744073709551616 := Nat.mul_le_mul_right _ a1
 omega
theorem bits_size (f : Int) : 2 ^ (fBits f).toNat ≤ 256 ^ (fSize f) := by
 rw [show (256 : Nat) = 2 ^ 8 from rfl, ← Nat.pow_mul]
 refine Nat.pow_le_pow_right (by decide) ?_
 unfold fSize; omega
theorem within_size {o : Oxm} {w : Wide} (h : Oxm.beyond o w = false) : (wN w : Int) < 256 ^ (fSize o.field) := by
 unfold Oxm.beyond at h
 rw [Bool.not_eq_false'] at h
 have hr := (fRow_ok o.field).2
 have hb : fBits o.field = ((fBits o.field).toNat : Int) := by unfold fBits; omega
 rw [hb] at h
 have h1 := low_lt (by unfold fBits; omega) h
 have h2 := bits_size o.field
 have h3 : ((256 ^ fSize o.field : Nat) : Int) = (256 : Int) ^ fSize o.field := by rw [Int.natCast_pow]; rfl
 omega

theorem fIndex_all : ((List.range 24).all fun f => decide (fIndex (fID (f : Int)) = ((f : Int), true))) = true := by kernel_rfl
theorem fIndex_ID {f : Int} (h : fRight f = true) : fIndex (fID f) = (f, true) := by
 unfold fRight at h
 rw [Bool.and_eq_true, decide_eq_true_eq, decide_eq_true_eq] at h
 obtain ⟨n, rfl⟩ : ∃ n : Nat, f = n := ⟨f.toNat, by omega⟩
 have := List.all_eq_true.1 fIndex_all n (by simp; omega)
 simpa using this
theorem fIndex_back {id : Int} (h : (fIndex id).2 = true) : fID (fIndex id).1 = id ∧ fRight (fIndex id).1 = true := by
 unfold fIndex at h ⊢
 cases hf : fIndexN id 24 with
 | none => rw [hf] at h; cases h
 | some f =>
   unfold fIndexN at hf
   have h1 := List.find?_some hf
   have h2 := List.mem_of_find?_eq_some hf
   rw [List.mem_range] at h2
   simp only [beq_iff_eq] at h1
   refine ⟨?_, ?_⟩
   · show fID (f : Int) = id
     unfold fID; rw [fRow_nat f h2]; exact h1
   · unfold fRight; simp; omega
theorem putN_one {b : List (BitVec 8)} {n : Int} (h0 : 0 ≤ n) (h : n < 256) : putN b n 1 = b ++ [BitVec.ofInt 8 n] := by
 unfold putN
 rw [if_pos (by rw [numOk_iff]; omega)]
 congr 1
 show [BitVec.ofInt 8 (n / 2 ^ (8 * (1 - 1 - 0)))] = _
 rw [show 8 * (1 - 1 - 0) = 0 from rfl, Int.pow_zero, Int.ediv_one]
theorem fID_range {f : Int} (h : fRight f = true) : 0 ≤ fID f ∧ fID f ≤ 34 := by
 unfold fRight at h
 rw [Bool.and_eq_true, decide_eq_true_eq, decide_eq_true_eq] at h
 unfold fID fRow
 rw [if_pos ⟨h.1, h.2⟩]
 have hl : f.toNat < fRows.length := by show f.toNat < 24; omega
 have : ∀ r, r ∈ fRows → 0 ≤ r.1 ∧ r.1 ≤ 34 := by decide
 exact this _ (nth_mem hl)
theorem oHead_eq {o : Oxm} (h : fRight o.field = true) : oHead o = [128#8, 0#8, BitVec.ofInt 8 (oNum o), BitVec.ofInt 8 (oBody o).length] := by
 have hr := fID_range h
 have hn : 0 ≤ oNum o ∧ oNum o < 256 := by unfold oNum; split <;> omega
 have hb := oBody_len o
 have hs := fSize_le o.field
 have hb2 : (oBody o).length ≤ 32 := by rw [hb]; split <;> omega
 unfold oHead
 rw [putN_one (n := ((oBody o).length : Int)) (by omega) (by omega), putN_one hn.1 hn.2]
 rfl
theorem toNat_ofInt8 {n : Int} (h0 : 0 ≤ n) (h : n < 256) : (BitVec.ofInt 8 n).toNat = n.toNat := by
 rw [BitVec.toNat_ofInt]; omega
theorem ofInt8_nat (x : BitVec 8) : BitVec.ofInt 8 (x.toNat : Int) = x := by
 apply BitVec.eq_of_toNat_eq; have := x.isLt; rw [toNat_ofInt8 (by omega) (by omega)]; omega
theorem zero_wide {w : Wide} (h : w.zero = true) : w = wZ_ := by
 rw [Wide.zero_iff] at h
 obtain ⟨a, b⟩ := w
 simp only at h
 rw [h.1, h.2]; rfl
structure ORight (o : Oxm) : Prop where
 field : fRight o.field = true
 masks : o.masked = true → fMasks o.field = true
 mask0 : o.masked = false → o.mask = wZ_
 form : Oxm.form o = 0
 value : Oxm.beyond o o.value = false
 mask : o.masked = true → Oxm.beyond o o.mask = false
theorem oRight_facts {o : Oxm} (h : Oxm.right o = true) : ORight o := by
 unfold Oxm.right at h
 rw [Bool.and_eq_true, Bool.not_eq_true', Bool.or_eq_false_iff, Bool.or_eq_false_iff, Bool.not_eq_false', beq_iff_eq] at h
 obtain ⟨⟨h1, h2, h3⟩, h4⟩ := h
 have hv : Oxm.beyond o o.value = false := by
   cases hb : Oxm.beyond o o.value
   · rfl
   · unfold Oxm.form at h4; rw [hb, if_pos rfl] at h4; cases h4
 refine ⟨h1, fun hm => ?_, fun hm => ?_, h4, hv, fun hm => ?_⟩
 · rw [hm] at h2; simpa using h2
 · rw [hm] at h3; exact zero_wide (by simpa using h3)
 · unfold Oxm.form at h4
   rw [hv, hm] at h4
   cases hb : Oxm.beyond o o.mask
   · rfl
   · rw [hb] at h4; simp at h4
theorem oRight_of {o : Oxm} (h1 : fRight o.field = true) (h2 : o.masked = true → fMasks o.field = true) (h3 : o.masked = false → o.mask = wZ_) (h4 : Oxm.form o = 0) : Oxm.right o = true := by
 unfold Oxm.right
 rw [h1, h4]
 cases hm : o.masked
 · rw [h3 hm]; rfl
 · rw [h2 hm]; rfl
theorem oNum_div (o : Oxm) (h : fRight o.field = true) : (oNum o).toNat / 2 = (fID o.field).toNat ∧ ((oNum o).toNat % 2 == 1) = o.masked ∧ 0 ≤ oNum o ∧ oNum o < 256 := by
 have hr := fID_range h
 unfold oNum
 cases o.masked
 · refine ⟨?_, ?_, ?_, ?_⟩
   · simp only [Bool.false_eq_true, if_false]; omega
   · simp only [Bool.false_eq_true, if_false]; rw [beq_eq_false_iff_ne]; omega
   · simp only [Bool.false_eq_true, if_false]; omega
   · simp only [Bool.false_eq_true, if_false]; omega
 · refine ⟨?_, ?_, ?_, ?_⟩
   · simp only [if_true]; omega
   · simp only [if_true]; rw [beq_iff_eq]; omega
   · simp only [if_true]; omega
   · simp only [if_true]; omega
theorem oEnc_back {o : Oxm} (h : Oxm.right o = true) (r : List (BitVec 8)) : oDec ((oEnc o).1 ++ r) = (o, ((oEnc o).1.length : Int), 0) := by
 have hf := oRight_facts h
 have hs := fSize_le o.field
 have hbl := oBody_len o
 have hb2 : (oBody o).length ≤ 32 := by rw [hbl]; split <;> omega
 have hh := oHead_eq hf.field
 obtain ⟨n1, n2, n3, n4⟩ := oNum_div o hf.field
 have hid := fID_range hf.field
 have e : (oEnc o).1 ++ r = 128#8 :: 0#8 :: BitVec.ofInt 8 (oNum o) :: BitVec.ofInt 8 (oBody o).length :: (oBody o ++ r) := by
   unfold oEnc; rw [if_pos h, hh]; simp
 have hel : (oEnc o).1.length = 4 + (oBody o).length := by unfold oEnc; rw [if_pos h, hh]; simp; omega
 obtain ⟨B, hB⟩ : ∃ B, (oEnc o).1 ++ r = B := ⟨_, rfl⟩
 have hBl : B.length = 4 + (oBody o).length + r.length := by rw [← hB, List.length_append, hel]
 rw [hB] at e ⊢
 rw [hel]
 have b0 : bAt B 0 = 128 := by rw [e]; rfl
 have b1 : bAt B 1 = 0 := by rw [e]; rfl
 have b2 : bAt B 2 = (oNum o).toNat := by
   rw [e]; show (BitVec.ofInt 8 (oNum o)).toNat = _; exact toNat_ofInt8 n3 n4
 have b3 : bAt B 3 = (oBody o).length := by
   rw [e]; show (BitVec.ofInt 8 ((oBody o).length : Int)).toNat = _; rw [toNat_ofInt8 (by omega) (by omega)]; omega
 have d4 : B.drop 4 = oBody o ++ r := by rw [e]; rfl
 clear e hB
 have hF : hField B = (o.field, true) := by
   unfold hField; rw [b2, n1, show (((fID o.field).toNat : Nat) : Int) = fID o.field by omega]; exact fIndex_ID hf.field
 have hM : hMasked B = o.masked := by unfold hMasked; rw [b2]; exact n2
 have hW : hWant B = (oBody o).length := by
   unfold hWant; rw [hM, hF, hbl]; split
   · simp only; omega
   · rfl
 have hC : hCode B = 0 := by
   unfold hCode
   rw [if_neg (by omega), if_neg (by omega), b0, b1, hF, hM, b3, hW]
   have hm : (o.masked && !fMasks o.field) = false := by
     cases hm : o.masked
     · rfl
     · rw [hf.masks hm]; rfl
   simp [hm]
 have hR : oRead B = o := by
   have hv := within_size hf.value
   unfold oRead
   rw [hF, hM, d4]
   simp only
   have hdd : B.drop (4 + fSize o.field) = (oBody o ++ r).drop (fSize o.field) := by rw [← d4, List.drop_drop]
   rw [hdd]
   cases hm : o.masked
   · have hz := hf.mask0 hm
     have hob : oBody o = beN (wN o.value) (fSize o.field) := by unfold oBody; rw [hm]; exact (wPut_beN _ _ _ hs).trans (List.nil_append _)
     rw [hob, wGet_beN _ _ _ hs hv]
     obtain ⟨a1, a2, a3, a4⟩ := o
     simp only at hm hz ⊢
     rw [hm, hz]; rfl
   · have hmk := within_size (hf.mask hm)
     have hob : oBody o = beN (wN o.value) (fSize o.field) ++ beN (wN o.mask) (fSize o.field) := by
       unfold oBody; rw [hm, if_pos rfl, wPut_beN _ _ _ hs, wPut_beN _ _ _ hs, List.nil_append]
     rw [hob, List.append_assoc, wGet_beN _ _ _ hs hv, if_pos rfl, List.drop_append_of_le_length (by rw [beN_len]; omega), List.drop_of_length_le (by rw [beN_len]; omega), List.nil_append, wGet_beN _ _ _ hs hmk]
     obtain ⟨a1, a2, a3, a4⟩ := o
     simp only at hm ⊢
     rw [hm]
 unfold oDec
 rw [if_pos hC, hR, if_pos hf.form, b3]
 congr 1
theorem oDec_back {b : List (BitVec 8)} {o : Oxm} {n : Int} (h : oDec b = (o, n, 0)) : Oxm.right o = true ∧ ∃ k : Nat, n = (k : Int) ∧ 4 ≤ k ∧ k ≤ b.length ∧ oEnc o = (b.take k, 0) := by
 unfold oDec at h
 split at h
 case isFalse hc => simp only [Prod.mk.injEq] at h; exact absurd h.2.2 hc
 rename_i hc
 split at h
 case isFalse hfm => simp only [Prod.mk.injEq] at h; exact absurd h.2.2 hfm
 rename_i hfm
 simp only [Prod.mk.injEq, and_true] at h
 obtain ⟨rfl, rfl⟩ := h
 have l2 := bAt_lt b 2
 have l3 := bAt_lt b 3
 unfold hCode at hc
 split at hc
 · cases hc
 rename_i c1
 split at hc
 · cases hc
 rename_i c2
 split at hc
 · cases hc
 rename_i c3
 split at hc
 · cases hc
 rename_i c4
 split at hc
 · cases hc
 rename_i c5
 simp only [Bool.or_eq_true, bne_iff_ne, ne_eq, Bool.not_eq_true', not_or, Decidable.not_not, Bool.not_eq_false, Bool.and_eq_true, not_and] at c3 c4 c5
 obtain ⟨b0, b1, hF2⟩ := c3
 have hfb := fIndex_back (id := ((bAt b 2 / 2 : Nat) : Int)) hF2
 have hff : (oRead b).field = (hField b).1 := rfl
 have hfm2 : (oRead b).masked = hMasked b := rfl
 have hr : Oxm.right (oRead b) = true := oRight_of hfb.2 (fun hm => c4 hm) (fun hm => by
   have hm' : hMasked b = false := hm
   unfold oRead; simp only [hm']; rfl) hfm
 refine ⟨hr, 4 + bAt b 3, by omega, by omega, by omega, ?_⟩
 have hs := fSize_le (hField b).1
 have hbl := oBody_len (oRead b)
 have hlen : (oBody (oRead b)).length = bAt b 3 := by
   rw [hbl, hff, hfm2, c5]; unfold hWant; split
   · omega
   · rfl
 have hnum : oNum (oRead b) = (bAt b 2 : Int) := by
   have e1 : fID (hField b).1 = ((bAt b 2 / 2 : Nat) : Int) := hfb.1
   unfold oNum; rw [hff, hfm2, e1]
   unfold hMasked
   split
   · rename_i hm; rw [beq_iff_eq] at hm; omega
   · rename_i hm; rw [beq_iff_eq] at hm; omega
 have hbody : oBody (oRead b) = (b.drop 4).take (bAt b 3) := by
   have hdl : (b.drop 4).length = b.length - 4 := List.length_drop
   unfold oBody
   rw [hff, hfm2]
   cases hm : hMasked b
   · have hw : bAt b 3 = fSize (hField b).1 := by rw [c5]; unfold hWant; rw [hm]; rfl
     show wPut [] (wGet (b.drop 4) (fSize (hField b).1)).1 (fSize (hField b).1) = _
     rw [wPut_wGet _ _ _ hs (by rw [hdl]; omega), List.nil_append, hw]
   · have hw : bAt b 3 = fSize (hField b).1 * 2 := by rw [c5]; unfold hWant; rw [hm]; rfl
     have ev : (oRead b).value = (wGet (b.drop 4) (fSize (hField b).1)).1 := rfl
     have em : (oRead b).mask = (wGet (b.drop (4 + fSize (hField b).1)) (fSize (hField b).1)).1 := by unfold oRead; rw [hm]; rfl
     rw [if_pos rfl, ev, em, wPut_wGet _ _ _ hs (by rw [List.length_drop]; omega), wPut_wGet _ _ _ hs (by rw [List.length_drop]; omega), List.nil_append, hw, ← List.drop_drop,
       show fSize (hField b).1 * 2 = fSize (hField b).1 + fSize (hField b).1 by omega, List.take_add]
 have hb4 : b.take 4 = [128#8, 0#8, nth b 2, nth b 3] := by
   match b, c1, b0, b1 with
   | x0 :: x1 :: x2 :: x3 :: r, _, b0, b1 =>
     have e0 : x0 = 128#8 := BitVec.eq_of_toNat_eq b0
     have e1 : x1 = 0#8 := BitVec.eq_of_toNat_eq b1
     rw [e0, e1]; rfl
   | [], c1, _, _ => simp at c1
   | [_], c1, _, _ => simp at c1
   | [_, _], c1, _, _ => simp at c1
   | [_, _, _], c1, _, _ => simp at c1
 unfold oEnc
 rw [if_pos hr, oHead_eq hfb.2, hnum, hlen, hbody, List.take_add, hb4]
 have e2 : BitVec.ofInt 8 (bAt b 2 : Int) = nth b 2 := ofInt8_nat _
 have e3 : BitVec.ofInt 8 (bAt b 3 : Int) = nth b 3 := ofInt8_nat _
 rw [e2, e3]

theorem allZ_iff (l : List (BitVec 8)) : allZ l = true ↔ l = List.replicate l.length 0#8 := by
 unfold allZ
 rw [List.all_eq_true, List.eq_replicate_iff]
 simp
theorem allZ_rep (n : Nat) : allZ (List.replicate n 0#8) = true := by rw [allZ_iff]; simp
theorem putN_beN {b : List (BitVec 8)} {n : Int} {s : Nat} (h : numOk n s = true) : putN b n s = b ++ beN n s := by unfold putN; rw [h, if_pos rfl]
theorem getN_at {E x z : List (BitVec 8)} {v : Int} {p s : Nat} (h : E = x ++ (beN v s ++ z)) (hx : x.length = p) (hv : numOk v s = true) : getN E p s = (v, 0) := by
 rw [numOk_iff] at hv
 unfold getN
 rw [h, if_pos (by simp [beN_len, hx]), List.drop_append_of_le_length (by omega), List.drop_of_length_le (by omega), List.nil_append, List.take_append_of_le_length (by rw [beN_len]; omega),
   List.take_of_length_le (by rw [beN_len]; omega), valN_beN s v hv.1 hv.2]
theorem getN_val {b : List (BitVec 8)} {p s : Nat} (h : p + s ≤ b.length) : getN b p s = ((valN ((b.drop p).take s) : Int), 0) := by unfold getN; rw [if_pos h]
theorem aLen_mod (n : Nat) : aLen n % 8 = 0 := by unfold aLen; split <;> omega
theorem numOk2 {n : Nat} (h : n < 65536) : numOk (n : Int) 2 = true := by rw [numOk_iff]; exact ⟨by omega, by show (n : Int) < 65536; omega⟩
theorem aHead {k n : Nat} {p r : List (BitVec 8)} (hk : k < 65536) (hn : n < 65536) (hp : 4 + p.length = n) (h8 : 8 ≤ n) :
   putN (putN [] (k : Int) 2) (n : Int) 2 = beN k 2 ++ beN n 2 ∧ aK (putN (putN [] (k : Int) 2) (n : Int) 2 ++ p ++ r) = k ∧ aN (putN (putN [] (k : Int) 2) (n : Int) 2 ++ p ++ r) = n ∧
   (putN (putN [] (k : Int) 2) (n : Int) 2 ++ p ++ r).take n = putN (putN [] (k : Int) 2) (n : Int) 2 ++ p := by
 have e : putN (putN [] (k : Int) 2) (n : Int) 2 = beN k 2 ++ beN n 2 := by rw [putN_beN (numOk2 hk), putN_beN (numOk2 hn), List.nil_append]
 have hl : (beN (k : Int) 2 ++ beN (n : Int) 2).length = 4 := by simp [beN_len]
 have hb : 8 ≤ (beN (k : Int) 2 ++ beN (n : Int) 2 ++ p ++ r).length := by rw [List.length_append, List.length_append, hl]; omega
 refine ⟨e, ?_, ?_, ?_⟩
 · rw [e]
   have h1 := aK_get _ hb
   have h0 := getN_at (E := beN (k : Int) 2 ++ beN (n : Int) 2 ++ p ++ r) (x := []) (v := (k : Int)) (p := 0) (s := 2) (z := beN (n : Int) 2 ++ (p ++ r)) (by simp) rfl (numOk2 hk)
   rw [h0] at h1
   simp only [Prod.mk.injEq, and_true] at h1; omega
 · rw [e]
   have h1 := aN_get _ hb
   have h0 := getN_at (E := beN (k : Int) 2 ++ beN (n : Int) 2 ++ p ++ r) (x := beN (k : Int) 2) (v := (n : Int)) (p := 2) (s := 2) (z := p ++ r) (by simp) (beN_len _ _) (numOk2 hn)
   rw [h0] at h1
   simp only [Prod.mk.injEq, and_true] at h1; omega
 · rw [e, List.take_append_of_le_length (by rw [List.length_append, hl]; omega), List.take_of_length_le (by rw [List.length_append, hl]; omega)]
theorem right_bare {a : Action} (h : Action.right a = true) : a = Action.bare a := by
 unfold Action.right at h
 rw [Bool.and_eq_true, beq_iff_eq] at h; exact h.2
theorem right_fine {a : Action} (h : Action.right a = true) : Action.fine a = true := by
 unfold Action.right at h
 rw [Bool.and_eq_true] at h; exact h.1
set_option maxHeartbeats 1000000 in
theorem aEnc_back {a : Action} (h : Action.right a = true) (r : List (BitVec 8)) : aDec ((aEnc a).1 ++ r) = (a, ((aEnc a).1.length : Int), none) := by
 have hcs := right_cases h
 have hk : ∃ k : Nat, a.kind = (k : Int) ∧ k < 65536 := by
   rcases hcs with h | h | h | h | h <;> first | exact ⟨a.kind.toNat, by omega, by omega⟩
 obtain ⟨k, hk, hk2⟩ := hk
 have hbl := aBody_len a
 have hn2 := aLen_le _ hbl
 have hpl := aPad_len a
 have hge := aLen_ge (aBody a).length
 have hmod := aLen_mod (aBody a).length
 have e : (aEnc a).1 = putN (putN [] (k : Int) 2) (aLen (aBody a).length : Nat) 2 ++ aPad a := by unfold aEnc; rw [if_pos h, hk]
 obtain ⟨n, hn⟩ : ∃ n, aLen (aBody a).length = n := ⟨_, rfl⟩
 rw [hn] at e hn2 hpl hge hmod
 obtain ⟨hh, h1, h2, h3⟩ := aHead (k := k) (n := n) (p := aPad a) (r := r) hk2 (by omega) hpl (by omega)
 rw [← e] at h1 h2 h3
 have hEl : (aEnc a).1.length = n := by rw [e, hh]; simp [beN_len]; omega
 have hE : (aEnc a).1 = beN k 2 ++ beN n 2 ++ aPad a := by rw [e, hh]
 have hpad : aPad a = aBody a ++ List.replicate (n - 4 - (aBody a).length) 0#8 := by unfold aPad; rw [hn]
 obtain ⟨E, hEE⟩ : ∃ E, (aEnc a).1 = E := ⟨_, rfl⟩
 rw [hEE] at h1 h2 h3 hEl hE ⊢
 have hd4 : E.drop 4 = aPad a := by rw [hE, List.drop_append_of_le_length (by simp [beN_len]), List.drop_of_length_le (by simp [beN_len]), List.nil_append]
 have hdb : E.drop (4 + (aBody a).length) = List.replicate (n - 4 - (aBody a).length) 0#8 := by
   rw [← List.drop_drop, hd4, hpad, List.drop_append_of_le_length (Nat.le_refl _), List.drop_of_length_le (Nat.le_refl _), List.nil_append]
 rw [aDec, if_neg (by rw [List.length_append]; omega), h2, if_neg (by rw [List.length_append]; omega), h1, h3, hEl]
 have hgo := right_fine h
 have hba := right_bare h
 clear e hEE h1 h2 h3 hh
 obtain ⟨kind, port, max, group, ether, oxm⟩ := a
 simp only at hk hcs
 subst hk
 rcases hcs with ⟨hk, p1, p2⟩ | ⟨hk, p1⟩ | ⟨hk, p1⟩ | hk | ⟨hk, p1⟩
 · have : k = 0 := by omega
   subst this
   have eb : aBody ⟨((0 : Nat) : Int), port, max, group, ether, oxm⟩ = beN port 4 ++ beN max 2 := by
     show putN (putN [] port 4) max 2 = _
     rw [putN_beN p1, putN_beN p2, List.nil_append]
   rw [eb] at hpad hdb hn
   have hl6 : (beN port 4 ++ beN max 2).length = 6 := by simp [beN_len]
   rw [hl6] at hpad hdb hn
   have h16 : n = 16 := by rw [← hn]; rfl
   subst h16
   have g1 : getN E 4 4 = (port, 0) := getN_at (x := beN ((0 : Nat) : Int) 2 ++ beN ((16 : Nat) : Int) 2) (z := beN max 2 ++ List.replicate 6 0#8) (by rw [hE, hpad]; try simp) (by simp [beN_len]) p1
   have g2 : getN E 8 2 = (max, 0) := getN_at (x := beN ((0 : Nat) : Int) 2 ++ beN ((16 : Nat) : Int) 2 ++ beN port 4) (z := List.replicate 6 0#8) (by rw [hE, hpad]; try simp) (by simp [beN_len]) p2
   have hof : aOf ((0 : Nat) : Int) E = ⟨0, port, max, 0, 0, x0_⟩ := by unfold aOf; rw [if_pos (by decide), g1, g2]
   have hge : aGoes port = true := by
     have : (aGoes port && aMost ⟨((0 : Nat) : Int), port, max, group, ether, oxm⟩) = true := hgo
     rw [Bool.and_eq_true] at this; exact this.1
   have hb' : (⟨((0 : Nat) : Int), port, max, group, ether, oxm⟩ : Action) = ⟨0, port, max, 0, 0, x0_⟩ := hba
   rw [if_neg (by decide), if_neg (by decide), if_neg (by show ¬ ¬ 16 = 16; decide)]
   rw [if_pos (by show allZ (E.drop 10) = true; rw [hdb]; exact allZ_rep _)]
   unfold aPlain
   rw [if_neg (by rw [g1]; simp [hge]), hof, ← hb', if_pos h, hEl]
 · have : k = 22 := by omega
   subst this
   have eb : aBody ⟨((22 : Nat) : Int), port, max, group, ether, oxm⟩ = beN group 4 := by
     show putN [] group 4 = _
     rw [putN_beN p1, List.nil_append]
   rw [eb] at hpad hdb hn
   rw [beN_len] at hpad hdb hn
   have h16 : n = 8 := by rw [← hn]; rfl
   subst h16
   have g1 : getN E 4 4 = (group, 0) := getN_at (x := beN ((22 : Nat) : Int) 2 ++ beN ((8 : Nat) : Int) 2) (z := []) (by rw [hE, hpad]; try simp) (by simp [beN_len]) p1
   have hof : aOf ((22 : Nat) : Int) E = ⟨22, 0, 0, group, 0, x0_⟩ := by unfold aOf; rw [if_neg (by decide), if_pos (by decide), g1]
   have hb' : (⟨((22 : Nat) : Int), port, max, group, ether, oxm⟩ : Action) = ⟨22, 0, 0, group, 0, x0_⟩ := hba
   rw [if_neg (by decide), if_neg (by decide), if_neg (by show ¬ ¬ 8 = 8; decide)]
   rw [if_pos (by show allZ (E.drop 8) = true; rw [hdb]; exact allZ_rep _)]
   unfold aPlain
   rw [if_neg (by simp), hof, ← hb', if_pos h, hEl]
 · have : k = 17 := by omega
   subst this
   have eb : aBody ⟨((17 : Nat) : Int), port, max, group, ether, oxm⟩ = beN ether 2 := by
     show putN [] ether 2 = _
     rw [putN_beN p1, List.nil_append]
   rw [eb] at hpad hdb hn
   rw [beN_len] at hpad hdb hn
   have h16 : n = 8 := by rw [← hn]; rfl
   subst h16
   have g1 : getN E 4 2 = (ether, 0) := getN_at (x := beN ((17 : Nat) : Int) 2 ++ beN ((8 : Nat) : Int) 2) (z := List.replicate 2 0#8) (by rw [hE, hpad]; try simp) (by simp [beN_len]) p1
   have hof : aOf ((17 : Nat) : Int) E = ⟨17, 0, 0, 0, ether, x0_⟩ := by unfold aOf; rw [if_neg (by decide), if_neg (by decide), if_pos (by decide), g1]
   have hb' : (⟨((17 : Nat) : Int), port, max, group, ether, oxm⟩ : Action) = ⟨17, 0, 0, 0, ether, x0_⟩ := hba
   rw [if_neg (by decide), if_neg (by decide), if_neg (by show ¬ ¬ 8 = 8; decide)]
   rw [if_pos (by show allZ (E.drop 6) = true; rw [hdb]; exact allZ_rep _)]
   unfold aPlain
   rw [if_neg (by simp), hof, ← hb', if_pos h, hEl]
 · have : k = 18 := by omega
   subst this
   have eb : aBody ⟨((18 : Nat) : Int), port, max, group, ether, oxm⟩ = [] := rfl
   rw [eb] at hpad hdb hn
   have h16 : n = 8 := by rw [← hn]; rfl
   subst h16
   have hof : aOf ((18 : Nat) : Int) E = ⟨18, 0, 0, 0, 0, x0_⟩ := by unfold aOf; rw [if_neg (by decide), if_neg (by decide), if_neg (by decide)]; rfl
   have hb' : (⟨((18 : Nat) : Int), port, max, group, ether, oxm⟩ : Action) = ⟨18, 0, 0, 0, 0, x0_⟩ := hba
   rw [if_neg (by decide), if_neg (by decide), if_neg (by show ¬ ¬ 8 = 8; decide)]
   rw [if_pos (by show allZ (E.drop 4) = true; exact (congrArg allZ hdb).trans (allZ_rep _))]
   unfold aPlain
   rw [if_neg (by simp), hof, ← hb', if_pos h, hEl]
 · have : k = 25 := by omega
   subst this
   have eb : aBody ⟨((25 : Nat) : Int), port, max, group, ether, oxm⟩ = (oEnc oxm).1 := rfl
   rw [eb] at hpad hdb hn
   have hob := oEnc_back p1 (List.replicate (n - 4 - (oEnc oxm).1.length) 0#8)
   have ho5 := oEnc_ge p1
   rw [← hpad, ← hd4] at hob
   have hol : oLen (E.drop 4) = (oEnc oxm).1.length := by unfold oLen; rw [hob]; simp
   have hf : (Oxm.right oxm && (!oxm.masked && aSets oxm.field)) = true := hgo
   rw [Bool.and_eq_true, Bool.and_eq_true, Bool.not_eq_true'] at hf
   have hb' : (⟨((25 : Nat) : Int), port, max, group, ether, oxm⟩ : Action) = ⟨25, 0, 0, 0, 0, oxm⟩ := hba
   have hnn : n = (4 + (oEnc oxm).1.length + 7) / 8 * 8 := by rw [← hn]; unfold aLen; split <;> omega
   rw [if_pos rfl]
   unfold aSetD
   rw [hob, hol, hEl, hdb]
   rw [if_neg (by simp), if_neg (by simp), if_pos rfl, if_pos hnn, if_pos (allZ_rep _), if_pos hf.2.2, if_neg (by simp [hf.2.1]), hb']
theorem putN_two {b : List (BitVec 8)} {k n : Nat} (h8 : 4 ≤ b.length) (hk : valN ((b.drop 0).take 2) = k) (hn : valN ((b.drop 2).take 2) = n) : putN (putN [] (k : Int) 2) (n : Int) 2 = b.take 4 := by
 rw [← hk, ← hn, putN_valN (by simp; omega), putN_valN (by simp; omega), List.drop_zero, List.nil_append, show (4 : Nat) = 2 + 2 from rfl, List.take_add]
set_option maxHeartbeats 1000000 in
theorem aDec_back {b : List (BitVec 8)} {y : Action} {n : Int} (h : aDec b = (y, n, none)) : Action.right y = true ∧ ∃ k : Nat, n = (k : Int) ∧ 8 ≤ k ∧ k ≤ b.length ∧ k % 8 = 0 ∧ aEnc y = (b.take k, 0) := by
 rw [aDec] at h
 split at h
 · cases h
 rename_i h8
 split at h
 · cases h
 rename_i c1
 have hNb : aN b ≤ b.length := by omega
 have hNl : (b.take (aN b)).length = aN b := by rw [List.length_take]; omega
 have hN4 : valN (((b.take (aN b)).drop 2).take 2) = aN b := by
   unfold aN at c1 ⊢
   rw [List.drop_take, List.take_take, Nat.min_eq_left (by omega)]
 have hK4 : valN (((b.take (aN b)).drop 0).take 2) = aK b := by
   rw [List.drop_take, List.take_take, Nat.min_eq_left (by omega)]; rfl
 have hlt := aN_lt b (by omega)
 obtain ⟨B, hB⟩ : ∃ B, b.take (aN b) = B := ⟨_, rfl⟩
 obtain ⟨N, hN⟩ : ∃ N, aN b = N := ⟨_, rfl⟩
 obtain ⟨K, hK⟩ : ∃ K, aK b = K := ⟨_, rfl⟩
 rw [hB] at h hNl hN4 hK4
 rw [hN] at h hNl hN4 c1 hNb hlt
 rw [hK] at h hK4
 have hBb : B = b.take N := by rw [← hB, hN]
 have hhead := putN_two (b := B) (k := K) (n := N) (by omega) hK4 hN4
 have fin : ∀ (y : Action), Action.right y = true → y.kind = (K : Int) → (aBody y) ++ List.replicate (N - 4 - (aBody y).length) 0#8 = B.drop 4 → aLen (aBody y).length = N → aEnc y = (b.take N, 0) := by
   intro y hr hk hp hl
   unfold aEnc
   rw [if_pos hr, hk, hl, hhead]
   unfold aPad
   rw [hl, hp, List.take_append_drop, hBb]
 split at h
 · rename_i k25
   subst k25
   unfold aSetD at h
   split at h
   · cases h
   split at h
   · cases h
   split at h
   case isFalse => cases h
   rename_i o1 o6 o0
   split at h
   case isFalse => cases h
   rename_i hl
   split at h
   case isFalse => cases h
   rename_i hz
   split at h
   case isFalse => cases h
   rename_i hs
   split at h
   · cases h
   rename_i hm
   simp only [Prod.mk.injEq, and_true] at h
   obtain ⟨rfl, rfl⟩ := h
   obtain ⟨⟨oo, on, oc⟩, hD⟩ : ∃ D, oDec (B.drop 4) = D := ⟨_, rfl⟩
   rw [hD] at o0 hs hm ⊢
   simp only at o0 hs hm ⊢
   subst o0
   obtain ⟨hor, x, hx, hx4, hxl, hoe⟩ := oDec_back hD
   have hol : oLen (B.drop 4) = x := by unfold oLen; rw [hD]; simp only; omega
   rw [hol] at hl hz
   rw [List.length_drop] at hxl
   have hrr : Action.right ⟨25, 0, 0, 0, 0, oo⟩ = true := by
     have hm' : oo.masked = false := by simpa using hm
     unfold Action.right Action.fine Action.bare
     simp [hor, hm', hs]
   refine ⟨hrr, B.length, rfl, by omega, by omega, by omega, ?_⟩
   rw [hNl]
   have eb : aBody ⟨25, 0, 0, 0, 0, oo⟩ = (B.drop 4).take x := by show (oEnc oo).1 = _; rw [hoe]
   have ebl : (aBody ⟨25, 0, 0, 0, 0, oo⟩).length = x := by rw [eb, List.length_take, List.length_drop]; omega
   refine fin _ hrr rfl ?_ ?_
   · rw [ebl, eb]
     rw [allZ_iff, List.length_drop, hNl] at hz
     rw [show N - 4 - x = N - (4 + x) by omega, ← hz, ← List.drop_drop, List.take_append_drop]
   · rw [ebl]; unfold aLen; split <;> omega
 rename_i k25
 split at h
 · cases h
 rename_i w0
 split at h
 · cases h
 rename_i w1
 split at h
 case isFalse => cases h
 rename_i hz
 unfold aPlain at h
 split at h
 · cases h
 split at h
 case isFalse => cases h
 rename_i hr
 simp only [Prod.mk.injEq, and_true] at h
 obtain ⟨rfl, rfl⟩ := h
 refine ⟨hr, B.length, rfl, by omega, by omega, by omega, ?_⟩
 rw [hNl]
 have hw : N = (aLength (K : Int)).1 := by omega
 have hkk : K = 0 ∨ K = 22 ∨ K = 17 ∨ K = 18 := by
   unfold aLength at w0
   split at w0
   · omega
   split at w0
   · omega
   split at w0
   · omega
   split at w0
   · omega
   · exact absurd rfl w0
 rw [allZ_iff, List.length_drop, hNl] at hz
 rcases hkk with rfl | rfl | rfl | rfl
 · have hN16 : N = 16 := hw
   subst hN16
   have e1 : getN B 4 4 = ((valN ((B.drop 4).take 4) : Int), 0) := getN_val (by omega)
   have e2 : getN B 8 2 = ((valN ((B.drop 8).take 2) : Int), 0) := getN_val (by omega)
   have eb : aBody (aOf ((0 : Nat) : Int) B) = (B.drop 4).take 4 ++ (B.drop 8).take 2 := by
     show putN (putN [] (getN B 4 4).1 4) (getN B 8 2).1 2 = _
     rw [e1, e2, putN_valN (by simp; omega), putN_valN (by simp; omega), List.nil_append]
   have ebl : (aBody (aOf ((0 : Nat) : Int) B)).length = 6 := by rw [eb]; simp; omega
   refine fin _ hr rfl ?_ (by rw [ebl]; rfl)
   have hz' : B.drop 10 = List.replicate 6 0#8 := hz
   have h8 : B.drop 8 = (B.drop 4).drop 4 := by rw [List.drop_drop]
   have h10 : B.drop 10 = ((B.drop 4).drop 4).drop 2 := by rw [List.drop_drop, List.drop_drop]
   rw [ebl, eb]
   show _ ++ List.replicate 6 0#8 = _
   rw [← hz', h10, h8, List.append_assoc, List.take_append_drop, List.take_append_drop]
 · have hN16 : N = 8 := hw
   subst hN16
   have e1 : getN B 4 4 = ((valN ((B.drop 4).take 4) : Int), 0) := getN_val (by omega)
   have eb : aBody (aOf ((22 : Nat) : Int) B) = (B.drop 4).take 4 := by
     show putN [] (getN B 4 4).1 4 = _
     rw [e1, putN_valN (by simp; omega), List.nil_append]
   have ebl : (aBody (aOf ((22 : Nat) : Int) B)).length = 4 := by rw [eb]; simp; omega
   refine fin _ hr rfl ?_ (by rw [ebl]; rfl)
   rw [ebl, eb]
   show _ ++ [] = _
   rw [List.append_nil, List.take_of_length_le (by simp; omega)]
 · have hN16 : N = 8 := hw
   subst hN16
   have e1 : getN B 4 2 = ((valN ((B.drop 4).take 2) : Int), 0) := getN_val (by omega)
   have eb : aBody (aOf ((17 : Nat) : Int) B) = (B.drop 4).take 2 := by
     show putN [] (getN B 4 2).1 2 = _
     rw [e1, putN_valN (by simp; omega), List.nil_append]
   have ebl : (aBody (aOf ((17 : Nat) : Int) B)).length = 2 := by rw [eb]; simp; omega
   refine fin _ hr rfl ?_ (by rw [ebl]; rfl)
   have hz' : B.drop 6 = List.replicate 2 0#8 := hz
   have h10 : B.drop 6 = (B.drop 4).drop 2 := by rw [List.drop_drop]
   rw [ebl, eb]
   show _ ++ List.replicate 2 0#8 = _
   rw [← hz', h10, List.take_append_drop]
 · have hN16 : N = 8 := hw
   subst hN16
   have eb : aBody (aOf ((18 : Nat) : Int) B) = [] := rfl
   refine fin _ hr rfl ?_ (by rw [eb]; rfl)
   have hz' : B.drop 4 = List.replicate 4 0#8 := hz
   rw [eb, hz']; rfl
end Go.Proofs.YtmhapglejjehbaaGreat

namespace Go.Proofs.YtmhapglejjehbaaGreat
open Go Go.AI Go.Proofs
attribute [local irreducible] FnP FnO FnB FnT FnSeq WK RunQ RunQW RunX RunXW
def acFlat (l : List Action) : List (BitVec 8) := l.flatMap fun a => (aEnc a).1
def acEnc (l : List Action) : List (BitVec 8) × Int := if 100 < l.length then ([], 1) else if l.all Action.right = true then (acFlat l, 0) else ([], 1)
theorem acFlat_len (l : List Action) : (acFlat l).length ≤ l.length * 60 := by
 induction l with
 | nil => simp [acFlat]
 | cons a l ih =>
   have := aEnc_len a
   simp only [acFlat, List.flatMap_cons, List.length_append, List.length_cons] at ih ⊢
   omega
theorem acFlat_succ {l : List Action} {i : Nat} (h : i < l.length) : acFlat (l.take (i + 1)) = acFlat (l.take i) ++ (aEnc (nth l i)).1 := by
 unfold acFlat; rw [take_nth h, List.flatMap_append]; simp
theorem aEnc_code (a : Action) : (aEnc a).2 = if Action.right a = true then 0 else 1 := by unfold aEnc; split <;> rfl
theorem all_false_of {l : List Action} {i : Nat} {p : Action → Bool} (h : i < l.length) (hp : p (nth l i) = false) : l.all p = false := by
 rw [List.all_eq_false]; exact ⟨nth l i, nth_mem h, by rw [hp]; exact Bool.false_ne_true⟩
theorem all_true_of {l : List Action} {p : Action → Bool} (h : ∀ j, j < l.length → p (nth l j) = true) : l.all p = true := by
 rw [List.all_eq_true]; intro x hx
 obtain ⟨j, hj, rfl⟩ := mem_nth hx
 exact h j hj
theorem act_load (l : List Action) (i : Nat) (h : i < l.length) : ((actL l).drop (i * 11)).take 11 = (nth l i).enc ∧ 11 ≤ l.length * 11 - i * 11 := ⟨act_sub l i h, by omega⟩
set_option maxHeartbeats 4000000 in
theorem acenc_c (l : List Action) (hl : l.length ≤ 1000000) : FnT Tryz.prog 67 [actS l] (acEnc l).1.length 1 (byL (acEnc l).1) [.int .i64 (acEnc l).2] := by
 unfold actS
 by_cases h100 : 100 < l.length
 · have e : acEnc l = ([], 1) := by unfold acEnc; rw [if_pos h100]
   have j : (100 : Int) < l.length := by omega
   rw [e]
   refine FnT.intro Tryz.func67 rfl rfl fun G w => ?_
   repeat' (first | apply WK.s | refine WK.cT rfl ?_ | (refine hQ.h _ _ ?_; clear hQ hA) | (refine WK.rH Tryz.ntmps67 (by kernel_rfl) ?_; intro A hA Q hQ; simp [*]))
   refine WK.ghost (Ghost.own 2 900 1 rfl rfl) ?_
   refine WK.retT2 Tryz.func67 ?_ ?_ ?_ <;> simp (maxDischargeDepth := 120) [Tryz.results67, b0_]
 have j : ¬ (100 : Int) < l.length := by omega
 have hdef : acEnc l = if l.all Action.right = true then (acFlat l, 0) else ([], 1) := by unfold acEnc; rw [if_neg h100]
 refine FnT.intro Tryz.func67 rfl rfl fun G w => ?_
 repeat' (first | apply WK.s | apply WK.b | apply WK.k | refine WK.cF rfl ?_ | (refine hQ.h _ _ ?_; clear hQ hA) | (refine WK.rH Tryz.ntmps67 (by kernel_rfl) ?_; intro A hA Q hQ; simp [*]))
 refine WK.ghost (Ghost.own 4 900 1 rfl rfl) ?_
 refine WK.lI (fun n => if n = 1 then 900 else n) (fun i : Nat => (⟨(upd (upd (upd (upd (upd (upd (upd J 0 (.sl false l.length (actL l))) 2 (.sl true 0 [])) 3 (.int .i64 0)) 4 (.msl 1 0 (acFlat (l.take i)).length)) 12 (.sl false l.length (actL l))) 13 (.int .i64 l.length)) 14 (.int .i64 i)), (upd B0 1 (.buf 1 (byL (acFlat (l.take i))))), 0⟩ : St)) (fun i => i ≤ l.length ∧ ∀ j, j < i → Action.right (nth l j) = true) (fun i => l.length - i) (0) (by repeat (first | exact TmW.nil | refine TmW.upd ?_ (by simp (maxDischargeDepth := 120) [acFlat, b0_]))) (by repeat (first | exact BxW.nil | refine BxW.upd ?_ (by simp (maxDischargeDepth := 120) [acFlat, b0_]))) (by first | exact InjW.id | exact InjW.nil | exact InjW.one | exact InjW.two (by simp) | exact InjW.three (by simp) (by simp) (by simp)) (⟨by omega, by simp⟩) (fun i hi IH => ?_)
 have hfl := acFlat_len (l.take i)
 have htl : (l.take i).length ≤ 100 := by rw [List.length_take]; omega
 by_cases h1 : i < l.length
 · obtain ⟨h4, h3⟩ := act_load l i h1
   have h6 : IntKind.i64.wrap ((i : Int) + 1) = i + 1 := wrap_i64 (by omega) (by omega)
   have hc := aencP_c (nth l i)
   have hcd := aEnc_code (nth l i)
   have hel := aEnc_len (nth l i)
   rw [hcd] at hc
   cases hr : Action.right (nth l i)
   · have e : acEnc l = ([], 1) := by rw [hdef, if_neg (by rw [all_false_of h1 hr]; exact Bool.false_ne_true)]
     rw [hr] at hc
     rw [e]
     repeat' (first | apply WK.s | apply WK.b | apply WK.k | refine WK.cT rfl ?_ | (refine hQ.h _ _ ?_; clear hQ hA) | (refine WK.rH Tryz.ntmps67 (by kernel_rfl) ?_; intro A hA Q hQ; simp [bne, *]) | (refine RunQ.k rfl rfl rfl rfl rfl ?_ (hc) ?_ ?_ <;> simp (maxDischargeDepth := 120) [bne, *] <;> refine ⟨?_⟩))
     refine WK.ghost (Ghost.own 2 901 1 rfl rfl) ?_
     refine WK.retT2 Tryz.func67 ?_ ?_ ?_ <;> simp (maxDischargeDepth := 120) [Tryz.results67, b0_]
   · rw [hr] at hc
     have hs := acFlat_succ h1
     obtain ⟨F, hF⟩ : ∃ F, acFlat (l.take i) = F := ⟨_, rfl⟩
     obtain ⟨E, hE⟩ : ∃ E, (aEnc (nth l i)).1 = E := ⟨_, rfl⟩
     rw [hF] at hs hfl ⊢
     rw [hE] at hs hc hel
     have hbd : F.length + E.length ≤ 1000000 := by omega
     have hfull := by_full E E.length rfl
     unfold byS at hc
     clear hE hF
     repeat' (first | apply WK.s | apply WK.b | apply WK.n | apply WK.k | refine WK.cT rfl ?_ | refine WK.cF rfl ?_ | (refine hQ.h _ _ ?_; clear hQ hA) | (refine WK.rH Tryz.ntmps67 (by kernel_rfl) ?_; intro A hA Q hQ; simp [bne, *]) | (refine RunQ.append 902 appByte rfl rfl rfl rfl rfl rfl rfl rfl rfl ?_ ?_ ?_ ?_ ?_; (focus (first | omega | (simp [bne, *]; done); done)); (focus (first | omega | (simp [bne, *]; done); done)); (focus (first | omega | (simp [bne, *]; done); done)); (focus (first | omega | (simp [bne, *]; done); done)); refine RunQ.evalH ?_; simp [bne, *]) | (refine RunQ.k rfl rfl rfl rfl rfl ?_ (hc) ?_ ?_ <;> simp (maxDischargeDepth := 120) [bne, *] <;> refine ⟨?_⟩))
     refine WK.next (fun n => if n = 1 then 902 else n) (IH (i + 1) (⟨by omega, fun j hj => by by_cases h7 : j = i; (subst h7; exact hr); exact hi.2 j (by omega)⟩) (by first | omega | (dsimp only; omega))) (by repeat (first | exact TmW.nil | refine TmW.upd ?_ (by simp (maxDischargeDepth := 120) [hs, byL_app]))) (by repeat (first | exact BxW.nil | refine BxW.upd ?_ (by simp (maxDischargeDepth := 120) [hs, byL_app]))) (by first | exact InjW.id | exact InjW.nil | exact InjW.one | exact InjW.two (by simp) | exact InjW.three (by simp) (by simp) (by simp))
 · have e : acEnc l = (acFlat l, 0) := by rw [hdef, if_pos (all_true_of fun j hj => hi.2 j (by omega))]
   have hT : l.take i = l := List.take_of_length_le (by omega)
   rw [e, hT]
   repeat' (first | apply WK.s | refine WK.exit rfl ?_ | refine WK.cF rfl ?_ | (refine hQ.h _ _ ?_; clear hQ hA) | (refine WK.rH Tryz.ntmps67 (by kernel_rfl) ?_; intro A hA Q hQ; simp [*]) | (refine WK.retT2 Tryz.func67 ?_ ?_ ?_ <;> simp (maxDischargeDepth := 120) [Tryz.results67, *]))

def acGlue (acc : List Action) (r : List Action × Option Int) : List Action × Option Int := match r.2 with | none => (acc ++ r.1, none) | some c => ([], some c)
def acDecF : Nat → List (BitVec 8) → List Action × Option Int
 | 0, _ => ([], none)
 | f + 1, b => if b.length = 0 then ([], none) else match (aDec b).2.2 with
   | some c => ([], some c)
   | none => acGlue [(aDec b).1] (acDecF f (b.drop (aDec b).2.1.toNat))
def acDec (b : List (BitVec 8)) : List Action × Option Int :=
 if (acDecF b.length b).2 = none ∧ 100 < (acDecF b.length b).1.length then ([], some 7) else acDecF b.length b
theorem acGlue_glue (a b : List Action) (r : List Action × Option Int) : acGlue a (acGlue b r) = acGlue (a ++ b) r := by
 obtain ⟨l, c⟩ := r
 cases c <;> simp [acGlue]
theorem acGlue_nil (r : List Action × Option Int) (h : ∀ c, r.2 = some c → r.1 = []) : acGlue [] r = r := by
 obtain ⟨l, c⟩ := r
 cases c with
 | none => simp [acGlue]
 | some c => simp only at h; rw [h c rfl]; rfl
theorem acDecF_bad : ∀ (f : Nat) (b : List (BitVec 8)) (c : Int), (acDecF f b).2 = some c → (acDecF f b).1 = []
 | 0, b, c, h => rfl
 | f + 1, b, c, h => by
   rw [acDecF] at h ⊢
   split
   · rfl
   rename_i h0
   rw [if_neg h0] at h
   cases hd : (aDec b).2.2 with
   | some c => rfl
   | none =>
     simp only [hd] at h ⊢
     cases hr : (acDecF f (b.drop (aDec b).2.1.toNat)).2 with
     | none => simp [acGlue, hr] at h
     | some c => simp [acGlue, hr]
structure AcAt (b : List (BitVec 8)) (x : Nat × Nat × List Action) : Prop where
 le : x.2.1 ≤ b.length
 fuel : b.length - x.2.1 ≤ x.1
 eq : acDecF b.length b = acGlue x.2.2 (acDecF x.1 (b.drop x.2.1))
 small : x.2.2.length * 8 ≤ x.2.1
theorem AcAt.start (b : List (BitVec 8)) : AcAt b (b.length, 0, []) := ⟨Nat.zero_le _, Nat.le_refl _, (acGlue_nil _ (acDecF_bad _ _)).symm, Nat.le_refl _⟩
theorem AcAt.next {b : List (BitVec 8)} {x : Nat × Nat × List Action} (h : AcAt b x) (hp : x.2.1 < b.length) {y : Action} {n : Int} (hd : aDec (b.drop x.2.1) = (y, n, none)) : ∃ k : Nat, n = k ∧ x.2.1 + k ≤ b.length ∧ 0 < k ∧
   AcAt b (x.1 - 1, x.2.1 + k, x.2.2 ++ [y]) := by
 obtain ⟨_, k, hk, h8, hkl, _, _⟩ := aDec_back hd
 rw [List.length_drop] at hkl
 have hf : ∃ f, x.1 = f + 1 := ⟨x.1 - 1, by have := h.fuel; omega⟩
 obtain ⟨f, hf⟩ := hf
 refine ⟨k, hk, by omega, by omega, ⟨by simp only; omega, by have := h.fuel; simp only; omega, ?_, by have := h.small; simp only [List.length_append, List.length_singleton]; omega⟩⟩
 rw [h.eq, hf, acDecF, if_neg (by rw [List.length_drop]; omega), hd]
 simp only [Nat.add_sub_cancel]
 rw [acGlue_glue, hk, Int.toNat_natCast, List.drop_drop]

theorem acencP_c (l : List Action) (hl : l.length ≤ 1000000) : FnP Tryz.prog 67 [actS l] (.tup [byS (acEnc l).1, .int .i64 (acEnc l).2]) := by
 have h := (acenc_c l hl).toP (by simp [byL_take]) (by rfl)
 rwa [Nat.mul_one, by_full _ _ rfl] at h
theorem acEnc_len (l : List Action) : (acEnc l).1.length ≤ 6000 := by
 have h := acFlat_len l
 unfold acEnc
 split
 · simp
 split
 · simp only; omega
 · simp
end Go.Proofs.YtmhapglejjehbaaGreat

namespace Go.Proofs.YtmhapglejjehbaaGreat
open Go Go.AI Go.Proofs
theorem acFlat_cons (a : Action) (l : List Action) : acFlat (a :: l) = (aEnc a).1 ++ acFlat l := rfl
theorem acEnc_ok {l : List Action} (h1 : l.length ≤ 100) (h2 : l.all Action.right = true) : acEnc l = (acFlat l, 0) := by
 unfold acEnc; rw [if_neg (by omega), if_pos h2]
theorem acDecF_back : ∀ (f : Nat) (b : List (BitVec 8)), b.length ≤ f → (acDecF f b).2 = none → (∀ a, a ∈ (acDecF f b).1 → Action.right a = true) ∧ acFlat (acDecF f b).1 = b
 | 0, b, hb, _ => by
   have : b = [] := List.eq_nil_of_length_eq_zero (by omega)
   subst this
   exact ⟨fun a ha => by simp [acDecF] at ha, rfl⟩
 | f + 1, b, hb, h => by
   rw [acDecF] at h ⊢
   by_cases h0 : b.length = 0
   · rw [if_pos h0] at *
     have : b = [] := List.eq_nil_of_length_eq_zero h0
     subst this
     exact ⟨fun a ha => by simp at ha, rfl⟩
   · rw [if_neg h0] at h ⊢
     obtain ⟨y, n, c, hd⟩ : ∃ y n c, aDec b = (y, n, c) := ⟨_, _, _, rfl⟩
     rw [hd] at h ⊢
     cases c with
     | some c => simp at h
     | none =>
       obtain ⟨hr, k, hk, h8, hkl, _, he⟩ := aDec_back hd
       subst hk
       simp only [Int.toNat_natCast] at h ⊢
       obtain ⟨R, hR⟩ : ∃ R, acDecF f (b.drop k) = R := ⟨_, rfl⟩
       rw [hR] at h ⊢
       obtain ⟨m, c⟩ := R
       cases c with
       | some c => simp [acGlue] at h
       | none =>
         obtain ⟨h1, h2⟩ := acDecF_back f (b.drop k) (by rw [List.length_drop]; omega) (by rw [hR])
         rw [hR] at h1 h2
         simp only at h1 h2
         refine ⟨fun a ha => ?_, ?_⟩
         · simp only [acGlue, List.cons_append, List.nil_append, List.mem_cons] at ha
           rcases ha with rfl | ha
           · exact hr
           · exact h1 a ha
         · simp only [acGlue, List.cons_append, List.nil_append]
           rw [acFlat_cons, he, h2, List.take_append_drop]
theorem acDec_back {b : List (BitVec 8)} {k : List Action} (h : acDec b = (k, none)) : acEnc k = (b, 0) := by
 unfold acDec at h
 split at h
 · cases h
 · rename_i hn
   obtain ⟨h1, h2⟩ := acDecF_back b.length b (Nat.le_refl _) (by rw [h])
   rw [h] at h1 h2 hn
   simp only at h1 h2 hn
   rw [acEnc_ok (by simp only [true_and] at hn; omega) (List.all_eq_true.2 h1), h2]
theorem acDec_bad {b : List (BitVec 8)} {k : List Action} {c : Int} (h : acDec b = (k, some c)) : k = [] := by
 unfold acDec at h
 split at h
 · cases h; rfl
 · have := acDecF_bad b.length b c (by rw [h])
   rw [h] at this
   exact this
end Go.Proofs.YtmhapglejjehbaaGreat

section
namespace Go.Proofs.YtmhapglejjehbaaGreat
open Go Go.AI Go.Proofs
section
variable {α φ : Type}
def rwGlue (acc : List α) (r : List α × Option φ) : List α × Option φ := match r.2 with | none => (acc ++ r.1, none) | some c => ([], some c)
def rwF (rd : List (BitVec 8) → α × Int × Option φ) : Nat → List (BitVec 8) → List α × Option φ
 | 0, _ => ([], none)
 | f + 1, b => if b.length = 0 then ([], none) else match (rd b).2.2 with
   | some c => ([], some c)
   | none => rwGlue [(rd b).1] (rwF rd f (b.drop (rd b).2.1.toNat))
def rwDec (rd : List (BitVec 8) → α × Int × Option φ) (b : List (BitVec 8)) : List α × Option φ := rwF rd b.length b
theorem rwGlue_glue (a b : List α) (r : List α × Option φ) : rwGlue a (rwGlue b r) = rwGlue (a ++ b) r := by
 obtain ⟨l, c⟩ := r
 cases c <;> simp [rwGlue]
theorem rwGlue_nil (r : List α × Option φ) (h : ∀ c, r.2 = some c → r.1 = []) : rwGlue [] r = r := by
 obtain ⟨l, c⟩ := r
 cases c with
 | none => simp [rwGlue]
 | some c => simp only at h; rw [h c rfl]; rfl
theorem rwF_bad {rd : List (BitVec 8) → α × Int × Option φ} : ∀ (f : Nat) (b : List (BitVec 8)) (c : φ), (rwF rd f b).2 = some c → (rwF rd f b).1 = []
 | 0, b, c, h => rfl
 | f + 1, b, c, h => by
   rw [rwF] at h ⊢
   split
   · rfl
   rename_i h0
   rw [if_neg h0] at h
   cases hd : (rd b).2.2 with
   | some c => rfl
   | none =>
     simp only [hd] at h ⊢
     cases hr : (rwF rd f (b.drop (rd b).2.1.toNat)).2 with
     | none => simp [rwGlue, hr] at h
     | some c => simp [rwGlue, hr]
def RdKeeps (rd : List (BitVec 8) → α × Int × Option φ) (m : Nat) : Prop := ∀ b y n, rd b = (y, n, none) → ∃ k : Nat, n = (k : Int) ∧ m ≤ k ∧ k ≤ b.length
structure RwAt (rd : List (BitVec 8) → α × Int × Option φ) (m : Nat) (b : List (BitVec 8)) (x : Nat × Nat × List α) : Prop where
 le : x.2.1 ≤ b.length
 fuel : b.length - x.2.1 ≤ x.1
 eq : rwDec rd b = rwGlue x.2.2 (rwF rd x.1 (b.drop x.2.1))
 small : x.2.2.length * m ≤ x.2.1
theorem RwAt.start (rd : List (BitVec 8) → α × Int × Option φ) (m : Nat) (b : List (BitVec 8)) : RwAt rd m b (b.length, 0, []) := ⟨Nat.zero_le _, Nat.le_refl _, (rwGlue_nil _ (rwF_bad _ _)).symm, by simp⟩
theorem RwAt.next {rd : List (BitVec 8) → α × Int × Option φ} {m : Nat} (hm : 0 < m) (hk : RdKeeps rd m) {b : List (BitVec 8)} {x : Nat × Nat × List α} (h : RwAt rd m b x) (hp : x.2.1 < b.length) {y : α} {n : Int} (hd : rd (b.drop x.2.1) = (y, n, none)) : ∃ k : Nat, n = k ∧ x.2.1 + k ≤ b.length ∧ 0 < k ∧
   RwAt rd m b (x.1 - 1, x.2.1 + k, x.2.2 ++ [y]) := by
 obtain ⟨k, hk, h8, hkl⟩ := hk _ _ _ hd
 rw [List.length_drop] at hkl
 obtain ⟨f, hf⟩ : ∃ f, x.1 = f + 1 := ⟨x.1 - 1, by have := h.fuel; omega⟩
 refine ⟨k, hk, by omega, by omega, ⟨by simp only; omega, by have := h.fuel; simp only; omega, ?_, ?_⟩⟩
 · rw [h.eq, hf, rwF, if_neg (by rw [List.length_drop]; omega), hd]
   simp only [Nat.add_sub_cancel]
   rw [rwGlue_glue, hk, Int.toNat_natCast, List.drop_drop]
 · have := h.small
   simp only [List.length_append, List.length_singleton, Nat.add_mul, Nat.one_mul]; omega
def rwFlat (en : α → List (BitVec 8)) (l : List α) : List (BitVec 8) := l.flatMap en
theorem rwFlat_app (en : α → List (BitVec 8)) (l m : List α) : rwFlat en (l ++ m) = rwFlat en l ++ rwFlat en m := by unfold rwFlat; rw [List.flatMap_append]
end
end Go.Proofs.YtmhapglejjehbaaGreat
end
