/- Actions: whether one may be, by both sides. -/
import Derived.Test.YtmhapglejjehbaaGreatAf
import Derived.Test.YtmhapglejjehbaaGreatWk3
import Derived.Test.YtmhapglejjehbaaGreatDa
import Derived.Test.YtmhapglejjehbaaGreatWk2
import Derived.SizedLaws
import Derived.Test.YtmhapglejjehbaaGreatAe
set_option linter.all false
set_option linter.unnecessarySimpa false
namespace Go.Proofs.YtmhapglejjehbaaGreat
open Go Go.AI Go.Proofs
attribute [local irreducible] FnP FnO FnB FnT WK RunQ RunQW RunX RunXW
def aSets (f : Int) : Bool := fRight f && (f != 0 && f != 1)
def aGoes (p : Int) : Bool := (decide (0 < p) && decide (p ≤ 4294967040)) || p == 4294967293
def aMost (a : Action) : Bool := decide (0 ≤ a.max) && (decide (a.max ≤ 65535) && (a.max == 0 || a.port == 4294967293))
def Action.bare (a : Action) : Action := if a.kind = 0 then ⟨0, a.port, a.max, 0, 0, oxm0⟩ else if a.kind = 22 then ⟨22, 0, 0, a.group, 0, oxm0⟩ else if a.kind = 17 then ⟨17, 0, 0, 0, a.ether, oxm0⟩
 else if a.kind = 25 then ⟨25, 0, 0, 0, 0, a.oxm⟩ else ⟨a.kind, 0, 0, 0, 0, oxm0⟩
def Action.fine (a : Action) : Bool := if a.kind = 0 then aGoes a.port && aMost a else if a.kind = 22 then decide (0 ≤ a.group) && decide (a.group ≤ 4294967040) else if a.kind = 17 then a.ether == 33024 || a.ether == 34984
 else if a.kind = 18 then true else if a.kind = 25 then Oxm.right a.oxm && (!a.oxm.masked && aSets a.oxm.field) else false
def Action.right (a : Action) : Bool := Action.fine a && a == Action.bare a
theorem asets_c (f : Int) : FnP Tryz.prog 206 [.int .i64 f] (.bool (aSets f)) := by
 refine FnP.i Tryz.func206 rfl rfl fun G w => ?_
 repeat' (first | apply WK.s | (apply hQ.h; clear hQ hA) | (refine Fork.mk (fun h => ?_) (fun h => ?_) <;> (first | (simp [*] at h; done) | (have h2 := h; simp at h2; exfalso; omega) | (have h2 := h; simp at h2; try simp only [Bool.not_eq_true', Bool.not_eq_false'] at h) | skip)) | (refine WK.R Tryz.ntmps206 ?_; intro A hA Q hQ; simp [bne, *]) | (refine RunQ.g rfl (by rw [hA.h]; rfl) ?_; simp [bne, *]) | (refine RunQ.k rfl rfl rfl rfl rfl ?_ (fright_c f) ?_ ?_ <;> simp (config := zd) [bne, *] <;> refine ⟨?_⟩) | (refine WK.t Tryz.func206 ?_ ?_ <;> simp (config := zd) [Tryz.results206, bne, aSets, *]))
theorem rasets_c (f : Int) : FnP Tryz.prog 226 [.int .i64 f] (.bool (aSets f)) := by
 refine FnP.i Tryz.func226 rfl rfl fun G w => ?_
 repeat' (first | apply WK.s | (apply hQ.h; clear hQ hA) | (refine Fork.mk (fun h => ?_) (fun h => ?_) <;> (first | (simp [*] at h; done) | (have h2 := h; simp at h2; exfalso; omega) | (have h2 := h; simp at h2; try simp only [Bool.not_eq_true', Bool.not_eq_false'] at h) | skip)) | (refine WK.R Tryz.ntmps226 ?_; intro A hA Q hQ; simp [bne, *]) | (refine RunQ.g rfl (by rw [hA.h]; rfl) ?_; simp [bne, *]) | (refine RunQ.k rfl rfl rfl rfl rfl ?_ (rfright_c f) ?_ ?_ <;> simp (config := zd) [bne, *] <;> refine ⟨?_⟩) | (refine WK.t Tryz.func226 ?_ ?_ <;> simp (config := zd) [Tryz.results226, bne, aSets, *]))
theorem agoes_c (p : Int) : FnP Tryz.prog 205 [.int .i64 p] (.bool (aGoes p)) := by
 refine FnP.i Tryz.func205 rfl rfl fun G w => ?_
 repeat' (first | apply WK.s | (apply hQ.h; clear hQ hA) | (refine Fork.mk (fun h => ?_) (fun h => ?_) <;> (first | (simp [*] at h; done) | (have h2 := h; simp at h2; exfalso; omega) | (have h2 := h; simp at h2; try simp only [Bool.not_eq_true', Bool.not_eq_false'] at h) | skip)) | (refine WK.R Tryz.ntmps205 ?_; intro A hA Q hQ; simp [*]) | (refine RunQ.g rfl (by rw [hA.h]; rfl) ?_; simp [*]) | (refine WK.t Tryz.func205 ?_ ?_ <;> simp (config := zd) [Tryz.results205, aGoes, *]))
theorem ragoes_c (p : Int) : FnP Tryz.prog 224 [.int .i64 p] (.bool (aGoes p)) := by
 have e : decide (1 ≤ p) = decide (0 < p) := decide_eq_decide.2 (by omega)
 refine FnP.i Tryz.func224 rfl rfl fun G w => ?_
 repeat' (first | apply WK.s | (apply hQ.h; clear hQ hA) | (refine Fork.mk (fun h => ?_) (fun h => ?_) <;> (first | (simp [*] at h; done) | (have h2 := h; simp at h2; exfalso; omega) | (have h2 := h; simp at h2; try simp only [Bool.not_eq_true', Bool.not_eq_false'] at h) | skip)) | (refine WK.R Tryz.ntmps224 ?_; intro A hA Q hQ; simp [e, *]) | (refine RunQ.g rfl (by rw [hA.h]; rfl) ?_; simp [e, *]) | (refine WK.t Tryz.func224 ?_ ?_ <;> simp (config := zd) [Tryz.results224, e, aGoes, *]))
set_option maxHeartbeats 4000000 in
theorem aright_c (a : Action) : FnP Tryz.prog 171 [.agg a.enc] (.bool (Action.right a)) := by
 have ho := oright_c a.oxm
 simp only [Oxm.enc] at ho
 have g : aGoes 4294967293 = true := rfl
 refine FnP.i Tryz.func171 rfl rfl fun G w => ?_
 repeat' (first | apply WK.s | apply WK.b | apply WK.n | apply WK.k | (refine hQ.h _ _ ?_; clear hQ hA) | (refine WK.c2 rfl (fun h => ?_) (fun h => ?_) <;> (first | (simp [*] at h; done) | (have h2 := h; simp at h2; exfalso; omega) | (have h2 := h; simp at h2; try simp only [Bool.not_eq_true', Bool.not_eq_false'] at h) | skip)) | (refine Fork.mk (fun h => ?_) (fun h => ?_) <;> (first | (simp [*] at h; done) | (have h2 := h; simp at h2; exfalso; omega) | (have h2 := h; simp at h2; try simp only [Bool.not_eq_true', Bool.not_eq_false'] at h) | skip)) | (refine WK.R Tryz.ntmps171 ?_; intro A hA Q hQ; simp [Action.enc, *]) | (refine WK.X Tryz.ntmps171 ?_; intro A hA Q hQ; simp [Action.enc, *]) | (refine hQ.h _ _ _ (by decide +kernel) ?_; clear hQ hA) | (refine RunQ.g rfl (by rw [hA.h]; rfl) ?_; simp [Action.enc, *]) | (refine RunQ.k rfl rfl rfl rfl rfl ?_ (agoes_c a.port) ?_ ?_ <;> simp (config := zd) [Action.enc, *] <;> refine ⟨?_⟩) | (refine RunQ.k rfl rfl rfl rfl rfl ?_ (ho) ?_ ?_ <;> simp (config := zd) [Action.enc, *] <;> refine ⟨?_⟩) | (refine RunQW.k rfl rfl rfl rfl ?_ (asets_c a.oxm.field) ?_ ?_ <;> simp (config := zd) [Action.enc, *] <;> refine ⟨?_⟩) | (refine WK.t Tryz.func171 ?_ ?_ <;> simp (config := zd) [Tryz.results171, Action.enc, Action.right, Action.fine, aMost, Action.bare, Action.beq, Oxm.beq, oxm0, wideZ, *]))
set_option maxHeartbeats 4000000 in
theorem ramost_c (a : Action) : FnP Tryz.prog 225 [.agg a.enc] (.bool (a.max == 0 || (a.port == 4294967293 && (decide (0 < a.max) && decide (a.max ≤ 65535))))) := by
 refine FnP.i Tryz.func225 rfl rfl fun G w => ?_
 repeat' (first | apply WK.s | (apply hQ.h; clear hQ hA) | (refine Fork.mk (fun h => ?_) (fun h => ?_) <;> (first | (simp [*] at h; done) | (have h2 := h; simp at h2; exfalso; omega) | (have h2 := h; simp at h2; try simp only [Bool.not_eq_true', Bool.not_eq_false'] at h) | skip)) | (refine WK.R Tryz.ntmps225 ?_; intro A hA Q hQ; simp [Action.enc, *]) | (refine RunQ.g rfl (by rw [hA.h]; rfl) ?_; simp [Action.enc, *]) | (refine WK.t Tryz.func225 ?_ ?_ <;> simp (config := zd) [Tryz.results225, Action.enc, *]))
theorem ramost_eq (a : Action) : (a.max == 0 || (a.port == 4294967293 && (decide (0 < a.max) && decide (a.max ≤ 65535)))) = aMost a := by
 unfold aMost
 rw [Bool.eq_iff_iff]; simp only [Bool.or_eq_true, Bool.and_eq_true, beq_iff_eq, decide_eq_true_eq]; omega
set_option maxHeartbeats 4000000 in
theorem raright_c (a : Action) : FnP Tryz.prog 190 [.agg a.enc] (.bool (Action.right a)) := by
 have ho := roright_c a.oxm
 have hm := ramost_c a
 rw [ramost_eq] at hm
 have s0 := rasame_c a ⟨0, a.port, a.max, 0, 0, oxm0⟩
 have s1 := rasame_c a ⟨22, 0, 0, a.group, 0, oxm0⟩
 have s2 := rasame_c a ⟨17, 0, 0, 0, a.ether, oxm0⟩
 have s3 := rasame_c a ⟨18, 0, 0, 0, 0, oxm0⟩
 have s4 := rasame_c a ⟨25, 0, 0, 0, 0, a.oxm⟩
 obtain ⟨k, port, max, group, ether, oxm⟩ := a
 by_cases k0 : k = 0
 · subst k0
   simp only [Action.enc, Oxm.enc, oxm0, wideZ, uZ_] at ho hm s0 s1 s2 s3 s4
   refine FnP.i Tryz.func190 rfl rfl fun G w => ?_
   repeat' (first | apply WK.s | apply WK.b | refine WK.cT rfl ?_ | (apply hQ.h; clear hQ hA) | (refine Fork.mk (fun h => ?_) (fun h => ?_) <;> (first | (simp [*] at h; done) | (have h2 := h; simp at h2; exfalso; omega) | (have h2 := h; simp at h2; try simp only [Bool.not_eq_true', Bool.not_eq_false'] at h) | skip)) | (refine WK.R Tryz.ntmps190 ?_; intro A hA Q hQ; simp [Action.enc, *]) | (refine RunQ.g rfl (by rw [hA.h]; rfl) ?_; simp [Action.enc, *]) | (refine RunQ.k rfl rfl rfl rfl rfl ?_ (ragoes_c port) ?_ ?_ <;> simp (config := zd) [Action.enc, *] <;> refine ⟨?_⟩) | (refine RunQW.k rfl rfl rfl rfl ?_ (hm) ?_ ?_ <;> simp (config := zd) [Action.enc, *] <;> refine ⟨?_⟩) | (refine RunQW.k rfl rfl rfl rfl ?_ (s0) ?_ ?_ <;> simp (config := zd) [Action.enc, *] <;> refine ⟨?_⟩) | (refine WK.t Tryz.func190 ?_ ?_ <;> simp (config := zd) [Tryz.results190, Action.enc, Action.right, Action.fine, Action.bare, oxm0, wideZ, *]))
 by_cases k1 : k = 22
 · subst k1
   simp only [Action.enc, Oxm.enc, oxm0, wideZ, uZ_] at ho hm s0 s1 s2 s3 s4
   refine FnP.i Tryz.func190 rfl rfl fun G w => ?_
   repeat' (first | apply WK.s | apply WK.b | refine WK.cT rfl ?_ | refine WK.cF rfl ?_ | (apply hQ.h; clear hQ hA) | (refine Fork.mk (fun h => ?_) (fun h => ?_) <;> (first | (simp [*] at h; done) | (have h2 := h; simp at h2; exfalso; omega) | (have h2 := h; simp at h2; try simp only [Bool.not_eq_true', Bool.not_eq_false'] at h) | skip)) | (refine WK.R Tryz.ntmps190 ?_; intro A hA Q hQ; simp [Action.enc, *]) | (refine RunQ.g rfl (by rw [hA.h]; rfl) ?_; simp [Action.enc, *]) | (refine RunQW.k rfl rfl rfl rfl ?_ (s1) ?_ ?_ <;> simp (config := zd) [Action.enc, *] <;> refine ⟨?_⟩) | (refine WK.t Tryz.func190 ?_ ?_ <;> simp (config := zd) [Tryz.results190, Action.enc, Action.right, Action.fine, Action.bare, oxm0, wideZ, *]))
 by_cases k2 : k = 17
 · subst k2
   simp only [Action.enc, Oxm.enc, oxm0, wideZ, uZ_] at ho hm s0 s1 s2 s3 s4
   refine FnP.i Tryz.func190 rfl rfl fun G w => ?_
   repeat' (first | apply WK.s | apply WK.b | refine WK.cT rfl ?_ | refine WK.cF rfl ?_ | (apply hQ.h; clear hQ hA) | (refine Fork.mk (fun h => ?_) (fun h => ?_) <;> (first | (simp [*] at h; done) | (have h2 := h; simp at h2; exfalso; omega) | (have h2 := h; simp at h2; try simp only [Bool.not_eq_true', Bool.not_eq_false'] at h) | skip)) | (refine WK.R Tryz.ntmps190 ?_; intro A hA Q hQ; simp [Action.enc, *]) | (refine RunQ.g rfl (by rw [hA.h]; rfl) ?_; simp [Action.enc, *]) | (refine RunQW.k rfl rfl rfl rfl ?_ (s2) ?_ ?_ <;> simp (config := zd) [Action.enc, *] <;> refine ⟨?_⟩) | (refine WK.t Tryz.func190 ?_ ?_ <;> simp (config := zd) [Tryz.results190, Action.enc, Action.right, Action.fine, Action.bare, oxm0, wideZ, *]))
 by_cases k3 : k = 18
 · subst k3
   simp only [Action.enc, Oxm.enc, oxm0, wideZ, uZ_] at ho hm s0 s1 s2 s3 s4
   refine FnP.i Tryz.func190 rfl rfl fun G w => ?_
   repeat' (first | apply WK.s | apply WK.b | refine WK.cT rfl ?_ | refine WK.cF rfl ?_ | (apply hQ.h; clear hQ hA) | (refine WK.R Tryz.ntmps190 ?_; intro A hA Q hQ; simp [Action.enc, *]) | (refine RunQ.k rfl rfl rfl rfl rfl ?_ (s3) ?_ ?_ <;> simp (config := zd) [Action.enc, *] <;> refine ⟨?_⟩) | (refine WK.t Tryz.func190 ?_ ?_ <;> simp (config := zd) [Tryz.results190, Action.enc, Action.right, Action.fine, Action.bare, oxm0, wideZ, *]))
 by_cases k4 : k = 25
 · subst k4
   simp only [Action.enc, Oxm.enc, oxm0, wideZ, uZ_] at ho hm s0 s1 s2 s3 s4
   refine FnP.i Tryz.func190 rfl rfl fun G w => ?_
   repeat' (first | apply WK.s | apply WK.b | refine WK.cT rfl ?_ | refine WK.cF rfl ?_ | (apply hQ.h; clear hQ hA) | (refine Fork.mk (fun h => ?_) (fun h => ?_) <;> (first | (simp [*] at h; done) | (have h2 := h; simp at h2; exfalso; omega) | (have h2 := h; simp at h2; try simp only [Bool.not_eq_true', Bool.not_eq_false'] at h) | skip)) | (refine WK.R Tryz.ntmps190 ?_; intro A hA Q hQ; simp [Action.enc, Oxm.enc, *]) | (refine RunQ.g rfl (by rw [hA.h]; rfl) ?_; simp [Action.enc, Oxm.enc, *]) | (refine RunQ.k rfl rfl rfl rfl rfl ?_ (ho) ?_ ?_ <;> simp (config := zd) [Action.enc, Oxm.enc, *] <;> refine ⟨?_⟩) | (refine RunQW.k rfl rfl rfl rfl ?_ (rasets_c oxm.field) ?_ ?_ <;> simp (config := zd) [Action.enc, Oxm.enc, *] <;> refine ⟨?_⟩) | (refine RunQW.k rfl rfl rfl rfl ?_ (s4) ?_ ?_ <;> simp (config := zd) [Action.enc, Oxm.enc, *] <;> refine ⟨?_⟩) | (refine WK.t Tryz.func190 ?_ ?_ <;> simp (config := zd) [Tryz.results190, Action.enc, Oxm.enc, Action.right, Action.fine, Action.bare, oxm0, wideZ, *]))
 · refine FnP.i Tryz.func190 rfl rfl fun G w => ?_
   repeat' (first | apply WK.s | apply WK.b | apply WK.n | apply WK.k | (apply hQ.h; clear hQ hA) | (refine WK.c2 rfl (fun h => ?_) (fun h => ?_) <;> (first | (simp [*] at h; done) | (have h2 := h; simp at h2; exfalso; omega) | (have h2 := h; simp at h2; try simp only [Bool.not_eq_true', Bool.not_eq_false'] at h) | skip)) | (refine WK.R Tryz.ntmps190 ?_; intro A hA Q hQ; simp [Action.enc, *]) | (refine WK.t Tryz.func190 ?_ ?_ <;> simp (config := zd) [Tryz.results190, Action.enc, Action.right, Action.fine, Action.bare, *]))

set_option maxHeartbeats 4000000 in
theorem oencT_c (o : Oxm) : FnT Tryz.prog 132 [.agg o.enc] (oEnc o).1.length 1 (byL (oEnc o).1) [.int .i64 (oEnc o).2] := by
 have hr := oright_c o
 have hsz := fSize_le o.field
 have hid := (fRow_ok o.field).1
 have hbl := oBody_len o
 have hsh := shl_one o.field
 have p1 := nputP_c [] 32768 2 (by unfold Sz; omega) (by simp)
 rw [show byS [] = .sl false 0 [] from rfl] at p1
 have l1 := putN_len [] 32768 2
 have hbl2 : (oBody o).length ≤ 32 := by rw [hbl]; split <;> omega
 simp only [Oxm.enc] at hr
 cases k : Oxm.right o
 · have e : oEnc o = ([], 1) := by unfold oEnc; rw [k]; rfl
   rw [k] at hr
   rw [e]
   refine FnT.intro Tryz.func132 rfl rfl fun G w => ?_
   repeat apply WK.s
   refine WK.G 100 Tryz.ntmps132 ?_
   intro A hA Q hQ
   simp [Oxm.enc]
   apply hQ
   clear hQ hA
   repeat apply WK.s
   refine WK.ghost (Ghost.frzVar 1 rfl rfl) ?_
   refine WK.G 200 Tryz.ntmps132 ?_
   intro A hA Q hQ
   simp
   refine RunQ.call rfl rfl rfl rfl (by rfl) (by simp (config := zd)) (hr) (by simp) ?_
   refine RunQ.eval ?_
   simp
   apply hQ
   clear hQ hA
   refine WK.c2 rfl (fun h => ?_) (fun h => ?_)
   · repeat apply WK.s
     refine WK.G 300 Tryz.ntmps132 ?_
     intro A hA Q hQ
     simp
     apply hQ
     clear hQ hA
     refine WK.ghost (Ghost.own 2 900 1 rfl rfl) ?_
     refine WK.retT2 Tryz.func132 ?_ ?_ ?_ <;> simp (config := zd) [Tryz.results132, b0_]
   · cases h
 rw [k] at hr
 have e : oEnc o = (oHead o ++ oBody o, 0) := by unfold oEnc; rw [k]; rfl
 have hor := or_one o.field (right_field k)
 obtain ⟨b1, hb1⟩ : ∃ b1, b1 = putN [] 32768 2 := ⟨_, rfl⟩
 rw [← hb1] at p1 l1
 simp only [List.length_nil, Nat.zero_add] at l1
 have p2 := nputP_c b1 (oNum o) 1 (by unfold Sz; omega) (by omega)
 have l2 := putN_len b1 (oNum o) 1
 have p3 := nput_c (putN b1 (oNum o) 1) (oBody o).length 1 (by unfold Sz; omega) (by omega)
 have eh : oHead o = putN (putN b1 (oNum o) 1) (oBody o).length 1 := by unfold oHead; rw [hb1]
 have l3 := putN_len (putN b1 (oNum o) 1) (oBody o).length 1
 rw [← eh] at p3 l3
 obtain ⟨b2, hb2⟩ : ∃ b2, b2 = putN b1 (oNum o) 1 := ⟨_, rfl⟩
 rw [← hb2] at p2 p3
 have q1 := wputP_c [] o.value (fSize o.field) hsz (by simp)
 rw [show byS [] = .sl false 0 [] from rfl] at q1
 have hf := by_full (oBody o) _ rfl
 have hbd : (oHead o).length + (oBody o).length ≤ 140737488355328 := by omega
 have hT : (byL (oHead o) ++ byL (oBody o)).take ((oHead o).length + (oBody o).length) = byL (oHead o) ++ byL (oBody o) := List.take_of_length_le (by simp)
 rw [e]
 refine FnT.intro Tryz.func132 rfl rfl fun G w => ?_
 repeat apply WK.s
 refine WK.G 100 Tryz.ntmps132 ?_
 intro A hA Q hQ
 simp [Oxm.enc]
 apply hQ
 clear hQ hA
 repeat apply WK.s
 refine WK.ghost (Ghost.frzVar 1 rfl rfl) ?_
 refine WK.G 200 Tryz.ntmps132 ?_
 intro A hA Q hQ
 simp
 refine RunQ.call rfl rfl rfl rfl (by rfl) (by simp (config := zd)) (hr) (by simp) ?_
 refine RunQ.eval ?_
 simp
 apply hQ
 clear hQ hA
 refine WK.c2 rfl (fun h => ?_) (fun h => ?_)
 · cases h
 repeat (first | apply WK.s | apply WK.k)
 refine WK.G 300 Tryz.ntmps132 ?_
 intro A hA Q hQ
 simp
 refine RunQ.call rfl rfl rfl rfl (by rfl) (by simp (config := zd)) (fsize_c o.field) (by simp) ?_
 refine RunQ.eval ?_
 simp
 apply hQ
 clear hQ hA
 repeat apply WK.s
 apply WK.cut (⟨(upd (upd J 5 (.sl false (oBody o).length (byL (oBody o)))) 6 (.int .i64 (oNum o))), B0, 0⟩ : St)
 · intro hcut
   simp only [Wide.enc] at q1
   cases m : o.masked
   · have eb : oBody o = wPut [] o.value (fSize o.field) := by unfold oBody; rw [m]; rfl
     have en : oNum o = fID o.field * 2 := by unfold oNum; rw [m]; rfl
     rw [← eb] at q1
     refine WK.G 400 Tryz.ntmps132 ?_
     intro A hA Q hQ
     simp
     refine RunQ.call rfl rfl rfl rfl (by rfl) (by simp (config := zd)) (q1) (by simp) ?_
     refine RunQ.eval ?_
     simp
     apply hQ
     clear hQ hA
     repeat apply WK.s
     refine WK.G 500 Tryz.ntmps132 ?_
     intro A hA Q hQ
     simp
     refine RunQ.call rfl rfl rfl rfl (by rfl) (by simp (config := zd) [hsh]) (fid_c o.field) (by simp [hsh]) ?_
     refine RunQ.eval ?_
     simp [hsh]
     apply hQ
     clear hQ hA
     repeat apply WK.s
     refine WK.G 600 Tryz.ntmps132 ?_
     intro A hA Q hQ
     simp [m]
     apply hQ
     clear hQ hA
     refine WK.c2 rfl (fun h => ?_) (fun h => ?_)
     · cases h
     · repeat (first | apply WK.s | apply WK.k)
       refine WK.N (fun n => n) hcut (by repeat (first | exact TmW.nil | refine TmW.upd ?_ (by simp (config := zd) [en, byS]))) (by repeat (first | exact BxW.nil | refine BxW.upd ?_ (by simp (config := zd) [en, byS])))
   · have eb : oBody o = wPut (wPut [] o.value (fSize o.field)) o.mask (fSize o.field) := by unfold oBody; rw [m]; rfl
     have en : oNum o = fID o.field * 2 + 1 := by unfold oNum; rw [m]; rfl
     have l4 := wPut_len [] o.value (fSize o.field) hsz
     have q2 := wputP_c (wPut [] o.value (fSize o.field)) o.mask (fSize o.field) hsz (by rw [l4]; simp; omega)
     rw [← eb] at q2
     simp only [Wide.enc] at q2
     obtain ⟨b4, hb4⟩ : ∃ b4, b4 = wPut [] o.value (fSize o.field) := ⟨_, rfl⟩
     rw [← hb4] at q1 q2
     refine WK.G 700 Tryz.ntmps132 ?_
     intro A hA Q hQ
     simp
     refine RunQ.call rfl rfl rfl rfl (by rfl) (by simp (config := zd)) (q1) (by simp) ?_
     refine RunQ.eval ?_
     simp
     apply hQ
     clear hQ hA
     repeat apply WK.s
     refine WK.G 800 Tryz.ntmps132 ?_
     intro A hA Q hQ
     simp
     refine RunQ.call rfl rfl rfl rfl (by rfl) (by simp (config := zd) [hsh]) (fid_c o.field) (by simp [hsh]) ?_
     refine RunQ.eval ?_
     simp [hsh]
     apply hQ
     clear hQ hA
     repeat apply WK.s
     refine WK.G 900 Tryz.ntmps132 ?_
     intro A hA Q hQ
     simp [m]
     apply hQ
     clear hQ hA
     refine WK.c2 rfl (fun h => ?_) (fun h => ?_)
     · repeat apply WK.s
       refine WK.G 1000 Tryz.ntmps132 ?_
       intro A hA Q hQ
       simp
       refine RunQ.call rfl rfl rfl rfl (by rfl) (by simp (config := zd)) (q2) (by simp) ?_
       refine RunQ.eval ?_
       simp
       apply hQ
       clear hQ hA
       refine WK.G 1100 Tryz.ntmps132 ?_
       intro A hA Q hQ
       simp [hor]
       apply hQ
       clear hQ hA
       repeat apply WK.s
       refine WK.N (fun n => n) hcut (by repeat (first | exact TmW.nil | refine TmW.upd ?_ (by simp (config := zd) [en, byS]))) (by repeat (first | exact BxW.nil | refine BxW.upd ?_ (by simp (config := zd) [en, byS])))
     · cases h
 refine WK.G 1200 Tryz.ntmps132 ?_
 intro A hA Q hQ
 simp
 refine RunQ.call rfl rfl rfl rfl (by rfl) (by simp (config := zd)) (p1) (by simp) ?_
 refine RunQ.eval ?_
 simp
 refine RunQ.call rfl rfl rfl rfl (by rfl) (by simp (config := zd)) (p2) (by simp) ?_
 refine RunQ.eval ?_
 simp
 refine RunQ.callO 900 rfl rfl rfl (by simp) (by rfl) (by simp (config := zd)) (p3) (by simp) (by simp) (by simp) ?_
 refine RunQ.eval ?_
 simp
 apply hQ
 clear hQ hA
 repeat apply WK.s
 refine WK.G 1300 Tryz.ntmps132 ?_
 intro A hA Q hQ
 simp
 refine RunQ.append 901 appByte rfl rfl rfl rfl rfl rfl rfl (by simp [hbd, hf]) rfl (by simp [hbd, hf]) (by simp [hbd, hf]) (by simp [hbd, hf]) (by simp [hbd, hf]) ?_
 refine RunQ.eval ?_
 simp [hbd, hf]
 apply hQ
 clear hQ hA
 refine WK.retT2 Tryz.func132 ?_ ?_ ?_ <;> simp (config := zd) [Tryz.results132, byL_app, hf, hT]
def aBody (a : Action) : List (BitVec 8) := if a.kind = 0 then putN (putN [] a.port 4) a.max 2 else if a.kind = 22 then putN [] a.group 4 else if a.kind = 17 then putN [] a.ether 2 else if a.kind = 25 then (oEnc a.oxm).1 else []
theorem oEnc_len (o : Oxm) : (oEnc o).1.length ≤ 36 := by
 unfold oEnc
 split
 · have h1 := oBody_len o
   have h2 := fSize_le o.field
   have h3 : (oHead o).length ≤ 4 := by
     unfold oHead
     have a1 := putN_len [] 32768 2
     have a2 := putN_len (putN [] 32768 2) (oNum o) 1
     have a3 := putN_len (putN (putN [] 32768 2) (oNum o) 1) (oBody o).length 1
     simp at a1; omega
   simp only [List.length_append]
   have : (oBody o).length ≤ 32 := by rw [h1]; split <;> omega
   omega
 · simp
theorem aBody_len (a : Action) : (aBody a).length ≤ 36 := by
 have h1 := putN_len [] a.port 4
 have h2 := putN_len (putN [] a.port 4) a.max 2
 have h3 := putN_len [] a.group 4
 have h4 := putN_len [] a.ether 2
 have h5 := oEnc_len a.oxm
 simp at h1 h3 h4
 unfold aBody; split
 · omega
 split
 · omega
 split
 · omega
 split
 · omega
 · simp
set_option maxHeartbeats 4000000 in
theorem abody_c (a : Action) : FnO Tryz.prog 172 [.agg a.enc] (aBody a).length 1 (byL (aBody a)) := by
 have p1 := nputP_c [] a.port 4 (by unfold Sz; omega) (by simp)
 have l1 := putN_len [] a.port 4
 simp at l1
 have p2 := nput_c (putN [] a.port 4) a.max 2 (by unfold Sz; omega) (by omega)
 have p3 := nput_c [] a.group 4 (by unfold Sz; omega) (by simp)
 have p4 := nput_c [] a.ether 2 (by unfold Sz; omega) (by simp)
 have p5 := oencT_c a.oxm
 rw [show byS [] = .sl false 0 [] from rfl] at p1 p3 p4
 obtain ⟨k, port, max, group, ether, oxm⟩ := a
 simp only [Oxm.enc] at p1 p2 p3 p4 p5
 by_cases k0 : k = 0
 · subst k0
   have e : aBody ⟨0, port, max, group, ether, oxm⟩ = putN (putN [] port 4) max 2 := rfl
   rw [e]
   refine FnO.intro Tryz.func172 rfl rfl fun G w => ?_
   repeat' (first | apply WK.s | apply WK.b | refine WK.cT rfl ?_ | (refine hQ.h _ _ ?_; clear hQ hA) | (refine WK.R Tryz.ntmps172 ?_; intro A hA Q hQ; simp [Action.enc, *]) | (refine WK.X Tryz.ntmps172 ?_; intro A hA Q hQ; simp [Action.enc, *]) | (refine hQ.h _ _ _ (by decide +kernel) ?_; clear hQ hA) | (refine RunX.callO 900 rfl rfl rfl rfl ?_ (p2) ?_ ?_ ?_ ?_; (focus simp (config := zd) [Action.enc, *]; done); (focus simp [Action.enc, *]; done); (focus simp [Action.enc, *]; done); (focus simp [Action.enc, *]; done); refine RunX.e ?_; simp [Action.enc, *]) | (refine RunX.k rfl rfl rfl rfl ?_ (p1) ?_ ?_ <;> simp (config := zd) [Action.enc, *] <;> refine ⟨?_⟩) | (refine WK.retO Tryz.func172 rfl rfl ?_ ?_ <;> simp (config := zd) [Action.enc, *]))
 by_cases k1 : k = 22
 · subst k1
   have e : aBody ⟨22, port, max, group, ether, oxm⟩ = putN [] group 4 := rfl
   rw [e]
   refine FnO.intro Tryz.func172 rfl rfl fun G w => ?_
   repeat' (first | apply WK.s | apply WK.b | refine WK.cT rfl ?_ | refine WK.cF rfl ?_ | (apply hQ.h; clear hQ hA) | (refine WK.R Tryz.ntmps172 ?_; intro A hA Q hQ; simp [Action.enc, *]) | (refine RunQ.callO 900 rfl rfl rfl rfl rfl ?_ (p3) ?_ ?_ ?_ ?_; (focus simp (config := zd) [Action.enc, *]; done); (focus simp [Action.enc, *]; done); (focus simp [Action.enc, *]; done); (focus simp [Action.enc, *]; done); refine RunQ.evalH ?_; simp [Action.enc, *]) | (refine WK.retO Tryz.func172 rfl rfl ?_ ?_ <;> simp (config := zd) [Action.enc, *]))
 by_cases k2 : k = 17
 · subst k2
   have e : aBody ⟨17, port, max, group, ether, oxm⟩ = putN [] ether 2 := rfl
   rw [e]
   refine FnO.intro Tryz.func172 rfl rfl fun G w => ?_
   repeat' (first | apply WK.s | apply WK.b | refine WK.cT rfl ?_ | refine WK.cF rfl ?_ | (apply hQ.h; clear hQ hA) | (refine WK.R Tryz.ntmps172 ?_; intro A hA Q hQ; simp [Action.enc, *]) | (refine RunQ.callO 900 rfl rfl rfl rfl rfl ?_ (p4) ?_ ?_ ?_ ?_; (focus simp (config := zd) [Action.enc, *]; done); (focus simp [Action.enc, *]; done); (focus simp [Action.enc, *]; done); (focus simp [Action.enc, *]; done); refine RunQ.evalH ?_; simp [Action.enc, *]) | (refine WK.retO Tryz.func172 rfl rfl ?_ ?_ <;> simp (config := zd) [Action.enc, *]))
 by_cases k4 : k = 25
 · subst k4
   have e : aBody ⟨25, port, max, group, ether, oxm⟩ = (oEnc oxm).1 := rfl
   rw [e]
   refine FnO.intro Tryz.func172 rfl rfl fun G w => ?_
   repeat' (first | apply WK.s | apply WK.b | refine WK.cT rfl ?_ | refine WK.cF rfl ?_ | (apply hQ.h; clear hQ hA) | (refine WK.R Tryz.ntmps172 ?_; intro A hA Q hQ; simp [Action.enc, *]) | (refine RunQ.callT 900 rfl rfl rfl rfl rfl ?_ (p5) ?_ ?_ ?_ ?_ ?_; (focus simp (config := zd) [Action.enc, *]; done); (focus simp [Action.enc, *]; done); (focus simp [Action.enc, *]; done); (focus simp [Action.enc, *]; done); (focus simp [Action.enc, *]; done); refine RunQ.evalH ?_; simp [Action.enc, *]) | (refine WK.retO Tryz.func172 rfl rfl ?_ ?_ <;> simp (config := zd) [Action.enc, *]))
 · have e : aBody ⟨k, port, max, group, ether, oxm⟩ = [] := by unfold aBody; rw [if_neg k0, if_neg k1, if_neg k2, if_neg k4]
   rw [e]
   refine FnO.intro Tryz.func172 rfl rfl fun G w => ?_
   repeat' (first | apply WK.s | apply WK.b | apply WK.n | apply WK.k | (apply hQ.h; clear hQ hA) | (refine WK.c2 rfl (fun h => ?_) (fun h => ?_) <;> (first | (simp [*] at h; done) | (have h2 := h; simp at h2; exfalso; omega) | (have h2 := h; simp at h2; try simp only [Bool.not_eq_true', Bool.not_eq_false'] at h) | skip)) | (refine WK.R Tryz.ntmps172 ?_; intro A hA Q hQ; simp [Action.enc, *]))
   refine WK.ghost (Ghost.own 2 900 1 rfl rfl) ?_
   refine WK.retO Tryz.func172 (by rfl) (by rfl) (by simp (config := zd) [b0_]) (by simp [b0_])

def aLen (n : Nat) : Nat := if 8 < (4 + n + 7) / 8 * 8 then (4 + n + 7) / 8 * 8 else 8
def aPad (a : Action) : List (BitVec 8) := aBody a ++ List.replicate (aLen (aBody a).length - 4 - (aBody a).length) 0#8
def aEnc (a : Action) : List (BitVec 8) × Int := if Action.right a = true then (putN (putN [] a.kind 2) (aLen (aBody a).length : Nat) 2 ++ aPad a, 0) else ([], 1)
theorem aLen_ge (n : Nat) : 4 + n ≤ aLen n ∧ 8 ≤ aLen n := by unfold aLen; split <;> omega
theorem aLen_le (n : Nat) (h : n ≤ 36) : aLen n ≤ 48 := by unfold aLen; split <;> omega
theorem aPad_len (a : Action) : 4 + (aPad a).length = aLen (aBody a).length := by
 have := aLen_ge (aBody a).length
 simp only [aPad, List.length_append, List.length_replicate]; omega
theorem byL_rep (n : Nat) : List.replicate n (AV.int .u8 0) = byL (List.replicate n 0#8) := by simp [byL, bI]
theorem bNot7_all : ∀ n : Fin 64, bNot .i64 (n.val : Int) 7 = ((n.val / 8 * 8 : Nat) : Int) := by decide +kernel
theorem bNot7 (n : Nat) (h : n < 64) : bNot .i64 (n : Int) 7 = ((n / 8 * 8 : Nat) : Int) := bNot7_all ⟨n, h⟩
set_option maxHeartbeats 4000000 in
theorem aenc_c (a : Action) : FnT Tryz.prog 122 [.agg a.enc] (aEnc a).1.length 1 (byL (aEnc a).1) [.int .i64 (aEnc a).2] := by
 have hr := aright_c a
 cases k : Action.right a
 · have e : aEnc a = ([], 1) := by unfold aEnc; rw [k, if_neg Bool.false_ne_true]
   rw [k] at hr
   rw [e]
   refine FnT.intro Tryz.func122 rfl rfl fun G w => ?_
   repeat' (first | apply WK.s | refine WK.cT rfl ?_ | (apply hQ.h; clear hQ hA) | (refine WK.R Tryz.ntmps122 ?_; intro A hA Q hQ; simp [*]) | (refine RunQ.k rfl rfl rfl rfl rfl ?_ (hr) ?_ ?_ <;> simp (config := zd) [*] <;> refine ⟨?_⟩))
   refine WK.ghost (Ghost.own 2 900 1 rfl rfl) ?_
   refine WK.retT2 Tryz.func122 ?_ ?_ ?_ <;> simp (config := zd) [Tryz.results122, b0_]
 have e : aEnc a = (putN (putN [] a.kind 2) (aLen (aBody a).length : Nat) 2 ++ aPad a, 0) := by unfold aEnc; rw [k, if_pos rfl]
 rw [k] at hr
 have hb := abody_c a
 have hl := aBody_len a
 have hpl := aPad_len a
 have hep : aPad a = aBody a ++ List.replicate (aLen (aBody a).length - 4 - (aBody a).length) 0#8 := rfl
 have hle := aLen_le _ hl
 have hge := aLen_ge (aBody a).length
 have hdef : aLen (aBody a).length = if 8 < (4 + (aBody a).length + 7) / 8 * 8 then (4 + (aBody a).length + 7) / 8 * 8 else 8 := rfl
 have p1 := nputP_c [] a.kind 2 (by unfold Sz; omega) (by simp)
 have l1 := putN_len [] a.kind 2
 simp only [List.length_nil, Nat.zero_add] at l1
 have p2 := nput_c (putN [] a.kind 2) (aLen (aBody a).length : Nat) 2 (by unfold Sz; omega) (by omega)
 have l2 := putN_len (putN [] a.kind 2) (aLen (aBody a).length : Nat) 2
 rw [show byS [] = .sl false 0 [] from rfl] at p1
 obtain ⟨B, hB⟩ : ∃ B, aBody a = B := ⟨_, rfl⟩
 rw [hB] at hb hl hpl hep hle hge hdef p2 l2 e
 obtain ⟨n, hn⟩ : ∃ n, aLen B.length = n := ⟨_, rfl⟩
 rw [hn] at hpl hep hle hge hdef p2 l2 e
 have q1 : IntKind.i64.wrap (4 + (B.length : Int)) = ((4 + B.length : Nat) : Int) := by rw [wrap_i64 (by omega) (by omega)]; omega
 have q2 : IntKind.i64.wrap (((4 + B.length : Nat) : Int) + 7) = ((4 + B.length + 7 : Nat) : Int) := by rw [wrap_i64 (by omega) (by omega)]; omega
 have q3 := bNot7 (4 + B.length + 7) (by omega)
 obtain ⟨x1, hx1⟩ : ∃ x1, 4 + B.length = x1 := ⟨_, rfl⟩
 rw [hx1] at q1 q2 q3 hdef hge
 obtain ⟨x2, hx2⟩ : ∃ x2, x1 + 7 = x2 := ⟨_, rfl⟩
 rw [hx2] at q2 q3 hdef
 obtain ⟨x3, hx3⟩ : ∃ x3, x2 / 8 * 8 = x3 := ⟨_, rfl⟩
 rw [hx3] at q3 hdef
 have q4 : (if (8 : Int) < (x3 : Int) then (x3 : Int) else 8) = (n : Int) := by rw [hdef]; split <;> split <;> omega
 have q4' : (if (x3 : Int) < 8 then (8 : Int) else (x3 : Int)) = (n : Int) := by rw [hdef]; split <;> split <;> omega
 have q5 : IntKind.i64.wrap ((n : Int) - 4) = ((n - 4 : Nat) : Int) := by rw [wrap_i64 (by omega) (by omega)]; omega
 obtain ⟨n4, hn4⟩ : ∃ n4, n - 4 = n4 := ⟨_, rfl⟩
 rw [hn4] at q5 hep
 have q6 : IntKind.i64.wrap ((n4 : Int) - (B.length : Int)) = ((n4 - B.length : Nat) : Int) := by rw [wrap_i64 (by omega) (by omega)]; omega
 obtain ⟨m, hm⟩ : ∃ m, n4 - B.length = m := ⟨_, rfl⟩
 rw [hm] at q6 hep
 have hbd1 : (B.length + m) * 1 ≤ 140737488355328 := by omega
 have hbd2 : ((putN (putN [] a.kind 2) (n : Int) 2).length + (B.length + m)) ≤ 140737488355328 := by omega
 have hz := byL_rep m
 have hf : byL B ++ byL (List.replicate m 0#8) = byL (aPad a) := by rw [← byL_app, hep]
 have hk0 : a.enc[0]? = some (.int .i64 a.kind) := rfl
 have hpl2 : (aPad a).length = B.length + m := by rw [hep]; simp
 rw [e]
 clear hep hB hn hx1 hx2 hx3 hn4 hm hdef hpl hl hle hge l1 l2
 refine FnT.intro Tryz.func122 rfl rfl fun G w => ?_
 repeat' (first | apply WK.s | apply WK.k | refine WK.cF rfl ?_ | (apply hQ.h; clear hQ hA) | (refine WK.R Tryz.ntmps122 ?_; intro A hA Q hQ; simp [q1, q2, q3, q4, q4', q5, q6, *]) | (refine RunQ.callO 900 rfl rfl rfl rfl rfl ?_ (hb) ?_ ?_ ?_ ?_; (focus simp (config := zd) [q1, q2, q3, q4, q4', q5, q6, *]; done); (focus simp [q1, q2, q3, q4, q4', q5, q6, *]; done); (focus simp [q1, q2, q3, q4, q4', q5, q6, *]; done); (focus simp [q1, q2, q3, q4, q4', q5, q6, *]; done); refine RunQ.evalH ?_; simp [q1, q2, q3, q4, q4', q5, q6, *]) | (refine RunQ.callO 901 rfl rfl rfl rfl rfl ?_ (p2) ?_ ?_ ?_ ?_; (focus simp (config := zd) [q1, q2, q3, q4, q4', q5, q6, *]; done); (focus simp [q1, q2, q3, q4, q4', q5, q6, *]; done); (focus simp [q1, q2, q3, q4, q4', q5, q6, *]; done); (focus simp [q1, q2, q3, q4, q4', q5, q6, *]; done); refine RunQ.evalH ?_; simp [q1, q2, q3, q4, q4', q5, q6, *]) | (refine RunQ.appendZ (m := m) (kk := .i64) (zv := .int .u8 0) 902 appByte rfl rfl rfl rfl (by simp) (by simp) rfl ?_ rfl rfl rfl ?_ ?_ ?_ ?_; (focus simp (config := zd) [q1, q2, q3, q4, q4', q5, q6, *]; done); (focus first | omega | simp [q1, q2, q3, q4, q4', q5, q6, *]; done); (focus first | omega | simp [q1, q2, q3, q4, q4', q5, q6, *]; done); (focus simp [q1, q2, q3, q4, q4', q5, q6, *]; done); refine RunQ.evalH ?_; simp [q1, q2, q3, q4, q4', q5, q6, *]) | (refine RunQ.appendFz 903 appByte rfl rfl rfl rfl rfl rfl rfl rfl rfl rfl ?_ ?_ ?_ ?_ ?_ ?_; (focus first | omega | simp [q1, q2, q3, q4, q4', q5, q6, *]; done); (focus first | omega | simp [q1, q2, q3, q4, q4', q5, q6, *]; done); (focus first | omega | simp [q1, q2, q3, q4, q4', q5, q6, *]; done); (focus simp [q1, q2, q3, q4, q4', q5, q6, *]; done); (focus simp [q1, q2, q3, q4, q4', q5, q6, *]; done); refine RunQ.evalH ?_; simp [q1, q2, q3, q4, q4', q5, q6, *]) | (refine RunQ.k rfl rfl rfl rfl rfl ?_ (hr) ?_ ?_ <;> simp (config := zd) [q1, q2, q3, q4, q4', q5, q6, *] <;> refine ⟨?_⟩) | (refine RunQ.k rfl rfl rfl rfl rfl ?_ (p1) ?_ ?_ <;> simp (config := zd) [q1, q2, q3, q4, q4', q5, q6, *] <;> refine ⟨?_⟩) | (refine WK.retT2 Tryz.func122 ?_ ?_ ?_ <;> simp (config := zd) [Tryz.results122, q1, q2, q3, q4, q4', q5, q6, byL_app, *]))

set_option maxHeartbeats 4000000 in
theorem roencT_c (o : Oxm) : FnT Tryz.prog 155 [.agg o.enc] (oEnc o).1.length 1 (byL (oEnc o).1) [.int .i64 (oEnc o).2] := by
 have hr := roright_c o
 have hsz := fSize_le o.field
 have hid := (fRow_ok o.field).1
 have hbl := oBody_len o
 have w1 : IntKind.i64.wrap (2 * fID o.field) = 2 * fID o.field := by unfold fID; exact wrap_i64 (by omega) (by omega)
 have w2 : IntKind.i64.wrap (2 * fID o.field + 1) = 2 * fID o.field + 1 := by unfold fID; exact wrap_i64 (by omega) (by omega)
 have w3 : IntKind.i64.wrap (2 * (fSize o.field : Int)) = ((2 * fSize o.field : Nat) : Int) := by rw [wrap_i64 (by omega) (by omega)]; omega
 have p1 := rputP_c [] 32768 2 (by unfold Sz; omega) (by simp)
 rw [show byS [] = .sl false 0 [] from rfl] at p1
 have l1 := putN_len [] 32768 2
 simp only [Oxm.enc] at hr
 cases k : Oxm.right o
 · have e : oEnc o = ([], 1) := by unfold oEnc; rw [k]; rfl
   rw [k] at hr
   rw [e]
   refine FnT.intro Tryz.func155 rfl rfl fun G w => ?_
   repeat apply WK.s
   refine WK.G 100 Tryz.ntmps155 ?_
   intro A hA Q hQ
   simp [Oxm.enc]
   apply hQ
   clear hQ hA
   repeat apply WK.s
   refine WK.ghost (Ghost.frzVar 1 rfl rfl) ?_
   refine WK.G 200 Tryz.ntmps155 ?_
   intro A hA Q hQ
   simp
   refine RunQ.call rfl rfl rfl rfl (by rfl) (by simp (config := zd)) (hr) (by simp) ?_
   refine RunQ.eval ?_
   simp
   apply hQ
   clear hQ hA
   refine WK.c2 rfl (fun h => ?_) (fun h => ?_)
   · repeat apply WK.s
     refine WK.G 300 Tryz.ntmps155 ?_
     intro A hA Q hQ
     simp
     apply hQ
     clear hQ hA
     refine WK.ghost (Ghost.own 2 900 1 rfl rfl) ?_
     refine WK.retT2 Tryz.func155 ?_ ?_ ?_ <;> simp (config := zd) [Tryz.results155, b0_]
   · cases h
 rw [k] at hr
 have e : oEnc o = (oHead o ++ oBody o, 0) := by unfold oEnc; rw [k]; rfl
 obtain ⟨b1, hb1⟩ : ∃ b1, b1 = putN [] 32768 2 := ⟨_, rfl⟩
 rw [← hb1] at p1 l1
 simp only [List.length_nil, Nat.zero_add] at l1
 cases m : o.masked
 · have eb : oBody o = wPut [] o.value (fSize o.field) := by unfold oBody; rw [m]; rfl
   have en : oNum o = 2 * fID o.field := by unfold oNum; rw [m]; exact Int.mul_comm _ _
   rw [m] at hbl
   simp only [Bool.false_eq_true, if_false] at hbl
   have p2 := rputP_c b1 (2 * fID o.field) 1 (by unfold Sz; omega) (by omega)
   have l2 := putN_len b1 (2 * fID o.field) 1
   have p3 := rputP_c (putN b1 (2 * fID o.field) 1) (fSize o.field) 1 (by unfold Sz; omega) (by omega)
   have eh : oHead o = putN (putN b1 (2 * fID o.field) 1) (fSize o.field) 1 := by unfold oHead; rw [hbl, en, hb1]
   have l3 := putN_len (putN b1 (2 * fID o.field) 1) (fSize o.field) 1
   rw [← eh] at p3 l3
   have p4 := rwput_c (oHead o) o.value (fSize o.field) hsz (by omega)
   have e4 : wPut (oHead o) o.value (fSize o.field) = oHead o ++ oBody o := by rw [eb]; unfold wPut; simp
   rw [e4] at p4
   obtain ⟨b2, hb2⟩ : ∃ b2, b2 = putN b1 (2 * fID o.field) 1 := ⟨_, rfl⟩
   rw [← hb2] at p2 p3
   simp only [Wide.enc] at p4
   rw [m] at hr
   rw [e]
   refine FnT.intro Tryz.func155 rfl rfl fun G w => ?_
   repeat apply WK.s
   refine WK.G 100 Tryz.ntmps155 ?_
   intro A hA Q hQ
   simp [Oxm.enc, m]
   apply hQ
   clear hQ hA
   repeat apply WK.s
   refine WK.ghost (Ghost.frzVar 1 rfl rfl) ?_
   refine WK.G 200 Tryz.ntmps155 ?_
   intro A hA Q hQ
   simp
   refine RunQ.call rfl rfl rfl rfl (by rfl) (by simp (config := zd)) (hr) (by simp) ?_
   refine RunQ.eval ?_
   simp
   apply hQ
   clear hQ hA
   refine WK.c2 rfl (fun h => ?_) (fun h => ?_)
   · cases h
   repeat (first | apply WK.s | apply WK.k)
   refine WK.G 300 Tryz.ntmps155 ?_
   intro A hA Q hQ
   simp
   refine RunQ.call rfl rfl rfl rfl (by rfl) (by simp (config := zd)) (rfsize_c o.field) (by simp) ?_
   refine RunQ.eval ?_
   simp
   apply hQ
   clear hQ hA
   repeat apply WK.s
   refine WK.G 400 Tryz.ntmps155 ?_
   intro A hA Q hQ
   simp
   refine RunQ.call rfl rfl rfl rfl (by rfl) (by simp (config := zd) [w1]) (rfid_c o.field) (by simp [w1]) ?_
   refine RunQ.eval ?_
   simp [w1]
   apply hQ
   clear hQ hA
   repeat apply WK.s
   refine WK.G 500 Tryz.ntmps155 ?_
   intro A hA Q hQ
   simp
   apply hQ
   clear hQ hA
   refine WK.c2 rfl (fun h => ?_) (fun h => ?_)
   · repeat apply WK.s
     refine WK.G 600 Tryz.ntmps155 ?_
     intro A hA Q hQ
     simp
     refine RunQ.call rfl rfl rfl rfl (by rfl) (by simp (config := zd)) (p1) (by simp) ?_
     refine RunQ.eval ?_
     simp
     refine RunQ.call rfl rfl rfl rfl (by rfl) (by simp (config := zd)) (p2) (by simp) ?_
     refine RunQ.eval ?_
     simp
     refine RunQ.call rfl rfl rfl rfl (by rfl) (by simp (config := zd)) (p3) (by simp) ?_
     refine RunQ.eval ?_
     simp
     apply hQ
     clear hQ hA
     repeat apply WK.s
     refine WK.G 700 Tryz.ntmps155 ?_
     intro A hA Q hQ
     simp
     refine RunQ.callO 900 rfl rfl rfl (by simp) (by rfl) (by simp (config := zd)) (p4) (by simp) (by simp) (by simp) ?_
     refine RunQ.eval ?_
     simp
     apply hQ
     clear hQ hA
     refine WK.retT2 Tryz.func155 ?_ ?_ ?_ <;> simp (config := zd) [Tryz.results155, e]
   · cases h
 · have eb : oBody o = wPut (wPut [] o.value (fSize o.field)) o.mask (fSize o.field) := by unfold oBody; rw [m]; rfl
   have en : oNum o = 2 * fID o.field + 1 := by unfold oNum; rw [m]; show fID o.field * 2 + 1 = _; rw [Int.mul_comm]
   rw [m] at hbl
   simp only [if_true] at hbl
   have hbl' : (oBody o).length = 2 * fSize o.field := by omega
   have p2 := rputP_c b1 (2 * fID o.field + 1) 1 (by unfold Sz; omega) (by omega)
   have l2 := putN_len b1 (2 * fID o.field + 1) 1
   have p3 := rputP_c (putN b1 (2 * fID o.field + 1) 1) (2 * fSize o.field : Nat) 1 (by unfold Sz; omega) (by omega)
   have eh : oHead o = putN (putN b1 (2 * fID o.field + 1) 1) (2 * fSize o.field : Nat) 1 := by unfold oHead; rw [hbl', en, hb1]
   have l3 := putN_len (putN b1 (2 * fID o.field + 1) 1) (2 * fSize o.field : Nat) 1
   rw [← eh] at p3 l3
   have p4 := rwputP_c (oHead o) o.value (fSize o.field) hsz (by omega)
   have l4 := wPut_len (oHead o) o.value (fSize o.field) hsz
   have p5 := rwput_c (wPut (oHead o) o.value (fSize o.field)) o.mask (fSize o.field) hsz (by omega)
   have e5 : wPut (wPut (oHead o) o.value (fSize o.field)) o.mask (fSize o.field) = oHead o ++ oBody o := by rw [eb]; unfold wPut; simp
   rw [e5] at p5
   obtain ⟨b2, hb2⟩ : ∃ b2, b2 = putN b1 (2 * fID o.field + 1) 1 := ⟨_, rfl⟩
   rw [← hb2] at p2 p3
   obtain ⟨b4, hb4⟩ : ∃ b4, b4 = wPut (oHead o) o.value (fSize o.field) := ⟨_, rfl⟩
   rw [← hb4] at p4 p5
   simp only [Wide.enc] at p4 p5
   rw [m] at hr
   rw [e]
   refine FnT.intro Tryz.func155 rfl rfl fun G w => ?_
   repeat apply WK.s
   refine WK.G 100 Tryz.ntmps155 ?_
   intro A hA Q hQ
   simp [Oxm.enc, m]
   apply hQ
   clear hQ hA
   repeat apply WK.s
   refine WK.ghost (Ghost.frzVar 1 rfl rfl) ?_
   refine WK.G 200 Tryz.ntmps155 ?_
   intro A hA Q hQ
   simp
   refine RunQ.call rfl rfl rfl rfl (by rfl) (by simp (config := zd)) (hr) (by simp) ?_
   refine RunQ.eval ?_
   simp
   apply hQ
   clear hQ hA
   refine WK.c2 rfl (fun h => ?_) (fun h => ?_)
   · cases h
   repeat (first | apply WK.s | apply WK.k)
   refine WK.G 300 Tryz.ntmps155 ?_
   intro A hA Q hQ
   simp
   refine RunQ.call rfl rfl rfl rfl (by rfl) (by simp (config := zd)) (rfsize_c o.field) (by simp) ?_
   refine RunQ.eval ?_
   simp
   apply hQ
   clear hQ hA
   repeat apply WK.s
   refine WK.G 400 Tryz.ntmps155 ?_
   intro A hA Q hQ
   simp
   refine RunQ.call rfl rfl rfl rfl (by rfl) (by simp (config := zd) [w1]) (rfid_c o.field) (by simp [w1]) ?_
   refine RunQ.eval ?_
   simp [w1]
   apply hQ
   clear hQ hA
   repeat apply WK.s
   refine WK.G 500 Tryz.ntmps155 ?_
   intro A hA Q hQ
   simp
   apply hQ
   clear hQ hA
   refine WK.c2 rfl (fun h => ?_) (fun h => ?_)
   · cases h
   · repeat (first | apply WK.s | apply WK.k)
     refine WK.G 600 Tryz.ntmps155 ?_
     intro A hA Q hQ
     simp
     refine RunQ.call rfl rfl rfl rfl (by rfl) (by simp (config := zd) [w2]) (p1) (by simp [w2]) ?_
     refine RunQ.eval ?_
     simp [w2]
     refine RunQ.call rfl rfl rfl rfl (by rfl) (by simp (config := zd) [w3]) (p2) (by simp [w3]) ?_
     refine RunQ.eval ?_
     simp [w3]
     refine RunQ.call rfl rfl rfl rfl (by rfl) (by simp (config := zd)) (p3) (by simp) ?_
     refine RunQ.eval ?_
     simp
     apply hQ
     clear hQ hA
     repeat' (first | apply WK.s | (refine WK.X Tryz.ntmps155 ?_; intro A hA Q hQ; simp [*]) | (refine hQ.h _ _ _ (by decide +kernel) ?_; clear hQ hA) | (refine RunX.callO 900 rfl rfl rfl rfl ?_ (p5) ?_ ?_ ?_ ?_; (focus simp (config := zd) [*]; done); (focus simp [*]; done); (focus simp [*]; done); (focus simp [*]; done); refine RunX.e ?_; simp [*]) | (refine RunX.k rfl rfl rfl rfl ?_ (p4) ?_ ?_ <;> simp (config := zd) [*] <;> refine ⟨?_⟩) | (refine WK.retT2 Tryz.func155 ?_ ?_ ?_ <;> simp (config := zd) [Tryz.results155, *]))
theorem putN_ok {b : List (BitVec 8)} {n : Int} {s : Nat} (h : numOk n s = true) : (putN b n s).length = b.length + s := by
 unfold putN; rw [h, if_pos rfl, List.length_append, beN_len]
theorem right_cases {a : Action} (h : Action.right a = true) : (a.kind = 0 ∧ numOk a.port 4 = true ∧ numOk a.max 2 = true) ∨ (a.kind = 22 ∧ numOk a.group 4 = true) ∨ (a.kind = 17 ∧ numOk a.ether 2 = true) ∨
   a.kind = 18 ∨ (a.kind = 25 ∧ Oxm.right a.oxm = true) := by
 unfold Action.right Action.fine at h
 rw [Bool.and_eq_true] at h
 obtain ⟨h, _⟩ := h
 unfold aGoes aMost at h
 unfold numOk
 split at h
 · rename_i k; left
   simp only [Bool.and_eq_true, Bool.or_eq_true, decide_eq_true_eq, beq_iff_eq] at h ⊢
   refine ⟨k, ?_, ?_⟩ <;> omega
 split at h
 · rename_i k; right; left
   simp only [Bool.and_eq_true, Bool.or_eq_true, decide_eq_true_eq, beq_iff_eq] at h ⊢
   refine ⟨k, ?_⟩; omega
 split at h
 · rename_i k; right; right; left
   simp only [Bool.and_eq_true, Bool.or_eq_true, decide_eq_true_eq, beq_iff_eq] at h ⊢
   refine ⟨k, ?_⟩; omega
 split at h
 · rename_i k; exact .inr (.inr (.inr (.inl k)))
 split at h
 · rename_i k; right; right; right; right
   simp only [Bool.and_eq_true] at h
   exact ⟨k, h.1⟩
 · cases h
theorem oEnc_ge {o : Oxm} (h : Oxm.right o = true) : 5 ≤ (oEnc o).1.length := by
 have hf := right_field h
 have hs : 1 ≤ fSize o.field := by
   unfold fRight at hf
   rw [Bool.and_eq_true, decide_eq_true_eq, decide_eq_true_eq] at hf
   unfold fSize fBits fRow
   rw [if_pos ⟨hf.1, hf.2⟩]
   have hl : o.field.toNat < fRows.length := by show o.field.toNat < 24; omega
   have : ∀ r, r ∈ fRows → 2 ≤ r.2.1 := by decide
   have := this _ (nth_mem hl)
   omega
 have hid : 0 ≤ oNum o ∧ oNum o < 256 := by
   have hp : 0 ≤ fID o.field ∧ fID o.field ≤ 34 := by
     unfold fRight at hf
     rw [Bool.and_eq_true, decide_eq_true_eq, decide_eq_true_eq] at hf
     unfold fID fRow
     rw [if_pos ⟨hf.1, hf.2⟩]
     have hl : o.field.toNat < fRows.length := by show o.field.toNat < 24; omega
     have : ∀ r, r ∈ fRows → 0 ≤ r.1 ∧ r.1 ≤ 34 := by decide
     exact this _ (nth_mem hl)
   unfold oNum; split <;> omega
 have hbl := oBody_len o
 have h16 := fSize_le o.field
 have hb : (oBody o).length ≤ 32 ∧ 1 ≤ (oBody o).length := by rw [hbl]; split <;> omega
 have a1 : (putN [] 32768 2).length = 2 := putN_ok (b := []) (n := 32768) (s := 2) rfl
 have a2 : (putN (putN [] 32768 2) (oNum o) 1).length = 3 := by rw [putN_ok (by unfold numOk; simp; omega), a1]
 have a3 : (oHead o).length = 4 := by unfold oHead; rw [putN_ok (by unfold numOk; simp; omega), a2]
 unfold oEnc; rw [if_pos h]; simp only [List.length_append]; omega

theorem Sz4 : Sz 4 := .inr (.inr rfl)
theorem Sz2 : Sz 2 := .inr (.inl rfl)
theorem Sz1 : Sz 1 := .inl rfl
set_option maxHeartbeats 4000000 in
theorem raenc_c (a : Action) : FnT Tryz.prog 151 [.agg a.enc] (aEnc a).1.length 1 (byL (aEnc a).1) [.int .i64 (aEnc a).2] := by
 have hr := raright_c a
 cases k : Action.right a
 · have e : aEnc a = ([], 1) := by unfold aEnc; rw [k, if_neg Bool.false_ne_true]
   rw [k] at hr
   rw [e]
   refine FnT.intro Tryz.func151 rfl rfl fun G w => ?_
   repeat' (first | apply WK.s | refine WK.cT rfl ?_ | (apply hQ.h; clear hQ hA) | (refine WK.R Tryz.ntmps151 ?_; intro A hA Q hQ; simp [*]) | (refine RunQ.k rfl rfl rfl rfl rfl ?_ (hr) ?_ ?_ <;> simp (config := zd) [*] <;> refine ⟨?_⟩))
   refine WK.ghost (Ghost.own 2 900 1 rfl rfl) ?_
   refine WK.retT2 Tryz.func151 ?_ ?_ ?_ <;> simp (config := zd) [Tryz.results151, b0_]
 rw [k] at hr
 have hcs := right_cases k
 obtain ⟨kind, port, max, group, ether, oxm⟩ := a
 simp only at hcs
 rcases hcs with ⟨rfl, h1, h2⟩ | ⟨rfl, h1⟩ | ⟨rfl, h1⟩ | rfl | ⟨rfl, h1⟩
 · have l1 : (putN [] port 4).length = 4 := putN_ok h1
   have l2 : (putN (putN [] port 4) max 2).length = 6 := by rw [putN_ok h2, l1]
   have l3 : (putN [] 0 2).length = 2 := putN_ok (b := []) (n := 0) (s := 2) rfl
   have l4 : (putN (putN [] 0 2) 16 2).length = 4 := by rw [putN_ok rfl, l3]
   have e1 : aBody ⟨0, port, max, group, ether, oxm⟩ = putN (putN [] port 4) max 2 := rfl
   have e : aEnc ⟨0, port, max, group, ether, oxm⟩ = (putN (putN [] 0 2) 16 2 ++ (putN (putN [] port 4) max 2 ++ List.replicate 6 0#8), 0) := by
     unfold aEnc aPad; rw [k, if_pos rfl, e1, l2]; rfl
   have p1 := rputP_c [] port 4 Sz4 (by simp)
   have p2 := rput_c (putN [] port 4) max 2 Sz2 (by omega)
   have p3 := rputP_c [] 0 2 Sz2 (by simp)
   have p4 := rput_c (putN [] 0 2) 16 2 Sz2 (by omega)
   rw [show byS [] = .sl false 0 [] from rfl] at p1 p3
   have w1 : IntKind.i64.wrap 16 = 16 := rfl
   have z6 : byL (List.replicate 6 0#8) = [.int .u8 0, .int .u8 0, .int .u8 0, .int .u8 0, .int .u8 0, .int .u8 0] := rfl
   rw [e, byL_app, byL_app, z6]
   refine FnT.intro Tryz.func151 rfl rfl fun G w => ?_
   repeat' (first | apply WK.s | apply WK.b | apply WK.n | apply WK.k | refine WK.cT rfl ?_ | refine WK.cF rfl ?_ | (refine hQ.h _ _ ?_; clear hQ hA) | (refine WK.R Tryz.ntmps151 ?_; intro A hA Q hQ; simp [Action.enc, *]) | (refine WK.X Tryz.ntmps151 ?_; intro A hA Q hQ; simp [Action.enc, *]) | (refine hQ.h _ _ _ (by decide +kernel) ?_; clear hQ hA) | (refine RunQ.callO 900 rfl rfl rfl rfl rfl ?_ (p2) ?_ ?_ ?_ ?_; (focus simp (config := zd) [Action.enc, *]; done); (focus simp [Action.enc, *]; done); (focus simp [Action.enc, *]; done); (focus simp [Action.enc, *]; done); refine RunQ.evalH ?_; simp [Action.enc, *]) | (refine RunX.callO 900 rfl rfl rfl rfl ?_ (p2) ?_ ?_ ?_ ?_; (focus simp (config := zd) [Action.enc, *]; done); (focus simp [Action.enc, *]; done); (focus simp [Action.enc, *]; done); (focus simp [Action.enc, *]; done); refine RunX.e ?_; simp [Action.enc, *]) | (refine RunX.append 901 appByte rfl rfl rfl rfl rfl rfl rfl rfl ?_ ?_ ?_ ?_ ?_; (focus first | omega | simp [Action.enc, *]; done); (focus first | omega | simp [Action.enc, *]; done); (focus first | omega | simp [Action.enc, *]; done); (focus first | omega | simp [Action.enc, *]; done); refine RunX.e ?_; simp [Action.enc, *]) | (refine RunQ.callO 902 rfl rfl rfl rfl rfl ?_ (p4) ?_ ?_ ?_ ?_; (focus simp (config := zd) [Action.enc, *]; done); (focus simp [Action.enc, *]; done); (focus simp [Action.enc, *]; done); (focus simp [Action.enc, *]; done); refine RunQ.evalH ?_; simp [Action.enc, *]) | (refine RunX.callO 902 rfl rfl rfl rfl ?_ (p4) ?_ ?_ ?_ ?_; (focus simp (config := zd) [Action.enc, *]; done); (focus simp [Action.enc, *]; done); (focus simp [Action.enc, *]; done); (focus simp [Action.enc, *]; done); refine RunX.e ?_; simp [Action.enc, *]) | (refine RunQ.appendFz 903 appByte rfl rfl rfl rfl rfl rfl rfl rfl rfl rfl ?_ ?_ ?_ ?_ ?_ ?_; (focus first | omega | simp [Action.enc, *]; done); (focus first | omega | simp [Action.enc, *]; done); (focus first | omega | simp [Action.enc, *]; done); (focus simp [Action.enc, *]; done); (focus simp [Action.enc, *]; done); refine RunQ.evalH ?_; simp [Action.enc, *]) | (refine RunQ.k rfl rfl rfl rfl rfl ?_ (hr) ?_ ?_ <;> simp (config := zd) [Action.enc, *] <;> refine ⟨?_⟩) | (refine RunQ.k rfl rfl rfl rfl rfl ?_ (p1) ?_ ?_ <;> simp (config := zd) [Action.enc, *] <;> refine ⟨?_⟩) | (refine RunQ.k rfl rfl rfl rfl rfl ?_ (p3) ?_ ?_ <;> simp (config := zd) [Action.enc, *] <;> refine ⟨?_⟩) | (refine RunX.k rfl rfl rfl rfl ?_ (p1) ?_ ?_ <;> simp (config := zd) [Action.enc, *] <;> refine ⟨?_⟩) | (refine RunX.k rfl rfl rfl rfl ?_ (p3) ?_ ?_ <;> simp (config := zd) [Action.enc, *] <;> refine ⟨?_⟩) | (refine WK.retT2 Tryz.func151 ?_ ?_ ?_ <;> simp (config := zd) [Tryz.results151, Action.enc, *]))
 · have l1 : (putN [] group 4).length = 4 := putN_ok h1
   have l3 : (putN [] 22 2).length = 2 := putN_ok (b := []) (n := 22) (s := 2) rfl
   have l4 : (putN (putN [] 22 2) 8 2).length = 4 := by rw [putN_ok rfl, l3]
   have e1 : aBody ⟨22, port, max, group, ether, oxm⟩ = putN [] group 4 := rfl
   have e : aEnc ⟨22, port, max, group, ether, oxm⟩ = (putN (putN [] 22 2) 8 2 ++ (putN [] group 4), 0) := by
     unfold aEnc aPad; rw [k, if_pos rfl, e1, l1, show aLen 4 = 8 from rfl]; simp
   have p1 := rput_c [] group 4 Sz4 (by simp)
   have p3 := rputP_c [] 22 2 Sz2 (by simp)
   have p4 := rput_c (putN [] 22 2) 8 2 Sz2 (by omega)
   rw [show byS [] = .sl false 0 [] from rfl] at p1 p3
   have w1 : IntKind.i64.wrap 8 = 8 := rfl
   rw [e, byL_app]
   refine FnT.intro Tryz.func151 rfl rfl fun G w => ?_
   repeat' (first | apply WK.s | apply WK.b | apply WK.n | apply WK.k | refine WK.cT rfl ?_ | refine WK.cF rfl ?_ | (apply hQ.h; clear hQ hA) | (refine WK.R Tryz.ntmps151 ?_; intro A hA Q hQ; simp [Action.enc, *]) | (refine RunQ.callO 900 rfl rfl rfl rfl rfl ?_ (p1) ?_ ?_ ?_ ?_; (focus simp (config := zd) [Action.enc, *]; done); (focus simp [Action.enc, *]; done); (focus simp [Action.enc, *]; done); (focus simp [Action.enc, *]; done); refine RunQ.evalH ?_; simp [Action.enc, *]) | (refine RunQ.callO 902 rfl rfl rfl rfl rfl ?_ (p4) ?_ ?_ ?_ ?_; (focus simp (config := zd) [Action.enc, *]; done); (focus simp [Action.enc, *]; done); (focus simp [Action.enc, *]; done); (focus simp [Action.enc, *]; done); refine RunQ.evalH ?_; simp [Action.enc, *]) | (refine RunQ.appendFz 903 appByte rfl rfl rfl rfl rfl rfl rfl rfl rfl rfl ?_ ?_ ?_ ?_ ?_ ?_; (focus first | omega | simp [Action.enc, *]; done); (focus first | omega | simp [Action.enc, *]; done); (focus first | omega | simp [Action.enc, *]; done); (focus simp [Action.enc, *]; done); (focus simp [Action.enc, *]; done); refine RunQ.evalH ?_; simp [Action.enc, *]) | (refine RunQ.k rfl rfl rfl rfl rfl ?_ (hr) ?_ ?_ <;> simp (config := zd) [Action.enc, *] <;> refine ⟨?_⟩) | (refine RunQ.k rfl rfl rfl rfl rfl ?_ (p3) ?_ ?_ <;> simp (config := zd) [Action.enc, *] <;> refine ⟨?_⟩) | (refine WK.retT2 Tryz.func151 ?_ ?_ ?_ <;> simp (config := zd) [Tryz.results151, Action.enc, *]))
 · have l1 : (putN [] ether 2).length = 2 := putN_ok h1
   have l3 : (putN [] 17 2).length = 2 := putN_ok (b := []) (n := 17) (s := 2) rfl
   have l4 : (putN (putN [] 17 2) 8 2).length = 4 := by rw [putN_ok rfl, l3]
   have e1 : aBody ⟨17, port, max, group, ether, oxm⟩ = putN [] ether 2 := rfl
   have e : aEnc ⟨17, port, max, group, ether, oxm⟩ = (putN (putN [] 17 2) 8 2 ++ (putN [] ether 2 ++ List.replicate 2 0#8), 0) := by
     unfold aEnc aPad; rw [k, if_pos rfl, e1, l1]; rfl
   have p1 := rput_c [] ether 2 Sz2 (by simp)
   have p3 := rputP_c [] 17 2 Sz2 (by simp)
   have p4 := rput_c (putN [] 17 2) 8 2 Sz2 (by omega)
   rw [show byS [] = .sl false 0 [] from rfl] at p1 p3
   have w1 : IntKind.i64.wrap 8 = 8 := rfl
   have z6 : byL (List.replicate 2 0#8) = [.int .u8 0, .int .u8 0] := rfl
   rw [e, byL_app, byL_app, z6]
   refine FnT.intro Tryz.func151 rfl rfl fun G w => ?_
   repeat' (first | apply WK.s | apply WK.b | apply WK.n | apply WK.k | refine WK.cT rfl ?_ | refine WK.cF rfl ?_ | (apply hQ.h; clear hQ hA) | (refine WK.R Tryz.ntmps151 ?_; intro A hA Q hQ; simp [Action.enc, *]) | (refine RunQ.callO 900 rfl rfl rfl rfl rfl ?_ (p1) ?_ ?_ ?_ ?_; (focus simp (config := zd) [Action.enc, *]; done); (focus simp [Action.enc, *]; done); (focus simp [Action.enc, *]; done); (focus simp [Action.enc, *]; done); refine RunQ.evalH ?_; simp [Action.enc, *]) | (refine RunQ.append 901 appByte rfl rfl rfl rfl rfl rfl rfl rfl rfl ?_ ?_ ?_ ?_ ?_; (focus first | omega | simp [Action.enc, *]; done); (focus first | omega | simp [Action.enc, *]; done); (focus first | omega | simp [Action.enc, *]; done); (focus first | omega | simp [Action.enc, *]; done); refine RunQ.evalH ?_; simp [Action.enc, *]) | (refine RunQ.callO 902 rfl rfl rfl rfl rfl ?_ (p4) ?_ ?_ ?_ ?_; (focus simp (config := zd) [Action.enc, *]; done); (focus simp [Action.enc, *]; done); (focus simp [Action.enc, *]; done); (focus simp [Action.enc, *]; done); refine RunQ.evalH ?_; simp [Action.enc, *]) | (refine RunQ.appendFz 903 appByte rfl rfl rfl rfl rfl rfl rfl rfl rfl rfl ?_ ?_ ?_ ?_ ?_ ?_; (focus first | omega | simp [Action.enc, *]; done); (focus first | omega | simp [Action.enc, *]; done); (focus first | omega | simp [Action.enc, *]; done); (focus simp [Action.enc, *]; done); (focus simp [Action.enc, *]; done); refine RunQ.evalH ?_; simp [Action.enc, *]) | (refine RunQ.k rfl rfl rfl rfl rfl ?_ (hr) ?_ ?_ <;> simp (config := zd) [Action.enc, *] <;> refine ⟨?_⟩) | (refine RunQ.k rfl rfl rfl rfl rfl ?_ (p3) ?_ ?_ <;> simp (config := zd) [Action.enc, *] <;> refine ⟨?_⟩) | (refine WK.retT2 Tryz.func151 ?_ ?_ ?_ <;> simp (config := zd) [Tryz.results151, Action.enc, *]))
 · have l3 : (putN [] 18 2).length = 2 := putN_ok (b := []) (n := 18) (s := 2) rfl
   have l4 : (putN (putN [] 18 2) 8 2).length = 4 := by rw [putN_ok rfl, l3]
   have e1 : aBody ⟨18, port, max, group, ether, oxm⟩ = [] := rfl
   have e : aEnc ⟨18, port, max, group, ether, oxm⟩ = (putN (putN [] 18 2) 8 2 ++ List.replicate 4 0#8, 0) := by
     unfold aEnc aPad; rw [k, if_pos rfl, e1]; rfl
   have p3 := rputP_c [] 18 2 Sz2 (by simp)
   have p4 := rput_c (putN [] 18 2) 8 2 Sz2 (by omega)
   rw [show byS [] = .sl false 0 [] from rfl] at p3
   have w1 : IntKind.i64.wrap 8 = 8 := rfl
   have z6 : byL (List.replicate 4 0#8) = [.int .u8 0, .int .u8 0, .int .u8 0, .int .u8 0] := rfl
   rw [e, byL_app, z6]
   refine FnT.intro Tryz.func151 rfl rfl fun G w => ?_
   repeat' (first | apply WK.s | apply WK.b | apply WK.n | apply WK.k | refine WK.cT rfl ?_ | refine WK.cF rfl ?_ | (apply hQ.h; clear hQ hA) | (refine WK.R Tryz.ntmps151 ?_; intro A hA Q hQ; simp [Action.enc, *]) | (refine RunQ.callO 902 rfl rfl rfl rfl rfl ?_ (p4) ?_ ?_ ?_ ?_; (focus simp (config := zd) [Action.enc, *]; done); (focus simp [Action.enc, *]; done); (focus simp [Action.enc, *]; done); (focus simp [Action.enc, *]; done); refine RunQ.evalH ?_; simp [Action.enc, *]) | (refine RunQ.append 903 appByte rfl rfl rfl rfl rfl rfl rfl rfl rfl ?_ ?_ ?_ ?_ ?_; (focus first | omega | simp [Action.enc, *]; done); (focus first | omega | simp [Action.enc, *]; done); (focus first | omega | simp [Action.enc, *]; done); (focus first | omega | simp [Action.enc, *]; done); refine RunQ.evalH ?_; simp [Action.enc, *]) | (refine RunQ.k rfl rfl rfl rfl rfl ?_ (hr) ?_ ?_ <;> simp (config := zd) [Action.enc, *] <;> refine ⟨?_⟩) | (refine RunQ.k rfl rfl rfl rfl rfl ?_ (p3) ?_ ?_ <;> simp (config := zd) [Action.enc, *] <;> refine ⟨?_⟩) | (refine WK.retT2 Tryz.func151 ?_ ?_ ?_ <;> simp (config := zd) [Tryz.results151, Action.enc, *]))
 · have e1 : aBody ⟨25, port, max, group, ether, oxm⟩ = (oEnc oxm).1 := rfl
   have p1 := roencT_c oxm
   have hge := oEnc_ge h1
   have hle := oEnc_len oxm
   have hpl := aPad_len ⟨25, port, max, group, ether, oxm⟩
   have e : aEnc ⟨25, port, max, group, ether, oxm⟩ = (putN (putN [] 25 2) (aLen (oEnc oxm).1.length : Nat) 2 ++ ((oEnc oxm).1 ++ List.replicate (aLen (oEnc oxm).1.length - 4 - (oEnc oxm).1.length) 0#8), 0) := by
     unfold aEnc aPad; rw [k, if_pos rfl, e1]
   obtain ⟨B, hB⟩ : ∃ B, (oEnc oxm).1 = B := ⟨_, rfl⟩
   rw [hB] at e hge hle p1
   have hlen : aLen B.length = (4 + B.length + 7) / 8 * 8 := by unfold aLen; split <;> omega
   obtain ⟨m, hm⟩ : ∃ m, aLen B.length - 4 - B.length = m := ⟨_, rfl⟩
   rw [hm] at e
   have hlt : m < 8 := by omega
   have hal : aLen B.length = 4 + (B.length + m) := by omega
   rw [hal] at e
   have p3 := rputP_c [] 25 2 Sz2 (by simp)
   have l3 : (putN [] 25 2).length = 2 := putN_ok (b := []) (n := 25) (s := 2) rfl
   have p4 := rput_c (putN [] 25 2) (4 + (B.length + m) : Nat) 2 Sz2 (by omega)
   have l4 := putN_len (putN [] 25 2) (4 + (B.length + m) : Nat) 2
   rw [l3] at l4
   rw [show byS [] = .sl false 0 [] from rfl] at p3
   rw [e, byL_app]
   simp only [Oxm.enc] at p1
   refine FnT.intro Tryz.func151 rfl rfl fun G w => ?_
   repeat' (first | apply WK.s | apply WK.b | apply WK.k | refine WK.cT rfl ?_ | refine WK.cF rfl ?_ | (apply hQ.h; clear hQ hA) | (refine WK.R Tryz.ntmps151 ?_; intro A hA Q hQ; simp [Action.enc, *]) | (refine RunQ.callT 900 rfl rfl rfl rfl rfl ?_ (p1) ?_ ?_ ?_ ?_ ?_; (focus simp (config := zd) [Action.enc, *]; done); (focus simp [Action.enc, *]; done); (focus simp [Action.enc, *]; done); (focus simp [Action.enc, *]; done); (focus simp [Action.enc, *]; done); refine RunQ.evalH ?_; simp [Action.enc, *]) | (refine RunQ.k rfl rfl rfl rfl rfl ?_ (hr) ?_ ?_ <;> simp (config := zd) [Action.enc, *] <;> refine ⟨?_⟩))
   refine WK.L (fun n => if n = 1 then 900 else n) (fun t : Nat => (⟨(upd (upd (upd (upd J 1 (.ptr 0 0)) 2 (.sl true 0 [])) 3 (.int .i64 0)) 4 (.msl 1 0 (B.length + t))), (upd (upd B0 0 (.var (Action.enc ⟨25, port, max, group, ether, oxm⟩))) 1 (.buf 1 (byL (B ++ List.replicate t 0#8)))), 0⟩ : St)) (fun t => t ≤ m) (fun t => m - t) (0) (by repeat (first | exact TmW.nil | refine TmW.upd ?_ (by simp (config := zd) [Action.enc]))) (by repeat (first | exact BxW.nil | refine BxW.upd ?_ (by simp (config := zd) [Action.enc]))) (Nat.zero_le _) (fun t ht IHt => ?_)
   by_cases hp : t < m
   · have h8 : ¬ (B.length + t) % 8 = 4 := by omega
     have hx : (((B.length + t : Nat) : Int).tmod 8 == 4) = false := by rw [beq_eq_false_iff_ne, Int.tmod_eq_emod_of_nonneg (by omega)]; omega
     obtain ⟨x, hx0⟩ : ∃ x, B.length + t = x := ⟨_, rfl⟩
     have hs' : byL (B ++ List.replicate t 0#8) ++ [.int .u8 0] = byL (B ++ List.replicate (t + 1) 0#8) := by
       rw [List.replicate_succ', ← List.append_assoc, byL_app (B ++ _)]; rfl
     have hl' : (byL (B ++ List.replicate t 0#8)).length = x := by simp [hx0]
     have hx1 : x + 1 ≤ 1000000 := by omega
     have hx2 : B.length + (t + 1) = x + 1 := by omega
     simp only [hx0] at hx ⊢
     clear hr p1 p3 p4 hx0 hB
     repeat' (first | apply WK.s | apply WK.b | apply WK.n | apply WK.k | refine WK.cT rfl ?_ | (apply hQ.h; clear hQ hA) | (refine WK.R Tryz.ntmps151 ?_; intro A hA Q hQ; simp [bne, *]) | (refine RunQ.append 902 appByte rfl rfl rfl rfl rfl rfl rfl rfl rfl ?_ ?_ ?_ ?_ ?_; (focus first | omega | simp [bne, *]; done); (focus first | omega | simp [bne, *]; done); (focus first | omega | simp [bne, *]; done); (focus first | omega | simp [bne, *]; done); refine RunQ.evalH ?_; simp [bne, *]))
     refine WK.N (fun n => if n = 1 then 902 else n) (IHt (t + 1) (by omega) (by first | omega | (dsimp only; omega))) (by repeat (first | exact TmW.nil | refine TmW.upd ?_ (by simp (config := zd) [hs', hx2, Action.enc]))) (by repeat (first | exact BxW.nil | refine BxW.upd ?_ (by simp (config := zd) [hs', hx2, Action.enc])))
   · have ht : t = m := by omega
     subst ht
     have hx : (((B.length + t : Nat) : Int).tmod 8 == 4) = true := by rw [beq_iff_eq, Int.tmod_eq_emod_of_nonneg (by omega)]; omega
     obtain ⟨D, hD⟩ : ∃ D, B ++ List.replicate t 0#8 = D := ⟨_, rfl⟩
     have hDl : D.length = B.length + t := by rw [← hD]; simp
     obtain ⟨x, hx0⟩ : ∃ x, B.length + t = x := ⟨_, rfl⟩
     rw [hx0] at hDl p4 hx
     have w1 : IntKind.i64.wrap (4 + (x : Int)) = ((4 + x : Nat) : Int) := by rw [wrap_i64 (by omega) (by omega)]; omega
     obtain ⟨y, hy⟩ : ∃ y, 4 + x = y := ⟨_, rfl⟩
     have hb1 : ∀ z, (putN (putN [] 25 2) z 2).length ≤ 4 := fun z => by have := putN_len (putN [] 25 2) z 2; omega
     have hb2 : (putN (putN [] 25 2) (y : Int) 2).length + x ≤ 1000000 := by have := hb1 y; omega
     simp only [hx0, hD]
     rw [hy] at p4 w1 ⊢
     clear hr p1 IHt hx0 hB e hm hlen hpl hal hy hD hp l4
     repeat' (first | apply WK.s | apply WK.n | refine WK.exit rfl ?_ | refine WK.cF rfl ?_ | (apply hQ.h; clear hQ hA) | (refine WK.R Tryz.ntmps151 ?_; intro A hA Q hQ; simp [bne, Action.enc, *]) | (refine RunQ.callO 903 rfl rfl rfl rfl rfl ?_ (p4) ?_ ?_ ?_ ?_; (focus simp (config := zd) [bne, Action.enc, *]; done); (focus simp [bne, Action.enc, *]; done); (focus simp [bne, Action.enc, *]; done); (focus simp [bne, Action.enc, *]; done); refine RunQ.evalH ?_; simp [bne, Action.enc, *]) | (refine RunQ.appendFz 904 appByte rfl rfl rfl rfl rfl rfl rfl rfl rfl rfl ?_ ?_ ?_ ?_ ?_ ?_; (focus first | omega | simp [bne, Action.enc, *]; done); (focus first | omega | simp [bne, Action.enc, *]; done); (focus first | omega | simp [bne, Action.enc, *]; done); (focus simp [bne, Action.enc, *]; done); (focus simp [bne, Action.enc, *]; done); refine RunQ.evalH ?_; simp [bne, Action.enc, *]) | (refine RunQ.k rfl rfl rfl rfl rfl ?_ (p3) ?_ ?_ <;> simp (config := zd) [bne, Action.enc, *] <;> refine ⟨?_⟩) | (refine WK.retT2 Tryz.func151 ?_ ?_ ?_ <;> simp (config := zd) [Tryz.results151, bne, Action.enc, *]))

theorem aencP_c (a : Action) : FnP Tryz.prog 122 [.agg a.enc] (.tup [byS (aEnc a).1, .int .i64 (aEnc a).2]) := by
 have h := (aenc_c a).toP (by simp [byL_take]) (by rfl)
 rwa [Nat.mul_one, by_full _ _ rfl] at h
theorem raencP_c (a : Action) : FnP Tryz.prog 151 [.agg a.enc] (.tup [byS (aEnc a).1, .int .i64 (aEnc a).2]) := by
 have h := (raenc_c a).toP (by simp [byL_take]) (by rfl)
 rwa [Nat.mul_one, by_full _ _ rfl] at h
theorem aEnc_len (a : Action) : (aEnc a).1.length ≤ 60 := by
 unfold aEnc
 split
 · have h1 := aPad_len a
   have h2 := aLen_le _ (aBody_len a)
   have l1 := putN_len [] a.kind 2
   have l2 := putN_len (putN [] a.kind 2) (aLen (aBody a).length : Nat) 2
   simp only [List.length_append, List.length_nil] at l1 ⊢
   omega
 · simp
end Go.Proofs.YtmhapglejjehbaaGreat

namespace Go.Proofs.YtmhapglejjehbaaGreat
open Go Go.AI Go.Proofs
theorem numOk_iff (n : Int) (s : Nat) : numOk n s = true ↔ 0 ≤ n ∧ n < 256 ^ s := by unfold numOk; simp
theorem beN_at {n : Int} {s i : Nat} (h : i < (beN n s).length) : (beN n s)[i] = BitVec.ofInt 8 (n / 2 ^ (8 * (s - 1 - i))) := by simp [beN]
theorem beN_drop (n : Int) (s t : Nat) (h : s ≤ t) : (beN n t).drop (t - s) = beN n s := by
 refine List.ext_getElem (by simp [beN_len]; omega) fun i h1 h2 => ?_
 rw [beN_len] at h2
 rw [List.getElem_drop, beN_at, beN_at, show t - 1 - (t - s + i) = s - 1 - i by omega]
def wN (a : Wide) : Nat := a.hi.toNat * 18446744073709551616 + a.lo.toNat
theorem hb_toNat (x : BitVec 64) (k : Nat) : (hb x k).toNat = x.toNat / 2 ^ k % 256 := by
 unfold hb; rw [BitVec.toNat_setWidth, BitVec.toNat_ushiftRight, Nat.shiftRight_eq_div_pow]
theorem wBytes_beN (a : Wide) : wBytes a = beN (wN a) 16 := by
 have h1 := a.hi.isLt; have h2 := a.lo.isLt
 unfold wBytes beN
 refine List.map_congr_left fun j hj => ?_
 rw [List.mem_range] at hj
 apply BitVec.eq_of_toNat_eq
 rw [BitVec.toNat_ofInt]
 have h16 : j = 0 ∨ j = 1 ∨ j = 2 ∨ j = 3 ∨ j = 4 ∨ j = 5 ∨ j = 6 ∨ j = 7 ∨ j = 8 ∨ j = 9 ∨ j = 10 ∨ j = 11 ∨ j = 12 ∨ j = 13 ∨ j = 14 ∨ j = 15 := by omega
 unfold wN
 rcases h16 with rfl | rfl | rfl | rfl | rfl | rfl | rfl | rfl | rfl | rfl | rfl | rfl | rfl | rfl | rfl | rfl <;>
 · simp only [Nat.reduceLT, if_true, if_false, Nat.reduceMul, Nat.reduceSub, hb_toNat, Nat.reducePow, Int.reducePow]
   omega
theorem wPut_beN (b : List (BitVec 8)) (a : Wide) (s : Nat) (h : s ≤ 16) : wPut b a s = b ++ beN (wN a) s := by
 unfold wPut; rw [wBytes_beN, beN_drop _ s 16 h]

theorem putN_beN {b : List (BitVec 8)} {n : Int} {s : Nat} (h : numOk n s = true) : putN b n s = b ++ beN n s := by unfold putN; rw [h, if_pos rfl]
theorem numOk2 {n : Nat} (h : n < 65536) : numOk (n : Int) 2 = true := by rw [numOk_iff]; exact ⟨by omega, by show (n : Int) < 65536; omega⟩
end Go.Proofs.YtmhapglejjehbaaGreat

namespace Go.Proofs.YtmhapglejjehbaaGreat
open Go Go.AI Go.Proofs
attribute [local irreducible] FnP FnO FnB FnT WK RunQ RunQW RunX RunXW
def acFlat (l : List Action) : List (BitVec 8) := l.flatMap fun a => (aEnc a).1
def acEnc (l : List Action) : List (BitVec 8) × Int := if 100 < l.length then ([], 1) else if l.all Action.right = true then (acFlat l, 0) else ([], 1)
theorem acFlat_len (l : List Action) : (acFlat l).length ≤ l.length * 60 := by
 induction l with
 | nil => simp [acFlat]
 | cons a l ih =>
   have := aEnc_len a
   simp only [acFlat, List.flatMap_cons, List.length_append, List.length_cons] at ih ⊢
   omega
theorem acFlat_succ {l : List Action} {i : Nat} (h : i < l.length) : acFlat (l.take (i + 1)) = acFlat (l.take i) ++ (aEnc (nth l i)).1 := by
 unfold acFlat; rw [take_nth h, List.flatMap_append]; simp
theorem aEnc_code (a : Action) : (aEnc a).2 = if Action.right a = true then 0 else 1 := by unfold aEnc; split <;> rfl
theorem all_false_of {l : List Action} {i : Nat} {p : Action → Bool} (h : i < l.length) (hp : p (nth l i) = false) : l.all p = false := by
 rw [List.all_eq_false]; exact ⟨nth l i, nth_mem h, by rw [hp]; exact Bool.false_ne_true⟩
theorem all_true_of {l : List Action} {p : Action → Bool} (h : ∀ j, j < l.length → p (nth l j) = true) : l.all p = true := by
 rw [List.all_eq_true]; intro x hx
 obtain ⟨j, hj, rfl⟩ := mem_nth hx
 exact h j hj
theorem act_load (l : List Action) (i : Nat) (h : i < l.length) : ((actL l).drop (i * 11)).take 11 = (nth l i).enc ∧ 11 ≤ l.length * 11 - i * 11 := ⟨act_sub l i h, by omega⟩
set_option maxHeartbeats 4000000 in
theorem acenc_c (l : List Action) (hl : l.length ≤ 1000000) : FnT Tryz.prog 67 [actS l] (acEnc l).1.length 1 (byL (acEnc l).1) [.int .i64 (acEnc l).2] := by
 unfold actS
 by_cases h100 : 100 < l.length
 · have e : acEnc l = ([], 1) := by unfold acEnc; rw [if_pos h100]
   have j : (100 : Int) < l.length := by omega
   rw [e]
   refine FnT.intro Tryz.func67 rfl rfl fun G w => ?_
   repeat' (first | apply WK.s | refine WK.cT rfl ?_ | (apply hQ.h; clear hQ hA) | (refine WK.R Tryz.ntmps67 ?_; intro A hA Q hQ; simp [*]))
   refine WK.ghost (Ghost.own 2 900 1 rfl rfl) ?_
   refine WK.retT2 Tryz.func67 ?_ ?_ ?_ <;> simp (config := zd) [Tryz.results67, b0_]
 have j : ¬ (100 : Int) < l.length := by omega
 have hdef : acEnc l = if l.all Action.right = true then (acFlat l, 0) else ([], 1) := by unfold acEnc; rw [if_neg h100]
 refine FnT.intro Tryz.func67 rfl rfl fun G w => ?_
 repeat' (first | apply WK.s | apply WK.b | apply WK.k | refine WK.cF rfl ?_ | (apply hQ.h; clear hQ hA) | (refine WK.R Tryz.ntmps67 ?_; intro A hA Q hQ; simp [*]))
 refine WK.ghost (Ghost.own 4 900 1 rfl rfl) ?_
 refine WK.L (fun n => if n = 1 then 900 else n) (fun i : Nat => (⟨(upd (upd (upd (upd (upd (upd (upd J 0 (.sl false l.length (actL l))) 2 (.sl true 0 [])) 3 (.int .i64 0)) 4 (.msl 1 0 (acFlat (l.take i)).length)) 12 (.sl false l.length (actL l))) 13 (.int .i64 l.length)) 14 (.int .i64 i)), (upd B0 1 (.buf 1 (byL (acFlat (l.take i))))), 0⟩ : St)) (fun i => i ≤ l.length ∧ ∀ j, j < i → Action.right (nth l j) = true) (fun i => l.length - i) (0) (by repeat (first | exact TmW.nil | refine TmW.upd ?_ (by simp (config := zd) [acFlat, b0_]))) (by repeat (first | exact BxW.nil | refine BxW.upd ?_ (by simp (config := zd) [acFlat, b0_]))) (⟨by omega, by simp⟩) (fun i hi IH => ?_)
 have hfl := acFlat_len (l.take i)
 have htl : (l.take i).length ≤ 100 := by rw [List.length_take]; omega
 by_cases h1 : i < l.length
 · obtain ⟨h4, h3⟩ := act_load l i h1
   have h6 : IntKind.i64.wrap ((i : Int) + 1) = i + 1 := wrap_i64 (by omega) (by omega)
   have hc := aencP_c (nth l i)
   have hcd := aEnc_code (nth l i)
   have hel := aEnc_len (nth l i)
   rw [hcd] at hc
   cases hr : Action.right (nth l i)
   · have e : acEnc l = ([], 1) := by rw [hdef, if_neg (by rw [all_false_of h1 hr]; exact Bool.false_ne_true)]
     rw [hr] at hc
     rw [e]
     repeat' (first | apply WK.s | apply WK.b | apply WK.k | refine WK.cT rfl ?_ | (apply hQ.h; clear hQ hA) | (refine WK.R Tryz.ntmps67 ?_; intro A hA Q hQ; simp [bne, *]) | (refine RunQ.k rfl rfl rfl rfl rfl ?_ (hc) ?_ ?_ <;> simp (config := zd) [bne, *] <;> refine ⟨?_⟩))
     refine WK.ghost (Ghost.own 2 901 1 rfl rfl) ?_
     refine WK.retT2 Tryz.func67 ?_ ?_ ?_ <;> simp (config := zd) [Tryz.results67, b0_]
   · rw [hr] at hc
     have hs := acFlat_succ h1
     obtain ⟨F, hF⟩ : ∃ F, acFlat (l.take i) = F := ⟨_, rfl⟩
     obtain ⟨E, hE⟩ : ∃ E, (aEnc (nth l i)).1 = E := ⟨_, rfl⟩
     rw [hF] at hs hfl ⊢
     rw [hE] at hs hc hel
     have hbd : F.length + E.length ≤ 1000000 := by omega
     have hfull := by_full E E.length rfl
     unfold byS at hc
     clear hE hF
     repeat' (first | apply WK.s | apply WK.b | apply WK.n | apply WK.k | refine WK.cT rfl ?_ | refine WK.cF rfl ?_ | (apply hQ.h; clear hQ hA) | (refine WK.R Tryz.ntmps67 ?_; intro A hA Q hQ; simp [bne, *]) | (refine RunQ.append 902 appByte rfl rfl rfl rfl rfl rfl rfl rfl rfl ?_ ?_ ?_ ?_ ?_; (focus first | omega | simp [bne, *]; done); (focus first | omega | simp [bne, *]; done); (focus first | omega | simp [bne, *]; done); (focus first | omega | simp [bne, *]; done); refine RunQ.evalH ?_; simp [bne, *]) | (refine RunQ.k rfl rfl rfl rfl rfl ?_ (hc) ?_ ?_ <;> simp (config := zd) [bne, *] <;> refine ⟨?_⟩))
     refine WK.N (fun n => if n = 1 then 902 else n) (IH (i + 1) (⟨by omega, fun j hj => by by_cases h7 : j = i; (subst h7; exact hr); exact hi.2 j (by omega)⟩) (by first | omega | (dsimp only; omega))) (by repeat (first | exact TmW.nil | refine TmW.upd ?_ (by simp (config := zd) [hs, byL_app]))) (by repeat (first | exact BxW.nil | refine BxW.upd ?_ (by simp (config := zd) [hs, byL_app])))
 · have e : acEnc l = (acFlat l, 0) := by rw [hdef, if_pos (all_true_of fun j hj => hi.2 j (by omega))]
   have hT : l.take i = l := List.take_of_length_le (by omega)
   rw [e, hT]
   repeat' (first | apply WK.s | refine WK.exit rfl ?_ | refine WK.cF rfl ?_ | (apply hQ.h; clear hQ hA) | (refine WK.R Tryz.ntmps67 ?_; intro A hA Q hQ; simp [*]) | (refine WK.retT2 Tryz.func67 ?_ ?_ ?_ <;> simp (config := zd) [Tryz.results67, *]))

set_option maxHeartbeats 4000000 in
theorem racenc_c (l : List Action) (hl : l.length ≤ 1000000) : FnT Tryz.prog 93 [actS l] (acEnc l).1.length 1 (byL (acEnc l).1) [.int .i64 (acEnc l).2] := by
 unfold actS
 by_cases h100 : 100 < l.length
 · have e : acEnc l = ([], 1) := by unfold acEnc; rw [if_pos h100]
   have j : (100 : Int) < l.length := by omega
   rw [e]
   refine FnT.intro Tryz.func93 rfl rfl fun G w => ?_
   repeat' (first | apply WK.s | refine WK.cT rfl ?_ | (apply hQ.h; clear hQ hA) | (refine WK.R Tryz.ntmps93 ?_; intro A hA Q hQ; simp [*]))
   refine WK.ghost (Ghost.own 2 900 1 rfl rfl) ?_
   refine WK.retT2 Tryz.func93 ?_ ?_ ?_ <;> simp (config := zd) [Tryz.results93, b0_]
 have j : ¬ (100 : Int) < l.length := by omega
 have hdef : acEnc l = if l.all Action.right = true then (acFlat l, 0) else ([], 1) := by unfold acEnc; rw [if_neg h100]
 refine FnT.intro Tryz.func93 rfl rfl fun G w => ?_
 repeat' (first | apply WK.s | apply WK.b | apply WK.k | refine WK.cF rfl ?_ | (apply hQ.h; clear hQ hA) | (refine WK.R Tryz.ntmps93 ?_; intro A hA Q hQ; simp [*]))
 refine WK.ghost (Ghost.own 4 900 1 rfl rfl) ?_
 refine WK.L (fun n => if n = 1 then 900 else n) (fun i : Nat => (⟨(upd (upd (upd (upd (upd J 0 (.sl false l.length (actL l))) 2 (.sl true 0 [])) 3 (.int .i64 0)) 4 (.msl 1 0 (acFlat (l.take i)).length)) 5 (.int .i64 i)), (upd B0 1 (.buf 1 (byL (acFlat (l.take i))))), 0⟩ : St)) (fun i => i ≤ l.length ∧ ∀ j, j < i → Action.right (nth l j) = true) (fun i => l.length - i) (0) (by repeat (first | exact TmW.nil | refine TmW.upd ?_ (by simp (config := zd) [acFlat, b0_]))) (by repeat (first | exact BxW.nil | refine BxW.upd ?_ (by simp (config := zd) [acFlat, b0_]))) (⟨by omega, by simp⟩) (fun i hi IH => ?_)
 have hfl := acFlat_len (l.take i)
 have htl : (l.take i).length ≤ 100 := by rw [List.length_take]; omega
 by_cases h1 : i < l.length
 · obtain ⟨h4, h3⟩ := act_load l i h1
   have h6 : IntKind.i64.wrap ((i : Int) + 1) = i + 1 := wrap_i64 (by omega) (by omega)
   have hc := raencP_c (nth l i)
   have hcd := aEnc_code (nth l i)
   have hel := aEnc_len (nth l i)
   rw [hcd] at hc
   cases hr : Action.right (nth l i)
   · have e : acEnc l = ([], 1) := by rw [hdef, if_neg (by rw [all_false_of h1 hr]; exact Bool.false_ne_true)]
     rw [hr] at hc
     rw [e]
     repeat' (first | apply WK.s | apply WK.b | apply WK.k | refine WK.cT rfl ?_ | (apply hQ.h; clear hQ hA) | (refine WK.R Tryz.ntmps93 ?_; intro A hA Q hQ; simp [bne, *]) | (refine RunQ.k rfl rfl rfl rfl rfl ?_ (hc) ?_ ?_ <;> simp (config := zd) [bne, *] <;> refine ⟨?_⟩))
     refine WK.ghost (Ghost.own 2 901 1 rfl rfl) ?_
     refine WK.retT2 Tryz.func93 ?_ ?_ ?_ <;> simp (config := zd) [Tryz.results93, b0_]
   · rw [hr] at hc
     have hs := acFlat_succ h1
     obtain ⟨F, hF⟩ : ∃ F, acFlat (l.take i) = F := ⟨_, rfl⟩
     obtain ⟨E, hE⟩ : ∃ E, (aEnc (nth l i)).1 = E := ⟨_, rfl⟩
     rw [hF] at hs hfl ⊢
     rw [hE] at hs hc hel
     have hbd : F.length + E.length ≤ 1000000 := by omega
     have hfull := by_full E E.length rfl
     unfold byS at hc
     clear hE hF
     repeat' (first | apply WK.s | apply WK.b | apply WK.n | apply WK.k | refine WK.cT rfl ?_ | refine WK.cF rfl ?_ | (apply hQ.h; clear hQ hA) | (refine WK.R Tryz.ntmps93 ?_; intro A hA Q hQ; simp [bne, *]) | (refine RunQ.append 902 appByte rfl rfl rfl rfl rfl rfl rfl rfl rfl ?_ ?_ ?_ ?_ ?_; (focus first | omega | simp [bne, *]; done); (focus first | omega | simp [bne, *]; done); (focus first | omega | simp [bne, *]; done); (focus first | omega | simp [bne, *]; done); refine RunQ.evalH ?_; simp [bne, *]) | (refine RunQ.k rfl rfl rfl rfl rfl ?_ (hc) ?_ ?_ <;> simp (config := zd) [bne, *] <;> refine ⟨?_⟩))
     refine WK.N (fun n => if n = 1 then 902 else n) (IH (i + 1) (⟨by omega, fun j hj => by by_cases h7 : j = i; (subst h7; exact hr); exact hi.2 j (by omega)⟩) (by first | omega | (dsimp only; omega))) (by repeat (first | exact TmW.nil | refine TmW.upd ?_ (by simp (config := zd) [hs, byL_app]))) (by repeat (first | exact BxW.nil | refine BxW.upd ?_ (by simp (config := zd) [hs, byL_app])))
 · have e : acEnc l = (acFlat l, 0) := by rw [hdef, if_pos (all_true_of fun j hj => hi.2 j (by omega))]
   have hT : l.take i = l := List.take_of_length_le (by omega)
   rw [e, hT]
   repeat' (first | apply WK.s | refine WK.exit rfl ?_ | refine WK.cF rfl ?_ | (apply hQ.h; clear hQ hA) | (refine WK.R Tryz.ntmps93 ?_; intro A hA Q hQ; simp [*]) | (refine WK.retT2 Tryz.func93 ?_ ?_ ?_ <;> simp (config := zd) [Tryz.results93, *]))
theorem acencP_c (l : List Action) (hl : l.length ≤ 1000000) : FnP Tryz.prog 67 [actS l] (.tup [byS (acEnc l).1, .int .i64 (acEnc l).2]) := by
 have h := (acenc_c l hl).toP (by simp [byL_take]) (by rfl)
 rwa [Nat.mul_one, by_full _ _ rfl] at h
theorem racencP_c (l : List Action) (hl : l.length ≤ 1000000) : FnP Tryz.prog 93 [actS l] (.tup [byS (acEnc l).1, .int .i64 (acEnc l).2]) := by
 have h := (racenc_c l hl).toP (by simp [byL_take]) (by rfl)
 rwa [Nat.mul_one, by_full _ _ rfl] at h
theorem acEnc_len (l : List Action) : (acEnc l).1.length ≤ 6000 := by
 have h := acFlat_len l
 unfold acEnc
 split
 · simp
 split
 · simp only; omega
 · simp
end Go.Proofs.YtmhapglejjehbaaGreat

section
namespace Go.Proofs.YtmhapglejjehbaaGreat
open Go Go.AI Go.Proofs
section
variable {α φ : Type}
def rwFlat (en : α → List (BitVec 8)) (l : List α) : List (BitVec 8) := l.flatMap en
end
end Go.Proofs.YtmhapglejjehbaaGreat
end

namespace Go.Proofs.YtmhapglejjehbaaGreat
open Go Go.AI Go.Proofs
structure Bucket where
 weight : Int
 watch : Int
 wgroup : Int
 acts : List Action
 deriving DecidableEq, Inhabited
def Bucket.enc (x : Bucket) : List AV := [.int .i64 x.weight, .int .i64 x.watch, .int .i64 x.wgroup, .sl false x.acts.length (actL x.acts)]
@[simp] theorem Bucket.len (x : Bucket) : x.enc.length = 4 := rfl
@[simp] theorem Bucket.cl (x : Bucket) : ClL x.enc = true := by simp [Bucket.enc, ClL, Cl]
def bukL (l : List Bucket) : List AV := l.flatMap Bucket.enc
def bukS (l : List Bucket) : AV := .sl false l.length (bukL l)
@[simp] theorem bukL_len (l : List Bucket) : (bukL l).length = l.length * 4 := fm_length Bucket.len l
@[simp] theorem bukL_cl (l : List Bucket) : ClL (bukL l) = true := ClL_flatMap _ Bucket.cl l
theorem buk_sub (l : List Bucket) (i : Nat) (h : i < l.length) : ((bukL l).drop (i * 4)).take 4 = (nth l i).enc := fm_nth Bucket.len l i h
theorem buk_load (l : List Bucket) (i : Nat) (h : i < l.length) : ((bukL l).drop (i * 4)).take 4 = (nth l i).enc ∧ 4 ≤ l.length * 4 - i * 4 := ⟨buk_sub l i h, by omega⟩
@[simp] theorem bukS_cl (l : List Bucket) : Cl (bukS l) = true := by simp [bukS, Cl]
@[simp] theorem bukL_take (l : List Bucket) : (bukL l).take (l.length * 4) = bukL l := List.take_of_length_le (by simp)
@[simp] theorem bukL_nil : bukL [] = [] := rfl
@[simp] theorem Bucket.take (x : Bucket) : x.enc.take 4 = x.enc := rfl
@[simp] theorem Bucket.drop (x : Bucket) : x.enc.drop 4 = [] := rfl
theorem buk_get (l : List Bucket) (i k : Nat) (h : i < l.length) (hk : k < 4) (h' : i * 4 + k < (bukL l).length) : (bukL l)[i * 4 + k] = ((nth l i).enc)[k]'(by rw [Bucket.len]; exact hk) := fm_get Bucket.len l i k h hk h'
def bkRight (x : Bucket) : Bool := (acEnc x.acts).2 == 0 && (numOk x.weight 2 && (numOk x.watch 4 && numOk x.wgroup 4))
def bkOne (x : Bucket) : List (BitVec 8) := beN (16 + (acEnc x.acts).1.length : Nat) 2 ++ (beN x.weight 2 ++ (beN x.watch 4 ++ (beN x.wgroup 4 ++ (List.replicate 4 0#8 ++ (acEnc x.acts).1))))
theorem bkOne_len (x : Bucket) : (bkOne x).length = 16 + (acEnc x.acts).1.length := by
 unfold bkOne; simp [beN_len]; omega

def bkEnc (l : List Bucket) : List (BitVec 8) × Int := if l.length ≤ 100 ∧ l.all bkRight = true ∧ (rwFlat bkOne l).length ≤ 60000 then (rwFlat bkOne l, 0) else ([], 1)
structure GroupMod where
 command : Int
 kind : Int
 id : Int
 buckets : List Bucket
 deriving DecidableEq, Inhabited
def GroupMod.enc (g : GroupMod) : List AV := [.int .i64 g.command, .int .i64 g.kind, .int .i64 g.id, .sl false g.buckets.length (bukL g.buckets)]
end Go.Proofs.YtmhapglejjehbaaGreat

namespace Go.Proofs.YtmhapglejjehbaaGreat
open Go Go.AI Go.Proofs Go.Proofs.YtmhapglejjehbaaGreat
theorem rdBucket {w : World} {H : Type} {enc : TypeId × Value → H} {sp : Nat → Bool} {held : Bool} : Rd enc Tryz.prog w sp held 98 Bucket.enc := by
 intro fuel cs x h
 obtain ⟨hl, fuel', hf⟩ := trod_struct Tryz.underlying98 h
 simp only [cellsOf_sz, sz98] at hl
 simp only [List.mem_cons, List.not_mem_nil, or_false, forall_eq_or_imp, forall_eq, cellsOf_sz, sz3, sz96] at hf
 match cs, hl, hf with
 | [c0, c1, c2, c3], _, ⟨⟨y0, h0⟩, ⟨y1, h1⟩, ⟨y2, h2⟩, ⟨y3, h3⟩⟩ =>
   obtain ⟨n0, e0⟩ := rd_int Tryz.underlying3 h0
   obtain ⟨n1, e1⟩ := rd_int Tryz.underlying3 h1
   obtain ⟨n2, e2⟩ := rd_int Tryz.underlying3 h2
   obtain ⟨l, u, e3, r3⟩ := rd_slice (s := 11) (f := Action.enc) Tryz.underlying96 (by kernel_rfl) (by omega) Action.len rdAction h3
   simp at e0 e1 e2 e3
   subst e0 e1 e2 e3
   exact ⟨⟨n0, n1, n2, l⟩, RelL.cons (by simp [Rel]) (RelL.cons (by simp [Rel]) (RelL.cons (by simp [Rel]) (RelL.cons r3 RelL.nil))),
     (Ones.append (vs := [_, _, _]) (by simp [Ones, Value.oneCell']) (Ones.single (one_of_sl r3)))⟩
end Go.Proofs.YtmhapglejjehbaaGreat

namespace Go.Proofs.YtmhapglejjehbaaGreat
open Go Go.AI Go.Proofs
structure Need where
 field : Int
 values : List Wide
 deriving DecidableEq, Inhabited
def w64 (x : BitVec 64) : Wide := ⟨0#64, x⟩
def nEth (vs : List (BitVec 64)) : Need := ⟨4, vs.map w64⟩
def nProto (x : BitVec 64) : Need := ⟨9, [w64 x]⟩
def needs (f : Int) : List Need :=
 if f = 6 then [⟨5, []⟩] else if f = 7 ∨ f = 8 ∨ f = 9 then [nEth [0x800#64, 0x86dd#64]] else if f = 10 ∨ f = 11 then [nEth [0x800#64]]
 else if f = 12 ∨ f = 13 then [nEth [0x800#64, 0x86dd#64], nProto 6#64] else if f = 14 ∨ f = 15 then [nEth [0x800#64, 0x86dd#64], nProto 17#64]
 else if f = 16 ∨ f = 17 then [nEth [0x800#64], nProto 1#64] else if f = 18 ∨ f = 19 ∨ f = 20 then [nEth [0x806#64]] else if f = 21 ∨ f = 22 then [nEth [0x86dd#64]]
 else if f = 23 then [nEth [0x8847#64, 0x8848#64]] else []
def mGives (o : Oxm) (n : Need) : Bool := o.field == n.field && (n.values.length == 0 || (!o.masked && n.values.any fun v => o.value == v))
def mMet (l : List Oxm) (f : Int) : Bool := (needs f).all fun n => l.any fun o => mGives o n
def mCheckF : List Oxm → List Oxm → Option Int
 | _, [] => none
 | acc, o :: r => if (acc.any fun p => p.field == o.field) = true then some 10 else if mMet acc o.field = false then some 9 else mCheckF (acc ++ [o]) r
def mCheck (l : List Oxm) : Option Int := mCheckF [] l
def mPad (n : Nat) : Nat := (n + 7) / 8 * 8
def oBytes (o : Oxm) : List (BitVec 8) := (oEnc o).1
def mWhole (l : List Oxm) : List (BitVec 8) := beN 1 2 ++ (beN (4 + (rwFlat oBytes l).length : Nat) 2 ++ (rwFlat oBytes l ++ List.replicate (mPad (4 + (rwFlat oBytes l).length) - (4 + (rwFlat oBytes l).length)) 0#8))
def mFit (l : List Oxm) : Bool := (mCheck l).isNone && l.all Oxm.right
def mEnc (l : List Oxm) : List (BitVec 8) × Int := if mFit l = true ∧ (rwFlat oBytes l).length ≤ 1000 then (mWhole l, 0) else ([], 1)
theorem mPad_ge (n : Nat) : n ≤ mPad n ∧ mPad n < n + 8 ∧ mPad n % 8 = 0 := by unfold mPad; omega
theorem mFit_facts {l : List Oxm} (h : mFit l = true) : mCheck l = none ∧ ∀ o, o ∈ l → Oxm.right o = true := by
 unfold mFit at h
 rw [Bool.and_eq_true, List.all_eq_true] at h
 exact ⟨by simpa using h.1, h.2⟩
theorem mEnc_bad1 {l : List Oxm} (h : ¬ (mFit l = true ∧ (rwFlat oBytes l).length ≤ 1000)) : mEnc l = ([], 1) := by unfold mEnc; rw [if_neg h]
theorem mWhole_len (l : List Oxm) : (mWhole l).length = mPad (4 + (rwFlat oBytes l).length) := by
 have := mPad_ge (4 + (rwFlat oBytes l).length)
 unfold mWhole; simp [beN_len]; omega

def firstI (p : Nat → Bool) (n : Nat) : Int := match (List.range n).find? p with | some i => i | none => -1
theorem firstI_some {p : Nat → Bool} {n i : Nat} (h : i < n) (hp : p i = true) (hn : ∀ j, j < i → p j = false) : firstI p n = i := by
 unfold firstI
 have : (List.range n).find? p = some i := by
   rw [List.find?_range_eq_some]
   exact ⟨hp, by simpa using h, fun j hj => by simp [hn j hj]⟩
 rw [this]
theorem firstI_none {p : Nat → Bool} {n : Nat} (hn : ∀ j, j < n → p j = false) : firstI p n = -1 := by
 unfold firstI
 have : (List.range n).find? p = none := by
   rw [List.find?_range_eq_none]
   exact fun i hi => by simp [hn i hi]
 rw [this]
theorem firstI_ge (p : Nat → Bool) (n : Nat) : decide (0 ≤ firstI p n) = (List.range n).any p := by
 unfold firstI
 cases h : (List.range n).find? p with
 | none =>
   rw [List.find?_range_eq_none] at h
   have : (List.range n).any p = false := by rw [List.any_eq_false]; intro x hx; have := h x (by simpa using hx); simpa using this
   simp [this]
 | some i =>
   rw [List.find?_range_eq_some] at h
   have : (List.range n).any p = true := List.any_eq_true.2 ⟨i, h.2.1, h.1⟩
   simp [this]
def someOk (n e : Int) (l : List Int) : Bool := n == e || l.any fun x => n == x

def Flow.out (f : Flow) (p g : Int) : Bool := someOk p 4294967295 (Flow.goPorts f) && someOk g 4294967295 (Flow.goGroups f)

theorem intL_take {l : List Int} {i : Nat} (h : i < l.length) : intL (l.take (i + 1)) = intL (l.take i) ++ [.int .i64 (nth l i)] := by rw [take_nth h]; simp [intL]

def bare (m : FlowMod) : FlowMod := { m with cookieMask := 0#64, outPort := 4294967295, outGroup := 4294967295 }
end Go.Proofs.YtmhapglejjehbaaGreat
