/- Parts of a match: their bytes. -/
import Derived.Test.YtcccfbjkcahgfaaGreatWk3
import Derived.Test.YtcccfbjkcahgfaaGreatAf
set_option linter.all false
set_option linter.unnecessarySimpa false
namespace Go.Proofs.YtcccfbjkcahgfaaGreat
open Go Go.AI Go.Proofs
theorem nputP_c (b : List (BitVec 8)) (n : Int) (s : Nat) (hs : Sz s) (hb0 : b.length ≤ 1000000) : FnP Tryz.prog 52 [byS b, .int .i64 n, .int .i64 s] (byS (putN b n s)) := by
 have h := (nput_c b n s hs hb0).toP (by simp [byL_take])
 rwa [Nat.mul_one, by_full _ _ rfl] at h
theorem rputP_c (b : List (BitVec 8)) (n : Int) (s : Nat) (hs : Sz s) (hb0 : b.length ≤ 1000000) : FnP Tryz.prog 24 [byS b, .int .i64 n, .int .i64 s] (byS (putN b n s)) := by
 have h := (rput_c b n s hs hb0).toP (by simp [byL_take])
 rwa [Nat.mul_one, by_full _ _ rfl] at h
theorem wputP_c (b : List (BitVec 8)) (a : Wide) (s : Nat) (hs : s ≤ 16) (hb0 : b.length ≤ 1000000) : FnP Tryz.prog 235 [byS b, .agg a.enc, .int .i64 s] (byS (wPut b a s)) := by
 have h := (wput_c b a s hs hb0).toP (by simp [byL_take])
 rwa [Nat.mul_one, by_full _ _ rfl] at h
theorem rwputP_c (b : List (BitVec 8)) (a : Wide) (s : Nat) (hs : s ≤ 16) (hb0 : b.length ≤ 1000000) : FnP Tryz.prog 53 [byS b, .agg a.enc, .int .i64 s] (byS (wPut b a s)) := by
 have h := (rwput_c b a s hs hb0).toP (by simp [byL_take])
 rwa [Nat.mul_one, by_full _ _ rfl] at h
theorem putN_len (b : List (BitVec 8)) (n : Int) (s : Nat) : (putN b n s).length ≤ b.length + s := by
 unfold putN; split
 · rw [List.length_append, beN_len]; omega
 · omega
def oBody (o : Oxm) : List (BitVec 8) := if o.masked then wPut (wPut [] o.value (fSize o.field)) o.mask (fSize o.field) else wPut [] o.value (fSize o.field)
def oNum (o : Oxm) : Int := if o.masked then fID o.field * 2 + 1 else fID o.field * 2
def oHead (o : Oxm) : List (BitVec 8) := putN (putN (putN [] 32768 2) (oNum o) 1) (oBody o).length 1
def oEnc (o : Oxm) : List (BitVec 8) × Int := if Oxm.right o then (oHead o ++ oBody o, 0) else ([], 1)
theorem shl_one (f : Int) : bShl .i64 (fID f) 1 = fID f * 2 := by
 have := (fRow_ok f).1
 unfold bShl fID
 show IntKind.wrap .i64 ((fRow f).1 * 2 ^ 1) = _
 rw [Int.pow_one, wrap_i64 (by omega) (by omega)]
theorem or_one_all : ∀ n : Fin 35, bOr .i64 ((n.val : Int) * 2) 1 = (n.val : Int) * 2 + 1 := by decide +kernel
theorem or_one (f : Int) (h : fRight f = true) : bOr .i64 (fID f * 2) 1 = fID f * 2 + 1 := by
 unfold fRight at h
 rw [Bool.and_eq_true, decide_eq_true_eq, decide_eq_true_eq] at h
 have hp : 0 ≤ fID f ∧ fID f ≤ 34 := by
   unfold fID fRow
   rw [if_pos ⟨h.1, h.2⟩]
   have hl : f.toNat < fRows.length := by show f.toNat < 24; omega
   have : ∀ r, r ∈ fRows → 0 ≤ r.1 ∧ r.1 ≤ 34 := by decide
   exact this _ (nth_mem hl)
 have := or_one_all ⟨(fID f).toNat, by omega⟩
 rwa [show (((⟨(fID f).toNat, by omega⟩ : Fin 35).val : Nat) : Int) = fID f by show (((fID f).toNat : Nat) : Int) = _; omega] at this
theorem right_field {o : Oxm} (h : Oxm.right o = true) : fRight o.field = true := by
 unfold Oxm.right at h
 cases hf : fRight o.field
 · rw [hf] at h; simp at h
 · rfl
theorem oBody_len (o : Oxm) : (oBody o).length = if o.masked then fSize o.field + fSize o.field else fSize o.field := by
 have := fSize_le o.field
 unfold oBody
 split
 · rw [wPut_len _ _ _ this, wPut_len _ _ _ this]; simp
 · rw [wPut_len _ _ _ this]; simp
set_option maxHeartbeats 4000000 in
theorem roenc_c (o : Oxm) : FnP Tryz.prog 86 [.agg o.enc] (.tup [byS (oEnc o).1, .int .i64 (oEnc o).2]) := by
 have hr := roright_c o
 have hsz := fSize_le o.field
 have hid := (fRow_ok o.field).1
 have hbl := oBody_len o
 have w1 : IntKind.i64.wrap (2 * fID o.field) = 2 * fID o.field := by unfold fID; exact wrap_i64 (by omega) (by omega)
 have w2 : IntKind.i64.wrap (2 * fID o.field + 1) = 2 * fID o.field + 1 := by unfold fID; exact wrap_i64 (by omega) (by omega)
 have w3 : IntKind.i64.wrap (2 * (fSize o.field : Int)) = ((2 * fSize o.field : Nat) : Int) := by rw [wrap_i64 (by omega) (by omega)]; omega
 have p1 := rputP_c [] 32768 2 (by unfold Sz; omega) (by simp)
 rw [show byS [] = .sl false 0 [] from rfl] at p1
 have l1 := putN_len [] 32768 2
 simp only [Oxm.enc] at hr
 cases k : Oxm.right o
 · have e : oEnc o = ([], 1) := by unfold oEnc; rw [k]; rfl
   rw [k] at hr
   refine FnP.intro Tryz.func86 rfl rfl fun G w => ?_
   repeat (apply WK.seq)
   refine WK.reg 100 Tryz.ntmps86 (by kernel_rfl) ?_
   intro A hA Q hQ
   simp [Oxm.enc]
   refine hQ _ _ ?_
   clear hQ hA
   repeat (apply WK.seq)
   refine WK.ghost (Ghost.frzVar 1 rfl rfl) ?_
   refine WK.reg 200 Tryz.ntmps86 (by kernel_rfl) ?_
   intro A hA Q hQ
   simp
   refine RunQ.call rfl rfl rfl rfl (by rfl) (by simp (maxDischargeDepth := 120)) (hr) (by simp) ?_
   refine RunQ.eval ?_
   simp
   refine hQ _ _ ?_
   clear hQ hA
   refine WK.c2 rfl (fun h => ?_) (fun h => ?_)
   · repeat (apply WK.seq)
     refine WK.reg 300 Tryz.ntmps86 (by kernel_rfl) ?_
     intro A hA Q hQ
     simp
     refine hQ _ _ ?_
     clear hQ hA
     refine WK.ret Tryz.func86 (by simp (maxDischargeDepth := 120) [Tryz.results86, e, byS, b0_]) (by simp [e, byS, b0_])
   · cases h
 rw [k] at hr
 have e : oEnc o = (oHead o ++ oBody o, 0) := by unfold oEnc; rw [k]; rfl
 obtain ⟨b1, hb1⟩ : ∃ b1, b1 = putN [] 32768 2 := ⟨_, rfl⟩
 rw [← hb1] at p1 l1
 simp only [List.length_nil, Nat.zero_add] at l1
 cases m : o.masked
 · have eb : oBody o = wPut [] o.value (fSize o.field) := by unfold oBody; rw [m]; rfl
   have en : oNum o = 2 * fID o.field := by unfold oNum; rw [m]; exact Int.mul_comm _ _
   rw [m] at hbl
   simp only [Bool.false_eq_true, if_false] at hbl
   have p2 := rputP_c b1 (2 * fID o.field) 1 (by unfold Sz; omega) (by omega)
   have l2 := putN_len b1 (2 * fID o.field) 1
   have p3 := rputP_c (putN b1 (2 * fID o.field) 1) (fSize o.field) 1 (by unfold Sz; omega) (by omega)
   have eh : oHead o = putN (putN b1 (2 * fID o.field) 1) (fSize o.field) 1 := by unfold oHead; rw [hbl, en, hb1]
   have l3 := putN_len (putN b1 (2 * fID o.field) 1) (fSize o.field) 1
   rw [← eh] at p3 l3
   have p4 := rwputP_c (oHead o) o.value (fSize o.field) hsz (by omega)
   have e4 : wPut (oHead o) o.value (fSize o.field) = oHead o ++ oBody o := by rw [eb]; unfold wPut; simp
   rw [e4] at p4
   obtain ⟨b2, hb2⟩ : ∃ b2, b2 = putN b1 (2 * fID o.field) 1 := ⟨_, rfl⟩
   rw [← hb2] at p2 p3
   simp only [Wide.enc] at p4
   rw [m] at hr
   refine FnP.intro Tryz.func86 rfl rfl fun G w => ?_
   repeat (apply WK.seq)
   refine WK.reg 100 Tryz.ntmps86 (by kernel_rfl) ?_
   intro A hA Q hQ
   simp [Oxm.enc, m]
   refine hQ _ _ ?_
   clear hQ hA
   repeat (apply WK.seq)
   refine WK.ghost (Ghost.frzVar 1 rfl rfl) ?_
   refine WK.reg 200 Tryz.ntmps86 (by kernel_rfl) ?_
   intro A hA Q hQ
   simp
   refine RunQ.call rfl rfl rfl rfl (by rfl) (by simp (maxDischargeDepth := 120)) (hr) (by simp) ?_
   refine RunQ.eval ?_
   simp
   refine hQ _ _ ?_
   clear hQ hA
   refine WK.c2 rfl (fun h => ?_) (fun h => ?_)
   · cases h
   repeat (first | apply WK.seq | apply WK.skip)
   refine WK.reg 300 Tryz.ntmps86 (by kernel_rfl) ?_
   intro A hA Q hQ
   simp
   refine RunQ.call rfl rfl rfl rfl (by rfl) (by simp (maxDischargeDepth := 120)) (rfsize_c o.field) (by simp) ?_
   refine RunQ.eval ?_
   simp
   refine hQ _ _ ?_
   clear hQ hA
   repeat (apply WK.seq)
   refine WK.reg 400 Tryz.ntmps86 (by kernel_rfl) ?_
   intro A hA Q hQ
   simp
   refine RunQ.call rfl rfl rfl rfl (by rfl) (by simp (maxDischargeDepth := 120) [w1]) (rfid_c o.field) (by simp [w1]) ?_
   refine RunQ.eval ?_
   simp [w1]
   refine hQ _ _ ?_
   clear hQ hA
   repeat (apply WK.seq)
   refine WK.reg 500 Tryz.ntmps86 (by kernel_rfl) ?_
   intro A hA Q hQ
   simp
   refine hQ _ _ ?_
   clear hQ hA
   refine WK.c2 rfl (fun h => ?_) (fun h => ?_)
   · repeat (apply WK.seq)
     refine WK.reg 600 Tryz.ntmps86 (by kernel_rfl) ?_
     intro A hA Q hQ
     simp
     refine RunQ.call rfl rfl rfl rfl (by rfl) (by simp (maxDischargeDepth := 120)) (p1) (by simp) ?_
     refine RunQ.eval ?_
     simp
     refine RunQ.call rfl rfl rfl rfl (by rfl) (by simp (maxDischargeDepth := 120)) (p2) (by simp) ?_
     refine RunQ.eval ?_
     simp
     refine RunQ.call rfl rfl rfl rfl (by rfl) (by simp (maxDischargeDepth := 120)) (p3) (by simp) ?_
     refine RunQ.eval ?_
     simp
     refine hQ _ _ ?_
     clear hQ hA
     repeat (apply WK.seq)
     refine WK.reg 700 Tryz.ntmps86 (by kernel_rfl) ?_
     intro A hA Q hQ
     simp
     refine RunQ.call rfl rfl rfl rfl (by rfl) (by simp (maxDischargeDepth := 120)) (p4) (by simp) ?_
     refine RunQ.eval ?_
     simp
     refine hQ _ _ ?_
     clear hQ hA
     refine WK.ret Tryz.func86 (by simp (maxDischargeDepth := 120) [Tryz.results86, e]) (by simp [e])
   · cases h
 · have eb : oBody o = wPut (wPut [] o.value (fSize o.field)) o.mask (fSize o.field) := by unfold oBody; rw [m]; rfl
   have en : oNum o = 2 * fID o.field + 1 := by unfold oNum; rw [m]; show fID o.field * 2 + 1 = _; rw [Int.mul_comm]
   rw [m] at hbl
   simp only [if_true] at hbl
   have hbl' : (oBody o).length = 2 * fSize o.field := by omega
   have p2 := rputP_c b1 (2 * fID o.field + 1) 1 (by unfold Sz; omega) (by omega)
   have l2 := putN_len b1 (2 * fID o.field + 1) 1
   have p3 := rputP_c (putN b1 (2 * fID o.field + 1) 1) (2 * fSize o.field : Nat) 1 (by unfold Sz; omega) (by omega)
   have eh : oHead o = putN (putN b1 (2 * fID o.field + 1) 1) (2 * fSize o.field : Nat) 1 := by unfold oHead; rw [hbl', en, hb1]
   have l3 := putN_len (putN b1 (2 * fID o.field + 1) 1) (2 * fSize o.field : Nat) 1
   rw [← eh] at p3 l3
   have p4 := rwputP_c (oHead o) o.value (fSize o.field) hsz (by omega)
   have l4 := wPut_len (oHead o) o.value (fSize o.field) hsz
   have p5 := rwputP_c (wPut (oHead o) o.value (fSize o.field)) o.mask (fSize o.field) hsz (by omega)
   have e5 : wPut (wPut (oHead o) o.value (fSize o.field)) o.mask (fSize o.field) = oHead o ++ oBody o := by rw [eb]; unfold wPut; simp
   rw [e5] at p5
   obtain ⟨b2, hb2⟩ : ∃ b2, b2 = putN b1 (2 * fID o.field + 1) 1 := ⟨_, rfl⟩
   rw [← hb2] at p2 p3
   obtain ⟨b4, hb4⟩ : ∃ b4, b4 = wPut (oHead o) o.value (fSize o.field) := ⟨_, rfl⟩
   rw [← hb4] at p4 p5
   simp only [Wide.enc] at p4 p5
   rw [m] at hr
   refine FnP.intro Tryz.func86 rfl rfl fun G w => ?_
   repeat (apply WK.seq)
   refine WK.reg 100 Tryz.ntmps86 (by kernel_rfl) ?_
   intro A hA Q hQ
   simp [Oxm.enc, m]
   refine hQ _ _ ?_
   clear hQ hA
   repeat (apply WK.seq)
   refine WK.ghost (Ghost.frzVar 1 rfl rfl) ?_
   refine WK.reg 200 Tryz.ntmps86 (by kernel_rfl) ?_
   intro A hA Q hQ
   simp
   refine RunQ.call rfl rfl rfl rfl (by rfl) (by simp (maxDischargeDepth := 120)) (hr) (by simp) ?_
   refine RunQ.eval ?_
   simp
   refine hQ _ _ ?_
   clear hQ hA
   refine WK.c2 rfl (fun h => ?_) (fun h => ?_)
   · cases h
   repeat (first | apply WK.seq | apply WK.skip)
   refine WK.reg 300 Tryz.ntmps86 (by kernel_rfl) ?_
   intro A hA Q hQ
   simp
   refine RunQ.call rfl rfl rfl rfl (by rfl) (by simp (maxDischargeDepth := 120)) (rfsize_c o.field) (by simp) ?_
   refine RunQ.eval ?_
   simp
   refine hQ _ _ ?_
   clear hQ hA
   repeat (apply WK.seq)
   refine WK.reg 400 Tryz.ntmps86 (by kernel_rfl) ?_
   intro A hA Q hQ
   simp
   refine RunQ.call rfl rfl rfl rfl (by rfl) (by simp (maxDischargeDepth := 120) [w1]) (rfid_c o.field) (by simp [w1]) ?_
   refine RunQ.eval ?_
   simp [w1]
   refine hQ _ _ ?_
   clear hQ hA
   repeat (apply WK.seq)
   refine WK.reg 500 Tryz.ntmps86 (by kernel_rfl) ?_
   intro A hA Q hQ
   simp
   refine hQ _ _ ?_
   clear hQ hA
   refine WK.c2 rfl (fun h => ?_) (fun h => ?_)
   · cases h
   · repeat (first | apply WK.seq | apply WK.skip)
     refine WK.reg 600 Tryz.ntmps86 (by kernel_rfl) ?_
     intro A hA Q hQ
     simp
     refine RunQ.call rfl rfl rfl rfl (by rfl) (by simp (maxDischargeDepth := 120) [w2]) (p1) (by simp [w2]) ?_
     refine RunQ.eval ?_
     simp [w2]
     refine RunQ.call rfl rfl rfl rfl (by rfl) (by simp (maxDischargeDepth := 120) [w3]) (p2) (by simp [w3]) ?_
     refine RunQ.eval ?_
     simp [w3]
     refine RunQ.call rfl rfl rfl rfl (by rfl) (by simp (maxDischargeDepth := 120)) (p3) (by simp) ?_
     refine RunQ.eval ?_
     simp
     refine hQ _ _ ?_
     clear hQ hA
     repeat (apply WK.seq)
     refine WK.regD 700 clsOf (by kernel_rfl) Tryz.ntmps86 (by kernel_rfl) (by kernel_rfl) ?_
     intro A hA Q hQ
     simp
     refine RunQ.call rfl rfl rfl rfl (by rfl) (by simp (maxDischargeDepth := 120)) (p4) (by simp) ?_
     refine RunQ.eval ?_
     simp
     refine RunQ.call rfl rfl rfl rfl (by rfl) (by simp (maxDischargeDepth := 120)) (p5) (by simp) ?_
     refine RunQ.eval ?_
     simp
     refine hQ _ _ ?_
     clear hQ hA
     refine WK.ret Tryz.func86 (by simp (maxDischargeDepth := 120) [Tryz.results86, e]) (by simp [e])
set_option maxHeartbeats 4000000 in
theorem oenc_c (o : Oxm) : FnP Tryz.prog 238 [.agg o.enc] (.tup [byS (oEnc o).1, .int .i64 (oEnc o).2]) := by
 have hr := oright_c o
 have hsz := fSize_le o.field
 have hid := (fRow_ok o.field).1
 have hbl := oBody_len o
 have hsh := shl_one o.field
 have p1 := nputP_c [] 32768 2 (by unfold Sz; omega) (by simp)
 rw [show byS [] = .sl false 0 [] from rfl] at p1
 have l1 := putN_len [] 32768 2
 have hbl2 : (oBody o).length ≤ 32 := by rw [hbl]; split <;> omega
 simp only [Oxm.enc] at hr
 cases k : Oxm.right o
 · have e : oEnc o = ([], 1) := by unfold oEnc; rw [k]; rfl
   rw [k] at hr
   refine FnP.intro Tryz.func238 rfl rfl fun G w => ?_
   repeat (apply WK.seq)
   refine WK.reg 100 Tryz.ntmps238 (by kernel_rfl) ?_
   intro A hA Q hQ
   simp [Oxm.enc]
   refine hQ _ _ ?_
   clear hQ hA
   repeat (apply WK.seq)
   refine WK.ghost (Ghost.frzVar 1 rfl rfl) ?_
   refine WK.reg 200 Tryz.ntmps238 (by kernel_rfl) ?_
   intro A hA Q hQ
   simp
   refine RunQ.call rfl rfl rfl rfl (by rfl) (by simp (maxDischargeDepth := 120)) (hr) (by simp) ?_
   refine RunQ.eval ?_
   simp
   refine hQ _ _ ?_
   clear hQ hA
   refine WK.c2 rfl (fun h => ?_) (fun h => ?_)
   · repeat (apply WK.seq)
     refine WK.reg 300 Tryz.ntmps238 (by kernel_rfl) ?_
     intro A hA Q hQ
     simp
     refine hQ _ _ ?_
     clear hQ hA
     refine WK.ret Tryz.func238 (by simp (maxDischargeDepth := 120) [Tryz.results238, e, byS, b0_]) (by simp [e, byS, b0_])
   · cases h
 rw [k] at hr
 have e : oEnc o = (oHead o ++ oBody o, 0) := by unfold oEnc; rw [k]; rfl
 have hor := or_one o.field (right_field k)
 obtain ⟨b1, hb1⟩ : ∃ b1, b1 = putN [] 32768 2 := ⟨_, rfl⟩
 rw [← hb1] at p1 l1
 simp only [List.length_nil, Nat.zero_add] at l1
 have p2 := nputP_c b1 (oNum o) 1 (by unfold Sz; omega) (by omega)
 have l2 := putN_len b1 (oNum o) 1
 have p3 := nput_c (putN b1 (oNum o) 1) (oBody o).length 1 (by unfold Sz; omega) (by omega)
 have eh : oHead o = putN (putN b1 (oNum o) 1) (oBody o).length 1 := by unfold oHead; rw [hb1]
 have l3 := putN_len (putN b1 (oNum o) 1) (oBody o).length 1
 rw [← eh] at p3 l3
 obtain ⟨b2, hb2⟩ : ∃ b2, b2 = putN b1 (oNum o) 1 := ⟨_, rfl⟩
 rw [← hb2] at p2 p3
 have q1 := wputP_c [] o.value (fSize o.field) hsz (by simp)
 rw [show byS [] = .sl false 0 [] from rfl] at q1
 have hf := by_full (oBody o) _ rfl
 have hbd : (oHead o).length + (oBody o).length ≤ 140737488355328 := by omega
 have hT : (byL (oHead o) ++ byL (oBody o)).take ((oHead o).length + (oBody o).length) = byL (oHead o) ++ byL (oBody o) := List.take_of_length_le (by simp)
 refine FnP.intro Tryz.func238 rfl rfl fun G w => ?_
 repeat (apply WK.seq)
 refine WK.reg 100 Tryz.ntmps238 (by kernel_rfl) ?_
 intro A hA Q hQ
 simp [Oxm.enc]
 refine hQ _ _ ?_
 clear hQ hA
 repeat (apply WK.seq)
 refine WK.ghost (Ghost.frzVar 1 rfl rfl) ?_
 refine WK.reg 200 Tryz.ntmps238 (by kernel_rfl) ?_
 intro A hA Q hQ
 simp
 refine RunQ.call rfl rfl rfl rfl (by rfl) (by simp (maxDischargeDepth := 120)) (hr) (by simp) ?_
 refine RunQ.eval ?_
 simp
 refine hQ _ _ ?_
 clear hQ hA
 refine WK.c2 rfl (fun h => ?_) (fun h => ?_)
 · cases h
 repeat (first | apply WK.seq | apply WK.skip)
 refine WK.reg 300 Tryz.ntmps238 (by kernel_rfl) ?_
 intro A hA Q hQ
 simp
 refine RunQ.call rfl rfl rfl rfl (by rfl) (by simp (maxDischargeDepth := 120)) (fsize_c o.field) (by simp) ?_
 refine RunQ.eval ?_
 simp
 refine hQ _ _ ?_
 clear hQ hA
 repeat (apply WK.seq)
 apply WK.cut (⟨(upd (upd J 5 (.sl false (oBody o).length (byL (oBody o)))) 6 (.int .i64 (oNum o))), B0, 0⟩ : St)
 · intro hcut
   simp only [Wide.enc] at q1
   cases m : o.masked
   · have eb : oBody o = wPut [] o.value (fSize o.field) := by unfold oBody; rw [m]; rfl
     have en : oNum o = fID o.field * 2 := by unfold oNum; rw [m]; rfl
     rw [← eb] at q1
     refine WK.reg 400 Tryz.ntmps238 (by kernel_rfl) ?_
     intro A hA Q hQ
     simp
     refine RunQ.call rfl rfl rfl rfl (by rfl) (by simp (maxDischargeDepth := 120)) (q1) (by simp) ?_
     refine RunQ.eval ?_
     simp
     refine hQ _ _ ?_
     clear hQ hA
     repeat (apply WK.seq)
     refine WK.reg 500 Tryz.ntmps238 (by kernel_rfl) ?_
     intro A hA Q hQ
     simp
     refine RunQ.call rfl rfl rfl rfl (by rfl) (by simp (maxDischargeDepth := 120) [hsh]) (fid_c o.field) (by simp [hsh]) ?_
     refine RunQ.eval ?_
     simp [hsh]
     refine hQ _ _ ?_
     clear hQ hA
     repeat (apply WK.seq)
     refine WK.reg 600 Tryz.ntmps238 (by kernel_rfl) ?_
     intro A hA Q hQ
     simp [m]
     refine hQ _ _ ?_
     clear hQ hA
     refine WK.c2 rfl (fun h => ?_) (fun h => ?_)
     · cases h
     · repeat (first | apply WK.seq | apply WK.skip)
       refine WK.next (fun n => n) hcut (by repeat (first | exact TmW.nil | refine TmW.upd ?_ (by simp (maxDischargeDepth := 120) [en, byS]))) (by repeat (first | exact BxW.nil | refine BxW.upd ?_ (by simp (maxDischargeDepth := 120) [en, byS]))) InjW.id
   · have eb : oBody o = wPut (wPut [] o.value (fSize o.field)) o.mask (fSize o.field) := by unfold oBody; rw [m]; rfl
     have en : oNum o = fID o.field * 2 + 1 := by unfold oNum; rw [m]; rfl
     have l4 := wPut_len [] o.value (fSize o.field) hsz
     have q2 := wputP_c (wPut [] o.value (fSize o.field)) o.mask (fSize o.field) hsz (by rw [l4]; simp; omega)
     rw [← eb] at q2
     simp only [Wide.enc] at q2
     obtain ⟨b4, hb4⟩ : ∃ b4, b4 = wPut [] o.value (fSize o.field) := ⟨_, rfl⟩
     rw [← hb4] at q1 q2
     refine WK.reg 700 Tryz.ntmps238 (by kernel_rfl) ?_
     intro A hA Q hQ
     simp
     refine RunQ.call rfl rfl rfl rfl (by rfl) (by simp (maxDischargeDepth := 120)) (q1) (by simp) ?_
     refine RunQ.eval ?_
     simp
     refine hQ _ _ ?_
     clear hQ hA
     repeat (apply WK.seq)
     refine WK.reg 800 Tryz.ntmps238 (by kernel_rfl) ?_
     intro A hA Q hQ
     simp
     refine RunQ.call rfl rfl rfl rfl (by rfl) (by simp (maxDischargeDepth := 120) [hsh]) (fid_c o.field) (by simp [hsh]) ?_
     refine RunQ.eval ?_
     simp [hsh]
     refine hQ _ _ ?_
     clear hQ hA
     repeat (apply WK.seq)
     refine WK.reg 900 Tryz.ntmps238 (by kernel_rfl) ?_
     intro A hA Q hQ
     simp [m]
     refine hQ _ _ ?_
     clear hQ hA
     refine WK.c2 rfl (fun h => ?_) (fun h => ?_)
     · repeat (apply WK.seq)
       refine WK.reg 1000 Tryz.ntmps238 (by kernel_rfl) ?_
       intro A hA Q hQ
       simp
       refine RunQ.call rfl rfl rfl rfl (by rfl) (by simp (maxDischargeDepth := 120)) (q2) (by simp) ?_
       refine RunQ.eval ?_
       simp
       refine hQ _ _ ?_
       clear hQ hA
       refine WK.reg 1100 Tryz.ntmps238 (by kernel_rfl) ?_
       intro A hA Q hQ
       simp [hor]
       refine hQ _ _ ?_
       clear hQ hA
       repeat (apply WK.seq)
       refine WK.next (fun n => n) hcut (by repeat (first | exact TmW.nil | refine TmW.upd ?_ (by simp (maxDischargeDepth := 120) [en, byS]))) (by repeat (first | exact BxW.nil | refine BxW.upd ?_ (by simp (maxDischargeDepth := 120) [en, byS]))) InjW.id
     · cases h
 refine WK.reg 1200 Tryz.ntmps238 (by kernel_rfl) ?_
 intro A hA Q hQ
 simp
 refine RunQ.call rfl rfl rfl rfl (by rfl) (by simp (maxDischargeDepth := 120)) (p1) (by simp) ?_
 refine RunQ.eval ?_
 simp
 refine RunQ.call rfl rfl rfl rfl (by rfl) (by simp (maxDischargeDepth := 120)) (p2) (by simp) ?_
 refine RunQ.eval ?_
 simp
 refine RunQ.callO 900 rfl rfl rfl (by simp) (by rfl) (by simp (maxDischargeDepth := 120)) (p3) (by simp) (by simp) (by simp) ?_
 refine RunQ.eval ?_
 simp
 refine hQ _ _ ?_
 clear hQ hA
 repeat (apply WK.seq)
 refine WK.reg 1300 Tryz.ntmps238 (by kernel_rfl) ?_
 intro A hA Q hQ
 simp
 refine RunQ.append 901 appByte rfl rfl rfl rfl rfl rfl rfl (by simp [hbd, hf]) rfl (by simp [hbd, hf]) (by simp [hbd, hf]) (by simp [hbd, hf]) (by simp [hbd, hf]) ?_
 refine RunQ.eval ?_
 simp [hbd, hf]
 refine hQ _ _ ?_
 clear hQ hA
 refine WK.ghost (Ghost.frzSl 2 1 rfl rfl) ?_
 refine WK.ret Tryz.func238 (by simp (maxDischargeDepth := 120) [Tryz.results238, e, byS, byL_app, hT]) (by simp [e, byS, byL_app, hT])

def bAt (b : List (BitVec 8)) (i : Nat) : Nat := (nth b i).toNat
def hField (b : List (BitVec 8)) : Int × Bool := fIndex (bAt b 2 / 2 : Nat)
def hMasked (b : List (BitVec 8)) : Bool := bAt b 2 % 2 == 1
def hWant (b : List (BitVec 8)) : Nat := if hMasked b then fSize (hField b).1 * 2 else fSize (hField b).1
def hCode (b : List (BitVec 8)) : Int :=
 if b.length < 4 then 1 else if b.length < 4 + bAt b 3 then 1
 else if bAt b 0 != 128 || (bAt b 1 != 0 || !(hField b).2) then 6
 else if hMasked b && !fMasks (hField b).1 then 8
 else if bAt b 3 != hWant b then 1 else 0
theorem u8_and : ∀ x : BitVec 8, bAnd .u8 (bI x) 1 = ((x.toNat % 2 : Nat) : Int) := by
 intro x
 have h : ∀ n : Fin 256, bAnd .u8 ((n.val : Int)) 1 = ((n.val % 2 : Nat) : Int) := by decide +kernel
 exact h ⟨x.toNat, x.isLt⟩
theorem u8_shr : ∀ x : BitVec 8, bShr .u8 (bI x) 1 = ((x.toNat / 2 : Nat) : Int) := by
 intro x
 have h : ∀ n : Fin 256, bShr .u8 ((n.val : Int)) 1 = ((n.val / 2 : Nat) : Int) := by decide +kernel
 exact h ⟨x.toNat, x.isLt⟩
theorem bI_nat (b : List (BitVec 8)) (i : Nat) : bI (nth b i) = (bAt b i : Int) := rfl
theorem bAt_lt (b : List (BitVec 8)) (i : Nat) : bAt b i < 256 := (nth b i).isLt
def hRes (b : List (BitVec 8)) : List AV := if hCode b = 0 then [.int .i64 (hField b).1, .bool (hMasked b), .int .i64 (bAt b 3 : Nat), .int .i64 0] else [.int .i64 0, .bool false, .int .i64 0, .int .i64 (hCode b)]
set_option maxHeartbeats 4000000 in
theorem ohead_c (b : List (BitVec 8)) (hb0 : b.length ≤ 9223372036854775807) : FnP Tryz.prog 158 [byS b] (.tup (hRes b)) := by
 unfold byS
 by_cases h4 : b.length < 4
 · have e : hCode b = 1 := by unfold hCode; rw [if_pos h4]
   have er : hRes b = [.int .i64 0, .bool false, .int .i64 0, .int .i64 1] := by unfold hRes; rw [if_neg (by omega), e]
   rw [er]
   refine FnP.intro Tryz.func158 rfl rfl fun G w => ?_
   repeat (apply WK.seq)
   refine WK.reg 100 Tryz.ntmps158 (by kernel_rfl) ?_
   intro A hA Q hQ
   simp
   refine hQ _ _ ?_
   clear hQ hA
   repeat (apply WK.seq)
   refine WK.reg 200 Tryz.ntmps158 (by kernel_rfl) ?_
   intro A hA Q hQ
   simp [h4]
   refine hQ _ _ ?_
   clear hQ hA
   refine WK.c2 rfl (fun h => ?_) (fun h => ?_)
   · repeat (apply WK.seq)
     refine WK.reg 300 Tryz.ntmps158 (by kernel_rfl) ?_
     intro A hA Q hQ
     simp
     refine hQ _ _ ?_
     clear hQ hA
     refine WK.ret Tryz.func158 (by simp (maxDischargeDepth := 120) [Tryz.results158]) (by simp)
   · simp at h; omega
 have i0 : 0 < b.length := by omega
 have i1 : 1 < b.length := by omega
 have i2 : 2 < b.length := by omega
 have i3 : 3 < b.length := by omega
 have j0 : (0 : Int) < b.length := by omega
 have j1 : (1 : Int) < b.length := by omega
 have j2 : (2 : Int) < b.length := by omega
 have j3 : (3 : Int) < b.length := by omega
 have g0 := by_get b 0 i0
 have g1 := by_get b 1 i1
 have g2 := by_get b 2 i2
 have g3 := by_get b 3 i3
 have l2 := bAt_lt b 2
 have l3 := bAt_lt b 3
 have m1 := u8_and (nth b 2)
 have m2 := u8_shr (nth b 2)
 have m3 : IntKind.i64.wrap (bI (nth b 3)) = (bAt b 3 : Int) := by rw [bI_nat]; exact wrap_i64 (by omega) (by omega)
 have m4 : IntKind.i64.wrap (((nth b 2).toNat / 2 : Nat) : Int) = ((bAt b 2 / 2 : Nat) : Int) := by show IntKind.i64.wrap ((bAt b 2 / 2 : Nat) : Int) = _; exact wrap_i64 (by omega) (by omega)
 have hfi := findex_c ((bAt b 2 / 2 : Nat) : Int)
 obtain ⟨q, hq⟩ : ∃ q, q = bAt b 2 / 2 := ⟨_, rfl⟩
 have hF : hField b = fIndex q := by unfold hField; rw [hq]
 rw [← hq] at m4 hfi
 have m2' : bShr .u8 (bI (nth b 2)) 1 = (q : Int) := by rw [m2, hq]; rfl
 have m4' : IntKind.i64.wrap (q : Int) = q := wrap_i64 (by omega) (by omega)
 rw [← hF] at hfi
 have hsz := fSize_le (hField b).1
 have hfs := fsize_c (hField b).1
 obtain ⟨f, ok⟩ : ∃ f : Int × Bool, f = hField b := ⟨_, rfl⟩
 refine FnP.intro Tryz.func158 rfl rfl fun G w => ?_
 repeat (apply WK.seq)
 refine WK.reg 100 Tryz.ntmps158 (by kernel_rfl) ?_
 intro A hA Q hQ
 simp
 refine hQ _ _ ?_
 clear hQ hA
 repeat (apply WK.seq)
 refine WK.reg 200 Tryz.ntmps158 (by kernel_rfl) ?_
 intro A hA Q hQ
 simp
 refine hQ _ _ ?_
 clear hQ hA
 refine WK.c2 rfl (fun h => ?_) (fun h => ?_)
 · simp at h; omega
 repeat (first | apply WK.seq | apply WK.skip)
 apply WK.cut (⟨(upd (upd (upd J 0 (.sl false b.length (byL b))) 6 (.int .i64 (bAt b 3 : Nat))) 7 (.bool (hMasked b))), B0, 0⟩ : St)
 · intro hcut
   cases hm : hMasked b
   · have m5 : bAnd .u8 (bI (nth b 2)) 1 = 0 := by
       rw [m1]
       have h1 : ¬ ((nth b 2).toNat % 2 = 1) := by intro h1; unfold hMasked bAt at hm; rw [h1] at hm; cases hm
       have h2 : (nth b 2).toNat % 2 = 0 := by omega
       rw [h2]; rfl
     refine WK.regD 300 clsOf (by kernel_rfl) Tryz.ntmps158 (by kernel_rfl) (by kernel_rfl) ?_
     intro A hA Q hQ
     simp [g2, g3, m3, m5, i2, i3, j2, j3]
     refine hQ _ _ ?_
     clear hQ hA
     repeat (apply WK.seq)
     refine WK.next (fun n => n) hcut (by repeat (first | exact TmW.nil | refine TmW.upd ?_ (by simp (maxDischargeDepth := 120) [hm]))) (by repeat (first | exact BxW.nil | refine BxW.upd ?_ (by simp (maxDischargeDepth := 120) [hm]))) InjW.id
   · have m5 : bAnd .u8 (bI (nth b 2)) 1 = 1 := by
       rw [m1]
       have h2 : (nth b 2).toNat % 2 = 1 := by unfold hMasked bAt at hm; simpa using hm
       rw [h2]; rfl
     refine WK.regD 400 clsOf (by kernel_rfl) Tryz.ntmps158 (by kernel_rfl) (by kernel_rfl) ?_
     intro A hA Q hQ
     simp [g2, g3, m3, m5, i2, i3, j2, j3]
     refine hQ _ _ ?_
     clear hQ hA
     repeat (apply WK.seq)
     refine WK.next (fun n => n) hcut (by repeat (first | exact TmW.nil | refine TmW.upd ?_ (by simp (maxDischargeDepth := 120) [hm]))) (by repeat (first | exact BxW.nil | refine BxW.upd ?_ (by simp (maxDischargeDepth := 120) [hm]))) InjW.id
 refine WK.reg 500 Tryz.ntmps158 (by kernel_rfl) ?_
 intro A hA Q hQ
 simp [g2, m2', m4', i2, j2]
 refine RunQ.call rfl rfl rfl rfl (by rfl) (by simp (maxDischargeDepth := 120)) (hfi) (by simp) ?_
 refine RunQ.eval ?_
 simp
 refine hQ _ _ ?_
 clear hQ hA
 repeat (apply WK.seq)
 refine WK.reg 600 Tryz.ntmps158 (by kernel_rfl) ?_
 intro A hA Q hQ
 simp
 refine RunQ.call rfl rfl rfl rfl (by rfl) (by simp (maxDischargeDepth := 120)) (hfs) (by simp) ?_
 refine RunQ.eval ?_
 simp
 refine hQ _ _ ?_
 clear hQ hA
 repeat (apply WK.seq)
 apply WK.cut (⟨(upd (upd (upd (upd (upd (upd J 0 (.sl false b.length (byL b))) 6 (.int .i64 (bAt b 3 : Nat))) 7 (.bool (hMasked b))) 8 (.int .i64 (hField b).1)) 9 (.bool (hField b).2)) 10 (.int .i64 (hWant b))), B0, 0⟩ : St)
 · intro hcut
   refine WK.reg 700 Tryz.ntmps158 (by kernel_rfl) ?_
   intro A hA Q hQ
   simp
   refine hQ _ _ ?_
   clear hQ hA
   cases hm : hMasked b
   · have ew : hWant b = fSize (hField b).1 := by unfold hWant; rw [hm]; rfl
     refine WK.c2 rfl (fun h => ?_) (fun h => ?_)
     · cases h
     · repeat (first | apply WK.seq | apply WK.block | apply WK.skip)
       refine WK.next (fun n => n) hcut (by repeat (first | exact TmW.nil | refine TmW.upd ?_ (by simp (maxDischargeDepth := 120) [ew, hm]))) (by repeat (first | exact BxW.nil | refine BxW.upd ?_ (by simp (maxDischargeDepth := 120) [ew, hm]))) InjW.id
   · have ew : hWant b = fSize (hField b).1 * 2 := by unfold hWant; rw [hm]; rfl
     have w1 : IntKind.i64.wrap ((fSize (hField b).1 : Int) * 2) = (fSize (hField b).1 : Int) * 2 := wrap_i64 (by omega) (by omega)
     refine WK.c2 rfl (fun h => ?_) (fun h => ?_)
     · refine WK.reg 800 Tryz.ntmps158 (by kernel_rfl) ?_
       intro A hA Q hQ
       simp [w1]
       refine hQ _ _ ?_
       clear hQ hA
       repeat (first | apply WK.seq | apply WK.block)
       refine WK.next (fun n => n) hcut (by repeat (first | exact TmW.nil | refine TmW.upd ?_ (by simp (maxDischargeDepth := 120) [ew, w1, hm]))) (by repeat (first | exact BxW.nil | refine BxW.upd ?_ (by simp (maxDischargeDepth := 120) [ew, w1, hm]))) InjW.id
     · cases h
 have w4 : IntKind.i64.wrap (4 + (bAt b 3 : Int)) = 4 + (bAt b 3 : Int) := wrap_i64 (by omega) (by omega)
 by_cases c1 : b.length < 4 + bAt b 3
 · have e : hCode b = 1 := by unfold hCode; rw [if_neg h4, if_pos c1]
   have er : hRes b = [.int .i64 0, .bool false, .int .i64 0, .int .i64 1] := by unfold hRes; rw [if_neg (by omega), e]
   have d1 : (b.length : Int) < 4 + (bAt b 3 : Int) := by omega
   rw [er]
   refine WK.reg 900 Tryz.ntmps158 (by kernel_rfl) ?_
   intro A hA Q hQ
   simp [w4, d1]
   refine hQ _ _ ?_
   clear hQ hA
   refine WK.c2 rfl (fun h => ?_) (fun h => ?_)
   · repeat (apply WK.seq)
     refine WK.reg 1000 Tryz.ntmps158 (by kernel_rfl) ?_
     intro A hA Q hQ
     simp
     refine hQ _ _ ?_
     clear hQ hA
     refine WK.ret Tryz.func158 (by simp (maxDischargeDepth := 120) [Tryz.results158]) (by simp)
   · cases h
 have d1 : ¬ (b.length : Int) < 4 + (bAt b 3 : Int) := by omega
 refine WK.reg 1100 Tryz.ntmps158 (by kernel_rfl) ?_
 intro A hA Q hQ
 simp [w4, d1]
 refine hQ _ _ ?_
 clear hQ hA
 refine WK.c2 rfl (fun h => ?_) (fun h => ?_)
 · cases h
 have z0 : (bI (nth b 0) == 128) = (bAt b 0 == 128) := by rw [bI_nat, Bool.eq_iff_iff, beq_iff_eq, beq_iff_eq]; omega
 have z1 : (bI (nth b 1) == 0) = (bAt b 1 == 0) := by rw [bI_nat, Bool.eq_iff_iff, beq_iff_eq, beq_iff_eq]; omega
 have z3 : ((bAt b 3 : Int) == (hWant b : Int)) = (bAt b 3 == hWant b) := by rw [Bool.eq_iff_iff, beq_iff_eq, beq_iff_eq]; omega
 repeat (apply WK.seq)
 apply WK.cut (⟨(upd (upd (upd (upd (upd (upd (upd J 0 (.sl false b.length (byL b))) 6 (.int .i64 (bAt b 3 : Nat))) 7 (.bool (hMasked b))) 8 (.int .i64 (hField b).1)) 9 (.bool (hField b).2)) 10 (.int .i64 (hWant b))) 43 (.bool (bAt b 0 != 128 || (bAt b 1 != 0 || !(hField b).2)))), B0, 0⟩ : St)
 · intro hcut
   cases k0 : bAt b 0 == 128
   · rw [k0] at z0
     refine WK.reg 1200 Tryz.ntmps158 (by kernel_rfl) ?_
     intro A hA Q hQ
     have hg4 : (A[4]?).bind (·.dst) = some 48 := by rw [hA]; rfl
     have hg10 : (A[10]?).bind (·.dst) = some 54 := by rw [hA]; rfl
     simp [g0, g1, i0, i1, j0, j1, z0, bne, hg4, hg10]
     refine hQ _ _ ?_
     clear hQ hA
     refine WK.next (fun n => n) hcut (by repeat (first | exact TmW.nil | refine TmW.upd ?_ (by simp (maxDischargeDepth := 120) [bne, k0]))) (by repeat (first | exact BxW.nil | refine BxW.upd ?_ (by simp (maxDischargeDepth := 120) [bne, k0]))) InjW.id
   · rw [k0] at z0
     cases k1 : bAt b 1 == 0
     · rw [k1] at z1
       refine WK.reg 1300 Tryz.ntmps158 (by kernel_rfl) ?_
       intro A hA Q hQ
       have hg4 : (A[4]?).bind (·.dst) = some 48 := by rw [hA]; rfl
       have hg10 : (A[10]?).bind (·.dst) = some 54 := by rw [hA]; rfl
       simp [g0, g1, i0, i1, j0, j1, z0, z1, bne, hg4, hg10]
       refine hQ _ _ ?_
       clear hQ hA
       refine WK.next (fun n => n) hcut (by repeat (first | exact TmW.nil | refine TmW.upd ?_ (by simp (maxDischargeDepth := 120) [bne, k0, k1]))) (by repeat (first | exact BxW.nil | refine BxW.upd ?_ (by simp (maxDischargeDepth := 120) [bne, k0, k1]))) InjW.id
     · rw [k1] at z1
       refine WK.reg 1400 Tryz.ntmps158 (by kernel_rfl) ?_
       intro A hA Q hQ
       have hg4 : (A[4]?).bind (·.dst) = some 48 := by rw [hA]; rfl
       have hg10 : (A[10]?).bind (·.dst) = some 54 := by rw [hA]; rfl
       simp [g0, g1, i0, i1, j0, j1, z0, z1, bne, hg4, hg10]
       refine hQ _ _ ?_
       clear hQ hA
       refine WK.next (fun n => n) hcut (by repeat (first | exact TmW.nil | refine TmW.upd ?_ (by simp (maxDischargeDepth := 120) [bne, k0, k1]))) (by repeat (first | exact BxW.nil | refine BxW.upd ?_ (by simp (maxDischargeDepth := 120) [bne, k0, k1]))) InjW.id
 refine WK.c2 rfl (fun h6 => ?_) (fun h6 => ?_)
 · have e : hCode b = 6 := by unfold hCode; rw [if_neg h4, if_neg c1, if_pos h6]
   have er : hRes b = [.int .i64 0, .bool false, .int .i64 0, .int .i64 6] := by unfold hRes; rw [if_neg (by omega), e]
   rw [er]
   repeat (apply WK.seq)
   refine WK.reg 1500 Tryz.ntmps158 (by kernel_rfl) ?_
   intro A hA Q hQ
   simp
   refine hQ _ _ ?_
   clear hQ hA
   refine WK.ret Tryz.func158 (by simp (maxDischargeDepth := 120) [Tryz.results158]) (by simp)
 have h6' : ¬ (bAt b 0 != 128 || (bAt b 1 != 0 || !(hField b).2)) = true := by rw [h6]; exact Bool.false_ne_true
 have hmk := fmasks_c (hField b).1
 repeat (apply WK.seq)
 apply WK.cut (⟨(upd (upd (upd (upd (upd (upd (upd J 0 (.sl false b.length (byL b))) 6 (.int .i64 (bAt b 3 : Nat))) 7 (.bool (hMasked b))) 8 (.int .i64 (hField b).1)) 9 (.bool (hField b).2)) 10 (.int .i64 (hWant b))) 58 (.bool (hMasked b && !fMasks (hField b).1))), B0, 0⟩ : St)
 · intro hcut
   cases k0 : hMasked b
   · refine WK.reg 1600 Tryz.ntmps158 (by kernel_rfl) ?_
     intro A hA Q hQ
     have hg1 : (A[1]?).bind (·.dst) = some 60 := by rw [hA]; rfl
     simp [k0, hg1]
     refine hQ _ _ ?_
     clear hQ hA
     refine WK.next (fun n => n) hcut (by repeat (first | exact TmW.nil | refine TmW.upd ?_ (by simp (maxDischargeDepth := 120) [k0]))) (by repeat (first | exact BxW.nil | refine BxW.upd ?_ (by simp (maxDischargeDepth := 120) [k0]))) InjW.id
   · refine WK.reg 1700 Tryz.ntmps158 (by kernel_rfl) ?_
     intro A hA Q hQ
     have hg1 : (A[1]?).bind (·.dst) = some 60 := by rw [hA]; rfl
     simp [k0, hg1]
     refine RunQ.callG rfl rfl (by simp [hg1]) rfl (by rfl) (by simp (maxDischargeDepth := 120) [hg1]) (hmk) (by simp [hg1]) ?_
     refine RunQ.eval ?_
     simp [hg1]
     refine hQ _ _ ?_
     clear hQ hA
     refine WK.next (fun n => n) hcut (by repeat (first | exact TmW.nil | refine TmW.upd ?_ (by simp (maxDischargeDepth := 120) [k0]))) (by repeat (first | exact BxW.nil | refine BxW.upd ?_ (by simp (maxDischargeDepth := 120) [k0]))) InjW.id
 refine WK.c2 rfl (fun h8 => ?_) (fun h8 => ?_)
 · have e : hCode b = 8 := by unfold hCode; rw [if_neg h4, if_neg c1, if_neg h6', if_pos h8]
   have er : hRes b = [.int .i64 0, .bool false, .int .i64 0, .int .i64 8] := by unfold hRes; rw [if_neg (by omega), e]
   rw [er]
   repeat (apply WK.seq)
   refine WK.reg 1800 Tryz.ntmps158 (by kernel_rfl) ?_
   intro A hA Q hQ
   simp
   refine hQ _ _ ?_
   clear hQ hA
   refine WK.ret Tryz.func158 (by simp (maxDischargeDepth := 120) [Tryz.results158]) (by simp)
 have h8' : ¬ (hMasked b && !fMasks (hField b).1) = true := by rw [h8]; exact Bool.false_ne_true
 cases k3 : bAt b 3 == hWant b
 · rw [k3] at z3
   have e : hCode b = 1 := by unfold hCode; rw [if_neg h4, if_neg c1, if_neg h6', if_neg h8', if_pos (by rw [bne, k3]; rfl)]
   have er : hRes b = [.int .i64 0, .bool false, .int .i64 0, .int .i64 1] := by unfold hRes; rw [if_neg (by omega), e]
   rw [er]
   repeat (apply WK.seq)
   refine WK.reg 1900 Tryz.ntmps158 (by kernel_rfl) ?_
   intro A hA Q hQ
   simp [z3, bne]
   refine hQ _ _ ?_
   clear hQ hA
   refine WK.c2 rfl (fun h => ?_) (fun h => ?_)
   · repeat (apply WK.seq)
     refine WK.reg 2000 Tryz.ntmps158 (by kernel_rfl) ?_
     intro A hA Q hQ
     simp
     refine hQ _ _ ?_
     clear hQ hA
     refine WK.ret Tryz.func158 (by simp (maxDischargeDepth := 120) [Tryz.results158]) (by simp)
   · cases h
 · rw [k3] at z3
   have e : hCode b = 0 := by unfold hCode; rw [if_neg h4, if_neg c1, if_neg h6', if_neg h8', if_neg (by rw [bne, k3]; exact Bool.false_ne_true)]
   have er : hRes b = [.int .i64 (hField b).1, .bool (hMasked b), .int .i64 (bAt b 3 : Nat), .int .i64 0] := by unfold hRes; rw [if_pos e]
   rw [er]
   repeat (apply WK.seq)
   refine WK.reg 2100 Tryz.ntmps158 (by kernel_rfl) ?_
   intro A hA Q hQ
   simp [z3, bne]
   refine hQ _ _ ?_
   clear hQ hA
   refine WK.c2 rfl (fun h => ?_) (fun h => ?_)
   · cases h
   · repeat (first | apply WK.seq | apply WK.inBlock | apply WK.skip)
     refine WK.reg 2200 Tryz.ntmps158 (by kernel_rfl) ?_
     intro A hA Q hQ
     simp
     refine hQ _ _ ?_
     clear hQ hA
     refine WK.ret Tryz.func158 (by simp (maxDischargeDepth := 120) [Tryz.results158]) (by simp)

def oxm0 : Oxm := ⟨0, false, wideZ, wideZ⟩
def oRead (b : List (BitVec 8)) : Oxm := ⟨(hField b).1, hMasked b, (wGet (b.drop 4) (fSize (hField b).1)).1,
 if hMasked b then (wGet (b.drop (4 + fSize (hField b).1)) (fSize (hField b).1)).1 else wideZ⟩
def oDec (b : List (BitVec 8)) : Oxm × Int × Int :=
 if hCode b = 0 then (if Oxm.form (oRead b) = 0 then (oRead b, 4 + bAt b 3, 0) else (oxm0, 0, Oxm.form (oRead b))) else (oxm0, 0, hCode b)
def oFault (c : Int) : List AV := if c = 0 then [.bool false, .int .i64 0, .int .i64 0] else [.bool true, .int .i64 4, .int .i64 c]
theorem oxm0_enc : oxm0.enc = [.int .i64 0, .bool false, .int .u64 0, .int .u64 0, .int .u64 0, .int .u64 0] := rfl
set_option maxHeartbeats 4000000 in
theorem odec_c (b : List (BitVec 8)) (hb0 : b.length ≤ 9223372036854775807) : FnP Tryz.prog 129 [byS b] (.tup [.agg (oDec b).1.enc, .int .i64 (oDec b).2.1, .agg (oFault (oDec b).2.2)]) := by
 have hh := ohead_c b hb0
 by_cases k : hCode b = 0
 case neg =>
   have er : hRes b = [.int .i64 0, .bool false, .int .i64 0, .int .i64 (hCode b)] := by unfold hRes; rw [if_neg k]
   have e : oDec b = (oxm0, 0, hCode b) := by unfold oDec; rw [if_neg k]
   have kb : (hCode b == 0) = false := beq_eq_false_iff_ne.2 k
   rw [er] at hh
   unfold byS at hh ⊢
   refine FnP.intro Tryz.func129 rfl rfl fun G w => ?_
   repeat (apply WK.seq)
   refine WK.reg 100 Tryz.ntmps129 (by kernel_rfl) ?_
   intro A hA Q hQ
   simp
   refine hQ _ _ ?_
   clear hQ hA
   repeat (apply WK.seq)
   refine WK.reg 200 Tryz.ntmps129 (by kernel_rfl) ?_
   intro A hA Q hQ
   simp
   refine RunQ.call rfl rfl rfl rfl (by rfl) (by simp (maxDischargeDepth := 120)) (hh) (by simp) ?_
   refine RunQ.eval ?_
   simp
   refine hQ _ _ ?_
   clear hQ hA
   repeat (apply WK.seq)
   refine WK.reg 300 Tryz.ntmps129 (by kernel_rfl) ?_
   intro A hA Q hQ
   simp [kb, bne]
   refine hQ _ _ ?_
   clear hQ hA
   refine WK.c2 rfl (fun h => ?_) (fun h => ?_)
   · repeat (apply WK.seq)
     refine WK.reg 400 Tryz.ntmps129 (by kernel_rfl) ?_
     intro A hA Q hQ
     simp
     refine RunQ.call rfl rfl rfl rfl (by rfl) (by simp (maxDischargeDepth := 120)) (obad_c (hCode b)) (by simp) ?_
     refine RunQ.eval ?_
     simp
     refine hQ _ _ ?_
     clear hQ hA
     refine WK.ret Tryz.func129 (by simp (maxDischargeDepth := 120) [Tryz.results129, e, oxm0_enc, oFault, k]) (by simp [e, oxm0_enc, oFault, k])
   · cases h
 have er : hRes b = [.int .i64 (hField b).1, .bool (hMasked b), .int .i64 (bAt b 3 : Nat), .int .i64 0] := by unfold hRes; rw [if_pos k]
 have hk : 4 + bAt b 3 ≤ b.length ∧ bAt b 3 = hWant b := by
   unfold hCode at k
   split at k
   · cases k
   split at k
   · cases k
   split at k
   · cases k
   split at k
   · cases k
   split at k
   · cases k
   · rename_i h1 h2 h3 h4 h5
     simp at h5
     exact ⟨by omega, h5⟩
 have hl3 := bAt_lt b 3
 have hsz := fSize_le (hField b).1
 have hws : fSize (hField b).1 ≤ hWant b := by unfold hWant; split <;> omega
 have hfs := fsize_c (hField b).1
 obtain ⟨s, hs⟩ : ∃ s, s = fSize (hField b).1 := ⟨_, rfl⟩
 rw [← hs] at hfs hsz hws
 have q1 := wget_c (b.drop 4) s hsz (by rw [List.length_drop]; omega)
 have q2 := wget_c (b.drop (4 + s)) s hsz (by rw [List.length_drop]; omega)
 have hfo := oform_c (oRead b)
 have hR : oRead b = ⟨(hField b).1, hMasked b, (wGet (b.drop 4) s).1, if hMasked b then (wGet (b.drop (4 + s)) s).1 else wideZ⟩ := by unfold oRead; rw [← hs]
 have d4 : ((byL b).drop 4).take (b.length - 4) = byL (b.drop 4) := by rw [byL_drop]; exact by_full _ _ (by rw [List.length_drop])
 have d5 : ((byL b).drop (4 + s)).take (b.length - (4 + s)) = byL (b.drop (4 + s)) := by rw [byL_drop]; exact by_full _ _ (by rw [List.length_drop])
 have j4 : (4 : Int) ≤ b.length := by omega
 have j5 : 4 + (s : Int) ≤ b.length := by omega
 have j6 : (4 + (s : Int)).toNat = 4 + s := by omega
 have j7 : (0 : Int) ≤ 4 + (s : Int) := by omega
 have w5 : IntKind.i64.wrap (4 + (s : Int)) = 4 + (s : Int) := wrap_i64 (by omega) (by omega)
 rw [er] at hh
 unfold byS at hh q1 q2 ⊢
 rw [List.length_drop] at q1 q2
 obtain ⟨v1, hv1⟩ : ∃ v1, v1 = wGet (b.drop 4) s := ⟨_, rfl⟩
 obtain ⟨v2, hv2⟩ : ∃ v2, v2 = wGet (b.drop (4 + s)) s := ⟨_, rfl⟩
 rw [← hv1] at q1 hR
 rw [← hv2] at q2 hR
 refine FnP.intro Tryz.func129 rfl rfl fun G w => ?_
 repeat (apply WK.seq)
 refine WK.reg 100 Tryz.ntmps129 (by kernel_rfl) ?_
 intro A hA Q hQ
 simp
 refine hQ _ _ ?_
 clear hQ hA
 repeat (apply WK.seq)
 refine WK.reg 200 Tryz.ntmps129 (by kernel_rfl) ?_
 intro A hA Q hQ
 simp
 refine RunQ.call rfl rfl rfl rfl (by rfl) (by simp (maxDischargeDepth := 120)) (hh) (by simp) ?_
 refine RunQ.eval ?_
 simp
 refine hQ _ _ ?_
 clear hQ hA
 repeat (apply WK.seq)
 refine WK.reg 300 Tryz.ntmps129 (by kernel_rfl) ?_
 intro A hA Q hQ
 simp
 refine hQ _ _ ?_
 clear hQ hA
 refine WK.c2 rfl (fun h => ?_) (fun h => ?_)
 · cases h
 repeat (first | apply WK.seq | apply WK.skip)
 refine WK.reg 400 Tryz.ntmps129 (by kernel_rfl) ?_
 intro A hA Q hQ
 simp
 refine hQ _ _ ?_
 clear hQ hA
 repeat (apply WK.seq)
 refine WK.reg 500 Tryz.ntmps129 (by kernel_rfl) ?_
 intro A hA Q hQ
 simp
 refine RunQ.call rfl rfl rfl rfl (by rfl) (by simp (maxDischargeDepth := 120)) (hfs) (by simp) ?_
 refine RunQ.eval ?_
 simp
 refine hQ _ _ ?_
 clear hQ hA
 repeat (apply WK.seq)
 refine WK.reg 600 Tryz.ntmps129 (by kernel_rfl) ?_
 intro A hA Q hQ
 simp [j4, d4]
 refine RunQ.call rfl rfl rfl rfl (by rfl) (by simp (maxDischargeDepth := 120)) (q1) (by simp) ?_
 refine RunQ.eval ?_
 simp
 refine hQ _ _ ?_
 clear hQ hA
 repeat (apply WK.seq)
 apply WK.cut (⟨(upd (upd (upd (upd J 2 (.ptr 0 0)) 4 (.ptr 2 0)) 7 (.int .i64 (bAt b 3 : Nat))) 9 (.ptr 303 0)), (upd (upd (upd B0 0 (.var oxm0.enc)) 2 (.var [.bool false, .int .i64 0, .int .i64 0])) 303 (.var (oRead b).enc)), 0⟩ : St)
 · intro hcut
   rw [hR] at hcut
   cases m : hMasked b
   · rw [m] at hcut
     refine WK.reg 700 Tryz.ntmps129 (by kernel_rfl) ?_
     intro A hA Q hQ
     simp
     refine hQ _ _ ?_
     clear hQ hA
     refine WK.c2 rfl (fun h => ?_) (fun h => ?_)
     · cases h
     · repeat (first | apply WK.seq | apply WK.skip)
       refine WK.next (fun n => n) hcut (by repeat (first | exact TmW.nil | refine TmW.upd ?_ (by simp (maxDischargeDepth := 120) [m, oxm0, Oxm.enc, Wide.enc, wideZ, uZ_]))) (by repeat (first | exact BxW.nil | refine BxW.upd ?_ (by simp (maxDischargeDepth := 120) [m, oxm0, Oxm.enc, Wide.enc, wideZ, uZ_]))) InjW.id
   · rw [m] at hcut
     refine WK.reg 800 Tryz.ntmps129 (by kernel_rfl) ?_
     intro A hA Q hQ
     simp
     refine hQ _ _ ?_
     clear hQ hA
     refine WK.c2 rfl (fun h => ?_) (fun h => ?_)
     · refine WK.reg 900 Tryz.ntmps129 (by kernel_rfl) ?_
       intro A hA Q hQ
       simp [w5, j5, j6, j7, d5]
       refine RunQ.call rfl rfl rfl rfl (by rfl) (by simp (maxDischargeDepth := 120)) (q2) (by simp) ?_
       refine RunQ.eval ?_
       simp
       refine hQ _ _ ?_
       clear hQ hA
       repeat (apply WK.seq)
       refine WK.next (fun n => n) hcut (by repeat (first | exact TmW.nil | refine TmW.upd ?_ (by simp (maxDischargeDepth := 120) [m, oxm0, Oxm.enc, Wide.enc, wideZ, uZ_]))) (by repeat (first | exact BxW.nil | refine BxW.upd ?_ (by simp (maxDischargeDepth := 120) [m, oxm0, Oxm.enc, Wide.enc, wideZ, uZ_]))) InjW.id
     · cases h
 refine WK.ghost (Ghost.frzVar 9 rfl rfl) ?_
 have w6 : IntKind.i64.wrap (4 + (bAt b 3 : Int)) = 4 + (bAt b 3 : Int) := wrap_i64 (by omega) (by omega)
 simp only [Oxm.enc] at hfo
 by_cases c : Oxm.form (oRead b) = 0
 · have e : oDec b = (oRead b, 4 + (bAt b 3 : Int), 0) := by unfold oDec; rw [if_pos k, if_pos c]
   rw [c] at hfo
   refine WK.reg 1000 Tryz.ntmps129 (by kernel_rfl) ?_
   intro A hA Q hQ
   simp [Oxm.enc]
   refine RunQ.call rfl rfl rfl rfl (by rfl) (by simp (maxDischargeDepth := 120)) (hfo) (by simp) ?_
   refine RunQ.eval ?_
   simp
   refine hQ _ _ ?_
   clear hQ hA
   repeat (apply WK.seq)
   refine WK.reg 1100 Tryz.ntmps129 (by kernel_rfl) ?_
   intro A hA Q hQ
   simp
   refine hQ _ _ ?_
   clear hQ hA
   refine WK.c2 rfl (fun h => ?_) (fun h => ?_)
   · cases h
   · repeat (first | apply WK.seq | apply WK.skip)
     refine WK.reg 1200 Tryz.ntmps129 (by kernel_rfl) ?_
     intro A hA Q hQ
     simp [w6, Oxm.enc, oxm0_enc]
     refine hQ _ _ ?_
     clear hQ hA
     refine WK.ret Tryz.func129 (by simp (maxDischargeDepth := 120) [Tryz.results129, e, oFault, Oxm.enc]) (by simp [e, oFault, Oxm.enc])
 · have e : oDec b = (oxm0, 0, Oxm.form (oRead b)) := by unfold oDec; rw [if_pos k, if_neg c]
   have cb : (Oxm.form (oRead b) == 0) = false := beq_eq_false_iff_ne.2 c
   refine WK.reg 1300 Tryz.ntmps129 (by kernel_rfl) ?_
   intro A hA Q hQ
   simp [Oxm.enc]
   refine RunQ.call rfl rfl rfl rfl (by rfl) (by simp (maxDischargeDepth := 120)) (hfo) (by simp) ?_
   refine RunQ.eval ?_
   simp
   refine hQ _ _ ?_
   clear hQ hA
   repeat (apply WK.seq)
   refine WK.reg 1400 Tryz.ntmps129 (by kernel_rfl) ?_
   intro A hA Q hQ
   simp [cb, bne]
   refine hQ _ _ ?_
   clear hQ hA
   refine WK.c2 rfl (fun h => ?_) (fun h => ?_)
   · repeat (apply WK.seq)
     refine WK.reg 1500 Tryz.ntmps129 (by kernel_rfl) ?_
     intro A hA Q hQ
     simp [Oxm.enc, oxm0_enc]
     refine RunQ.call rfl rfl rfl rfl (by rfl) (by simp (maxDischargeDepth := 120)) (obad_c (Oxm.form (oRead b))) (by simp) ?_
     refine RunQ.eval ?_
     simp
     refine hQ _ _ ?_
     clear hQ hA
     refine WK.ret Tryz.func129 (by simp (maxDischargeDepth := 120) [Tryz.results129, e, oFault, c, oxm0_enc]) (by simp [e, oFault, c, oxm0_enc])
   · cases h
end Go.Proofs.YtcccfbjkcahgfaaGreat

namespace Go.Proofs.YtcccfbjkcahgfaaGreat
open Go Go.AI Go.Proofs
attribute [local irreducible] FnP FnO FnB FnT FnSeq WK RunQ RunQW RunX RunXW
def act0 : Action := ⟨0, 0, 0, 0, 0, oxm0⟩
def aSets (f : Int) : Bool := fRight f && (f != 0 && f != 1)
def aGoes (p : Int) : Bool := (decide (0 < p) && decide (p ≤ 4294967040)) || p == 4294967293
def aMost (a : Action) : Bool := decide (0 ≤ a.max) && (decide (a.max ≤ 65535) && (a.max == 0 || a.port == 4294967293))
def Action.bare (a : Action) : Action := if a.kind = 0 then ⟨0, a.port, a.max, 0, 0, oxm0⟩ else if a.kind = 22 then ⟨22, 0, 0, a.group, 0, oxm0⟩ else if a.kind = 17 then ⟨17, 0, 0, 0, a.ether, oxm0⟩
 else if a.kind = 25 then ⟨25, 0, 0, 0, 0, a.oxm⟩ else ⟨a.kind, 0, 0, 0, 0, oxm0⟩
def Action.fine (a : Action) : Bool := if a.kind = 0 then aGoes a.port && aMost a else if a.kind = 22 then decide (0 ≤ a.group) && decide (a.group ≤ 4294967040) else if a.kind = 17 then a.ether == 33024 || a.ether == 34984
 else if a.kind = 18 then true else if a.kind = 25 then Oxm.right a.oxm && (!a.oxm.masked && aSets a.oxm.field) else false
def Action.right (a : Action) : Bool := Action.fine a && a == Action.bare a
theorem asets_c (f : Int) : FnP Tryz.prog 207 [.int .i64 f] (.bool (aSets f)) := by
 refine FnP.intro Tryz.func207 rfl rfl fun G w => ?_
 repeat' (first | apply WK.seq | (refine hQ.h _ _ ?_; clear hQ hA) | (refine Fork.mk (fun h => ?_) (fun h => ?_) <;> (first | (simp [*] at h; done) | (have h2 := h; simp at h2; exfalso; omega) | (have h2 := h; simp at h2; try simp only [Bool.not_eq_true', Bool.not_eq_false'] at h) | skip)) | (refine WK.rH Tryz.ntmps207 (by kernel_rfl) ?_; intro A hA Q hQ; simp [bne, *]) | (refine RunQ.gd rfl (by rw [hA.h]; rfl) ?_; simp [bne, *]) | (refine RunQ.k rfl rfl rfl rfl rfl ?_ (fright_c f) ?_ ?_ <;> simp (maxDischargeDepth := 120) [bne, *] <;> refine ⟨?_⟩) | (refine WK.ret Tryz.func207 ?_ ?_ <;> simp (maxDischargeDepth := 120) [Tryz.results207, bne, aSets, *]))
theorem rasets_c (f : Int) : FnP Tryz.prog 180 [.int .i64 f] (.bool (aSets f)) := by
 refine FnP.intro Tryz.func180 rfl rfl fun G w => ?_
 repeat' (first | apply WK.seq | (refine hQ.h _ _ ?_; clear hQ hA) | (refine Fork.mk (fun h => ?_) (fun h => ?_) <;> (first | (simp [*] at h; done) | (have h2 := h; simp at h2; exfalso; omega) | (have h2 := h; simp at h2; try simp only [Bool.not_eq_true', Bool.not_eq_false'] at h) | skip)) | (refine WK.rH Tryz.ntmps180 (by kernel_rfl) ?_; intro A hA Q hQ; simp [bne, *]) | (refine RunQ.gd rfl (by rw [hA.h]; rfl) ?_; simp [bne, *]) | (refine RunQ.k rfl rfl rfl rfl rfl ?_ (rfright_c f) ?_ ?_ <;> simp (maxDischargeDepth := 120) [bne, *] <;> refine ⟨?_⟩) | (refine WK.ret Tryz.func180 ?_ ?_ <;> simp (maxDischargeDepth := 120) [Tryz.results180, bne, aSets, *]))
theorem agoes_c (p : Int) : FnP Tryz.prog 209 [.int .i64 p] (.bool (aGoes p)) := by
 refine FnP.intro Tryz.func209 rfl rfl fun G w => ?_
 repeat' (first | apply WK.seq | (refine hQ.h _ _ ?_; clear hQ hA) | (refine Fork.mk (fun h => ?_) (fun h => ?_) <;> (first | (simp [*] at h; done) | (have h2 := h; simp at h2; exfalso; omega) | (have h2 := h; simp at h2; try simp only [Bool.not_eq_true', Bool.not_eq_false'] at h) | skip)) | (refine WK.rH Tryz.ntmps209 (by kernel_rfl) ?_; intro A hA Q hQ; simp [*]) | (refine RunQ.gd rfl (by rw [hA.h]; rfl) ?_; simp [*]) | (refine WK.ret Tryz.func209 ?_ ?_ <;> simp (maxDischargeDepth := 120) [Tryz.results209, aGoes, *]))
theorem ragoes_c (p : Int) : FnP Tryz.prog 177 [.int .i64 p] (.bool (aGoes p)) := by
 have e : decide (1 ≤ p) = decide (0 < p) := decide_eq_decide.2 (by omega)
 refine FnP.intro Tryz.func177 rfl rfl fun G w => ?_
 repeat' (first | apply WK.seq | (refine hQ.h _ _ ?_; clear hQ hA) | (refine Fork.mk (fun h => ?_) (fun h => ?_) <;> (first | (simp [*] at h; done) | (have h2 := h; simp at h2; exfalso; omega) | (have h2 := h; simp at h2; try simp only [Bool.not_eq_true', Bool.not_eq_false'] at h) | skip)) | (refine WK.rH Tryz.ntmps177 (by kernel_rfl) ?_; intro A hA Q hQ; simp [e, *]) | (refine RunQ.gd rfl (by rw [hA.h]; rfl) ?_; simp [e, *]) | (refine WK.ret Tryz.func177 ?_ ?_ <;> simp (maxDischargeDepth := 120) [Tryz.results177, e, aGoes, *]))
set_option maxHeartbeats 4000000 in
theorem aright_c (a : Action) : FnP Tryz.prog 210 [.agg a.enc] (.bool (Action.right a)) := by
 have ho := oright_c a.oxm
 simp only [Oxm.enc] at ho
 have g : aGoes 4294967293 = true := rfl
 refine FnP.intro Tryz.func210 rfl rfl fun G w => ?_
 repeat' (first | apply WK.seq | apply WK.block | apply WK.inBlock | apply WK.skip | (refine hQ.h _ _ ?_; clear hQ hA) | (refine WK.c2 rfl (fun h => ?_) (fun h => ?_) <;> (first | (simp [*] at h; done) | (have h2 := h; simp at h2; exfalso; omega) | (have h2 := h; simp at h2; try simp only [Bool.not_eq_true', Bool.not_eq_false'] at h) | skip)) | (refine Fork.mk (fun h => ?_) (fun h => ?_) <;> (first | (simp [*] at h; done) | (have h2 := h; simp at h2; exfalso; omega) | (have h2 := h; simp at h2; try simp only [Bool.not_eq_true', Bool.not_eq_false'] at h) | skip)) | (refine WK.rH Tryz.ntmps210 (by kernel_rfl) ?_; intro A hA Q hQ; simp [Action.enc, *]) | (refine WK.rX (by kernel_rfl) Tryz.ntmps210 (by kernel_rfl) ?_; intro A hA Q hQ; simp [Action.enc, *]) | (refine hQ.h _ _ _ (by decide +kernel) ?_; clear hQ hA) | (refine RunQ.gd rfl (by rw [hA.h]; rfl) ?_; simp [Action.enc, *]) | (refine RunQ.k rfl rfl rfl rfl rfl ?_ (agoes_c a.port) ?_ ?_ <;> simp (maxDischargeDepth := 120) [Action.enc, *] <;> refine ⟨?_⟩) | (refine RunQ.k rfl rfl rfl rfl rfl ?_ (ho) ?_ ?_ <;> simp (maxDischargeDepth := 120) [Action.enc, *] <;> refine ⟨?_⟩) | (refine RunQW.k rfl rfl rfl rfl ?_ (asets_c a.oxm.field) ?_ ?_ <;> simp (maxDischargeDepth := 120) [Action.enc, *] <;> refine ⟨?_⟩) | (refine WK.ret Tryz.func210 ?_ ?_ <;> simp (maxDischargeDepth := 120) [Tryz.results210, Action.enc, Action.right, Action.fine, aMost, Action.bare, Action.beq, Oxm.beq, oxm0, wideZ, *]))
set_option maxHeartbeats 4000000 in
theorem ramost_c (a : Action) : FnP Tryz.prog 179 [.agg a.enc] (.bool (a.max == 0 || (a.port == 4294967293 && (decide (0 < a.max) && decide (a.max ≤ 65535))))) := by
 refine FnP.intro Tryz.func179 rfl rfl fun G w => ?_
 repeat' (first | apply WK.seq | (refine hQ.h _ _ ?_; clear hQ hA) | (refine Fork.mk (fun h => ?_) (fun h => ?_) <;> (first | (simp [*] at h; done) | (have h2 := h; simp at h2; exfalso; omega) | (have h2 := h; simp at h2; try simp only [Bool.not_eq_true', Bool.not_eq_false'] at h) | skip)) | (refine WK.rH Tryz.ntmps179 (by kernel_rfl) ?_; intro A hA Q hQ; simp [Action.enc, *]) | (refine RunQ.gd rfl (by rw [hA.h]; rfl) ?_; simp [Action.enc, *]) | (refine WK.ret Tryz.func179 ?_ ?_ <;> simp (maxDischargeDepth := 120) [Tryz.results179, Action.enc, *]))
theorem ramost_eq (a : Action) : (a.max == 0 || (a.port == 4294967293 && (decide (0 < a.max) && decide (a.max ≤ 65535)))) = aMost a := by
 unfold aMost
 rw [Bool.eq_iff_iff]; simp only [Bool.or_eq_true, Bool.and_eq_true, beq_iff_eq, decide_eq_true_eq]; omega
set_option maxHeartbeats 4000000 in
theorem raright_c (a : Action) : FnP Tryz.prog 153 [.agg a.enc] (.bool (Action.right a)) := by
 have ho := roright_c a.oxm
 have hm := ramost_c a
 rw [ramost_eq] at hm
 have s0 := rasame_c a ⟨0, a.port, a.max, 0, 0, oxm0⟩
 have s1 := rasame_c a ⟨22, 0, 0, a.group, 0, oxm0⟩
 have s2 := rasame_c a ⟨17, 0, 0, 0, a.ether, oxm0⟩
 have s3 := rasame_c a ⟨18, 0, 0, 0, 0, oxm0⟩
 have s4 := rasame_c a ⟨25, 0, 0, 0, 0, a.oxm⟩
 obtain ⟨k, port, max, group, ether, oxm⟩ := a
 by_cases k0 : k = 0
 · subst k0
   simp only [Action.enc, Oxm.enc, oxm0, wideZ, uZ_] at ho hm s0 s1 s2 s3 s4
   refine FnP.intro Tryz.func153 rfl rfl fun G w => ?_
   repeat' (first | apply WK.seq | apply WK.block | refine WK.cT rfl ?_ | (refine hQ.h _ _ ?_; clear hQ hA) | (refine Fork.mk (fun h => ?_) (fun h => ?_) <;> (first | (simp [*] at h; done) | (have h2 := h; simp at h2; exfalso; omega) | (have h2 := h; simp at h2; try simp only [Bool.not_eq_true', Bool.not_eq_false'] at h) | skip)) | (refine WK.rH Tryz.ntmps153 (by kernel_rfl) ?_; intro A hA Q hQ; simp [Action.enc, *]) | (refine RunQ.gd rfl (by rw [hA.h]; rfl) ?_; simp [Action.enc, *]) | (refine RunQ.k rfl rfl rfl rfl rfl ?_ (ragoes_c port) ?_ ?_ <;> simp (maxDischargeDepth := 120) [Action.enc, *] <;> refine ⟨?_⟩) | (refine RunQW.k rfl rfl rfl rfl ?_ (hm) ?_ ?_ <;> simp (maxDischargeDepth := 120) [Action.enc, *] <;> refine ⟨?_⟩) | (refine RunQW.k rfl rfl rfl rfl ?_ (s0) ?_ ?_ <;> simp (maxDischargeDepth := 120) [Action.enc, *] <;> refine ⟨?_⟩) | (refine WK.ret Tryz.func153 ?_ ?_ <;> simp (maxDischargeDepth := 120) [Tryz.results153, Action.enc, Action.right, Action.fine, Action.bare, oxm0, wideZ, *]))
 by_cases k1 : k = 22
 · subst k1
   simp only [Action.enc, Oxm.enc, oxm0, wideZ, uZ_] at ho hm s0 s1 s2 s3 s4
   refine FnP.intro Tryz.func153 rfl rfl fun G w => ?_
   repeat' (first | apply WK.seq | apply WK.block | refine WK.cT rfl ?_ | refine WK.cF rfl ?_ | (refine hQ.h _ _ ?_; clear hQ hA) | (refine Fork.mk (fun h => ?_) (fun h => ?_) <;> (first | (simp [*] at h; done) | (have h2 := h; simp at h2; exfalso; omega) | (have h2 := h; simp at h2; try simp only [Bool.not_eq_true', Bool.not_eq_false'] at h) | skip)) | (refine WK.rH Tryz.ntmps153 (by kernel_rfl) ?_; intro A hA Q hQ; simp [Action.enc, *]) | (refine RunQ.gd rfl (by rw [hA.h]; rfl) ?_; simp [Action.enc, *]) | (refine RunQW.k rfl rfl rfl rfl ?_ (s1) ?_ ?_ <;> simp (maxDischargeDepth := 120) [Action.enc, *] <;> refine ⟨?_⟩) | (refine WK.ret Tryz.func153 ?_ ?_ <;> simp (maxDischargeDepth := 120) [Tryz.results153, Action.enc, Action.right, Action.fine, Action.bare, oxm0, wideZ, *]))
 by_cases k2 : k = 17
 · subst k2
   simp only [Action.enc, Oxm.enc, oxm0, wideZ, uZ_] at ho hm s0 s1 s2 s3 s4
   refine FnP.intro Tryz.func153 rfl rfl fun G w => ?_
   repeat' (first | apply WK.seq | apply WK.block | refine WK.cT rfl ?_ | refine WK.cF rfl ?_ | (refine hQ.h _ _ ?_; clear hQ hA) | (refine Fork.mk (fun h => ?_) (fun h => ?_) <;> (first | (simp [*] at h; done) | (have h2 := h; simp at h2; exfalso; omega) | (have h2 := h; simp at h2; try simp only [Bool.not_eq_true', Bool.not_eq_false'] at h) | skip)) | (refine WK.rH Tryz.ntmps153 (by kernel_rfl) ?_; intro A hA Q hQ; simp [Action.enc, *]) | (refine RunQ.gd rfl (by rw [hA.h]; rfl) ?_; simp [Action.enc, *]) | (refine RunQW.k rfl rfl rfl rfl ?_ (s2) ?_ ?_ <;> simp (maxDischargeDepth := 120) [Action.enc, *] <;> refine ⟨?_⟩) | (refine WK.ret Tryz.func153 ?_ ?_ <;> simp (maxDischargeDepth := 120) [Tryz.results153, Action.enc, Action.right, Action.fine, Action.bare, oxm0, wideZ, *]))
 by_cases k3 : k = 18
 · subst k3
   simp only [Action.enc, Oxm.enc, oxm0, wideZ, uZ_] at ho hm s0 s1 s2 s3 s4
   refine FnP.intro Tryz.func153 rfl rfl fun G w => ?_
   repeat' (first | apply WK.seq | apply WK.block | refine WK.cT rfl ?_ | refine WK.cF rfl ?_ | (refine hQ.h _ _ ?_; clear hQ hA) | (refine WK.rH Tryz.ntmps153 (by kernel_rfl) ?_; intro A hA Q hQ; simp [Action.enc, *]) | (refine RunQ.k rfl rfl rfl rfl rfl ?_ (s3) ?_ ?_ <;> simp (maxDischargeDepth := 120) [Action.enc, *] <;> refine ⟨?_⟩) | (refine WK.ret Tryz.func153 ?_ ?_ <;> simp (maxDischargeDepth := 120) [Tryz.results153, Action.enc, Action.right, Action.fine, Action.bare, oxm0, wideZ, *]))
 by_cases k4 : k = 25
 · subst k4
   simp only [Action.enc, Oxm.enc, oxm0, wideZ, uZ_] at ho hm s0 s1 s2 s3 s4
   refine FnP.intro Tryz.func153 rfl rfl fun G w => ?_
   repeat' (first | apply WK.seq | apply WK.block | refine WK.cT rfl ?_ | refine WK.cF rfl ?_ | (refine hQ.h _ _ ?_; clear hQ hA) | (refine Fork.mk (fun h => ?_) (fun h => ?_) <;> (first | (simp [*] at h; done) | (have h2 := h; simp at h2; exfalso; omega) | (have h2 := h; simp at h2; try simp only [Bool.not_eq_true', Bool.not_eq_false'] at h) | skip)) | (refine WK.rH Tryz.ntmps153 (by kernel_rfl) ?_; intro A hA Q hQ; simp [Action.enc, Oxm.enc, *]) | (refine RunQ.gd rfl (by rw [hA.h]; rfl) ?_; simp [Action.enc, Oxm.enc, *]) | (refine RunQ.k rfl rfl rfl rfl rfl ?_ (ho) ?_ ?_ <;> simp (maxDischargeDepth := 120) [Action.enc, Oxm.enc, *] <;> refine ⟨?_⟩) | (refine RunQW.k rfl rfl rfl rfl ?_ (rasets_c oxm.field) ?_ ?_ <;> simp (maxDischargeDepth := 120) [Action.enc, Oxm.enc, *] <;> refine ⟨?_⟩) | (refine RunQW.k rfl rfl rfl rfl ?_ (s4) ?_ ?_ <;> simp (maxDischargeDepth := 120) [Action.enc, Oxm.enc, *] <;> refine ⟨?_⟩) | (refine WK.ret Tryz.func153 ?_ ?_ <;> simp (maxDischargeDepth := 120) [Tryz.results153, Action.enc, Oxm.enc, Action.right, Action.fine, Action.bare, oxm0, wideZ, *]))
 · refine FnP.intro Tryz.func153 rfl rfl fun G w => ?_
   repeat' (first | apply WK.seq | apply WK.block | apply WK.inBlock | apply WK.skip | (refine hQ.h _ _ ?_; clear hQ hA) | (refine WK.c2 rfl (fun h => ?_) (fun h => ?_) <;> (first | (simp [*] at h; done) | (have h2 := h; simp at h2; exfalso; omega) | (have h2 := h; simp at h2; try simp only [Bool.not_eq_true', Bool.not_eq_false'] at h) | skip)) | (refine WK.rH Tryz.ntmps153 (by kernel_rfl) ?_; intro A hA Q hQ; simp [Action.enc, *]) | (refine WK.ret Tryz.func153 ?_ ?_ <;> simp (maxDischargeDepth := 120) [Tryz.results153, Action.enc, Action.right, Action.fine, Action.bare, *]))

set_option maxHeartbeats 4000000 in
theorem oencT_c (o : Oxm) : FnT Tryz.prog 238 [.agg o.enc] (oEnc o).1.length 1 (byL (oEnc o).1) [.int .i64 (oEnc o).2] := by
 have hr := oright_c o
 have hsz := fSize_le o.field
 have hid := (fRow_ok o.field).1
 have hbl := oBody_len o
 have hsh := shl_one o.field
 have p1 := nputP_c [] 32768 2 (by unfold Sz; omega) (by simp)
 rw [show byS [] = .sl false 0 [] from rfl] at p1
 have l1 := putN_len [] 32768 2
 have hbl2 : (oBody o).length ≤ 32 := by rw [hbl]; split <;> omega
 simp only [Oxm.enc] at hr
 cases k : Oxm.right o
 · have e : oEnc o = ([], 1) := by unfold oEnc; rw [k]; rfl
   rw [k] at hr
   rw [e]
   refine FnT.intro Tryz.func238 rfl rfl fun G w => ?_
   repeat (apply WK.seq)
   refine WK.reg 100 Tryz.ntmps238 (by kernel_rfl) ?_
   intro A hA Q hQ
   simp [Oxm.enc]
   refine hQ _ _ ?_
   clear hQ hA
   repeat (apply WK.seq)
   refine WK.ghost (Ghost.frzVar 1 rfl rfl) ?_
   refine WK.reg 200 Tryz.ntmps238 (by kernel_rfl) ?_
   intro A hA Q hQ
   simp
   refine RunQ.call rfl rfl rfl rfl (by rfl) (by simp (maxDischargeDepth := 120)) (hr) (by simp) ?_
   refine RunQ.eval ?_
   simp
   refine hQ _ _ ?_
   clear hQ hA
   refine WK.c2 rfl (fun h => ?_) (fun h => ?_)
   · repeat (apply WK.seq)
     refine WK.reg 300 Tryz.ntmps238 (by kernel_rfl) ?_
     intro A hA Q hQ
     simp
     refine hQ _ _ ?_
     clear hQ hA
     refine WK.ghost (Ghost.own 2 900 1 rfl rfl) ?_
     refine WK.retT2 Tryz.func238 ?_ ?_ ?_ <;> simp (maxDischargeDepth := 120) [Tryz.results238, b0_]
   · cases h
 rw [k] at hr
 have e : oEnc o = (oHead o ++ oBody o, 0) := by unfold oEnc; rw [k]; rfl
 have hor := or_one o.field (right_field k)
 obtain ⟨b1, hb1⟩ : ∃ b1, b1 = putN [] 32768 2 := ⟨_, rfl⟩
 rw [← hb1] at p1 l1
 simp only [List.length_nil, Nat.zero_add] at l1
 have p2 := nputP_c b1 (oNum o) 1 (by unfold Sz; omega) (by omega)
 have l2 := putN_len b1 (oNum o) 1
 have p3 := nput_c (putN b1 (oNum o) 1) (oBody o).length 1 (by unfold Sz; omega) (by omega)
 have eh : oHead o = putN (putN b1 (oNum o) 1) (oBody o).length 1 := by unfold oHead; rw [hb1]
 have l3 := putN_len (putN b1 (oNum o) 1) (oBody o).length 1
 rw [← eh] at p3 l3
 obtain ⟨b2, hb2⟩ : ∃ b2, b2 = putN b1 (oNum o) 1 := ⟨_, rfl⟩
 rw [← hb2] at p2 p3
 have q1 := wputP_c [] o.value (fSize o.field) hsz (by simp)
 rw [show byS [] = .sl false 0 [] from rfl] at q1
 have hf := by_full (oBody o) _ rfl
 have hbd : (oHead o).length + (oBody o).length ≤ 140737488355328 := by omega
 have hT : (byL (oHead o) ++ byL (oBody o)).take ((oHead o).length + (oBody o).length) = byL (oHead o) ++ byL (oBody o) := List.take_of_length_le (by simp)
 rw [e]
 refine FnT.intro Tryz.func238 rfl rfl fun G w => ?_
 repeat (apply WK.seq)
 refine WK.reg 100 Tryz.ntmps238 (by kernel_rfl) ?_
 intro A hA Q hQ
 simp [Oxm.enc]
 refine hQ _ _ ?_
 clear hQ hA
 repeat (apply WK.seq)
 refine WK.ghost (Ghost.frzVar 1 rfl rfl) ?_
 refine WK.reg 200 Tryz.ntmps238 (by kernel_rfl) ?_
 intro A hA Q hQ
 simp
 refine RunQ.call rfl rfl rfl rfl (by rfl) (by simp (maxDischargeDepth := 120)) (hr) (by simp) ?_
 refine RunQ.eval ?_
 simp
 refine hQ _ _ ?_
 clear hQ hA
 refine WK.c2 rfl (fun h => ?_) (fun h => ?_)
 · cases h
 repeat (first | apply WK.seq | apply WK.skip)
 refine WK.reg 300 Tryz.ntmps238 (by kernel_rfl) ?_
 intro A hA Q hQ
 simp
 refine RunQ.call rfl rfl rfl rfl (by rfl) (by simp (maxDischargeDepth := 120)) (fsize_c o.field) (by simp) ?_
 refine RunQ.eval ?_
 simp
 refine hQ _ _ ?_
 clear hQ hA
 repeat (apply WK.seq)
 apply WK.cut (⟨(upd (upd J 5 (.sl false (oBody o).length (byL (oBody o)))) 6 (.int .i64 (oNum o))), B0, 0⟩ : St)
 · intro hcut
   simp only [Wide.enc] at q1
   cases m : o.masked
   · have eb : oBody o = wPut [] o.value (fSize o.field) := by unfold oBody; rw [m]; rfl
     have en : oNum o = fID o.field * 2 := by unfold oNum; rw [m]; rfl
     rw [← eb] at q1
     refine WK.reg 400 Tryz.ntmps238 (by kernel_rfl) ?_
     intro A hA Q hQ
     simp
     refine RunQ.call rfl rfl rfl rfl (by rfl) (by simp (maxDischargeDepth := 120)) (q1) (by simp) ?_
     refine RunQ.eval ?_
     simp
     refine hQ _ _ ?_
     clear hQ hA
     repeat (apply WK.seq)
     refine WK.reg 500 Tryz.ntmps238 (by kernel_rfl) ?_
     intro A hA Q hQ
     simp
     refine RunQ.call rfl rfl rfl rfl (by rfl) (by simp (maxDischargeDepth := 120) [hsh]) (fid_c o.field) (by simp [hsh]) ?_
     refine RunQ.eval ?_
     simp [hsh]
     refine hQ _ _ ?_
     clear hQ hA
     repeat (apply WK.seq)
     refine WK.reg 600 Tryz.ntmps238 (by kernel_rfl) ?_
     intro A hA Q hQ
     simp [m]
     refine hQ _ _ ?_
     clear hQ hA
     refine WK.c2 rfl (fun h => ?_) (fun h => ?_)
     · cases h
     · repeat (first | apply WK.seq | apply WK.skip)
       refine WK.next (fun n => n) hcut (by repeat (first | exact TmW.nil | refine TmW.upd ?_ (by simp (maxDischargeDepth := 120) [en, byS]))) (by repeat (first | exact BxW.nil | refine BxW.upd ?_ (by simp (maxDischargeDepth := 120) [en, byS]))) InjW.id
   · have eb : oBody o = wPut (wPut [] o.value (fSize o.field)) o.mask (fSize o.field) := by unfold oBody; rw [m]; rfl
     have en : oNum o = fID o.field * 2 + 1 := by unfold oNum; rw [m]; rfl
     have l4 := wPut_len [] o.value (fSize o.field) hsz
     have q2 := wputP_c (wPut [] o.value (fSize o.field)) o.mask (fSize o.field) hsz (by rw [l4]; simp; omega)
     rw [← eb] at q2
     simp only [Wide.enc] at q2
     obtain ⟨b4, hb4⟩ : ∃ b4, b4 = wPut [] o.value (fSize o.field) := ⟨_, rfl⟩
     rw [← hb4] at q1 q2
     refine WK.reg 700 Tryz.ntmps238 (by kernel_rfl) ?_
     intro A hA Q hQ
     simp
     refine RunQ.call rfl rfl rfl rfl (by rfl) (by simp (maxDischargeDepth := 120)) (q1) (by simp) ?_
     refine RunQ.eval ?_
     simp
     refine hQ _ _ ?_
     clear hQ hA
     repeat (apply WK.seq)
     refine WK.reg 800 Tryz.ntmps238 (by kernel_rfl) ?_
     intro A hA Q hQ
     simp
     refine RunQ.call rfl rfl rfl rfl (by rfl) (by simp (maxDischargeDepth := 120) [hsh]) (fid_c o.field) (by simp [hsh]) ?_
     refine RunQ.eval ?_
     simp [hsh]
     refine hQ _ _ ?_
     clear hQ hA
     repeat (apply WK.seq)
     refine WK.reg 900 Tryz.ntmps238 (by kernel_rfl) ?_
     intro A hA Q hQ
     simp [m]
     refine hQ _ _ ?_
     clear hQ hA
     refine WK.c2 rfl (fun h => ?_) (fun h => ?_)
     · repeat (apply WK.seq)
       refine WK.reg 1000 Tryz.ntmps238 (by kernel_rfl) ?_
       intro A hA Q hQ
       simp
       refine RunQ.call rfl rfl rfl rfl (by rfl) (by simp (maxDischargeDepth := 120)) (q2) (by simp) ?_
       refine RunQ.eval ?_
       simp
       refine hQ _ _ ?_
       clear hQ hA
       refine WK.reg 1100 Tryz.ntmps238 (by kernel_rfl) ?_
       intro A hA Q hQ
       simp [hor]
       refine hQ _ _ ?_
       clear hQ hA
       repeat (apply WK.seq)
       refine WK.next (fun n => n) hcut (by repeat (first | exact TmW.nil | refine TmW.upd ?_ (by simp (maxDischargeDepth := 120) [en, byS]))) (by repeat (first | exact BxW.nil | refine BxW.upd ?_ (by simp (maxDischargeDepth := 120) [en, byS]))) InjW.id
     · cases h
 refine WK.reg 1200 Tryz.ntmps238 (by kernel_rfl) ?_
 intro A hA Q hQ
 simp
 refine RunQ.call rfl rfl rfl rfl (by rfl) (by simp (maxDischargeDepth := 120)) (p1) (by simp) ?_
 refine RunQ.eval ?_
 simp
 refine RunQ.call rfl rfl rfl rfl (by rfl) (by simp (maxDischargeDepth := 120)) (p2) (by simp) ?_
 refine RunQ.eval ?_
 simp
 refine RunQ.callO 900 rfl rfl rfl (by simp) (by rfl) (by simp (maxDischargeDepth := 120)) (p3) (by simp) (by simp) (by simp) ?_
 refine RunQ.eval ?_
 simp
 refine hQ _ _ ?_
 clear hQ hA
 repeat (apply WK.seq)
 refine WK.reg 1300 Tryz.ntmps238 (by kernel_rfl) ?_
 intro A hA Q hQ
 simp
 refine RunQ.append 901 appByte rfl rfl rfl rfl rfl rfl rfl (by simp [hbd, hf]) rfl (by simp [hbd, hf]) (by simp [hbd, hf]) (by simp [hbd, hf]) (by simp [hbd, hf]) ?_
 refine RunQ.eval ?_
 simp [hbd, hf]
 refine hQ _ _ ?_
 clear hQ hA
 refine WK.retT2 Tryz.func238 ?_ ?_ ?_ <;> simp (maxDischargeDepth := 120) [Tryz.results238, byL_app, hf, hT]
def aBody (a : Action) : List (BitVec 8) := if a.kind = 0 then putN (putN [] a.port 4) a.max 2 else if a.kind = 22 then putN [] a.group 4 else if a.kind = 17 then putN [] a.ether 2 else if a.kind = 25 then (oEnc a.oxm).1 else []
theorem oEnc_len (o : Oxm) : (oEnc o).1.length ≤ 36 := by
 unfold oEnc
 split
 · have h1 := oBody_len o
   have h2 := fSize_le o.field
   have h3 : (oHead o).length ≤ 4 := by
     unfold oHead
     have a1 := putN_len [] 32768 2
     have a2 := putN_len (putN [] 32768 2) (oNum o) 1
     have a3 := putN_len (putN (putN [] 32768 2) (oNum o) 1) (oBody o).length 1
     simp at a1; omega
   simp only [List.length_append]
   have : (oBody o).length ≤ 32 := by rw [h1]; split <;> omega
   omega
 · simp
theorem aBody_len (a : Action) : (aBody a).length ≤ 36 := by
 have h1 := putN_len [] a.port 4
 have h2 := putN_len (putN [] a.port 4) a.max 2
 have h3 := putN_len [] a.group 4
 have h4 := putN_len [] a.ether 2
 have h5 := oEnc_len a.oxm
 simp at h1 h3 h4
 unfold aBody; split
 · omega
 split
 · omega
 split
 · omega
 split
 · omega
 · simp
set_option maxHeartbeats 4000000 in
theorem abody_c (a : Action) : FnO Tryz.prog 244 [.agg a.enc] (aBody a).length 1 (byL (aBody a)) := by
 have p1 := nputP_c [] a.port 4 (by unfold Sz; omega) (by simp)
 have l1 := putN_len [] a.port 4
 simp at l1
 have p2 := nput_c (putN [] a.port 4) a.max 2 (by unfold Sz; omega) (by omega)
 have p3 := nput_c [] a.group 4 (by unfold Sz; omega) (by simp)
 have p4 := nput_c [] a.ether 2 (by unfold Sz; omega) (by simp)
 have p5 := oencT_c a.oxm
 rw [show byS [] = .sl false 0 [] from rfl] at p1 p3 p4
 obtain ⟨k, port, max, group, ether, oxm⟩ := a
 simp only [Oxm.enc] at p1 p2 p3 p4 p5
 by_cases k0 : k = 0
 · subst k0
   have e : aBody ⟨0, port, max, group, ether, oxm⟩ = putN (putN [] port 4) max 2 := rfl
   rw [e]
   refine FnO.intro Tryz.func244 rfl rfl fun G w => ?_
   repeat' (first | apply WK.seq | apply WK.block | refine WK.cT rfl ?_ | (refine hQ.h _ _ ?_; clear hQ hA) | (refine WK.rH Tryz.ntmps244 (by kernel_rfl) ?_; intro A hA Q hQ; simp [Action.enc, *]) | (refine WK.rX (by kernel_rfl) Tryz.ntmps244 (by kernel_rfl) ?_; intro A hA Q hQ; simp [Action.enc, *]) | (refine hQ.h _ _ _ (by decide +kernel) ?_; clear hQ hA) | (refine RunX.callO 900 rfl rfl rfl rfl ?_ (p2) ?_ ?_ ?_ ?_; (focus (simp (maxDischargeDepth := 120) [Action.enc, *]; done)); (focus (simp [Action.enc, *]; done)); (focus (simp [Action.enc, *]; done)); (focus (simp [Action.enc, *]; done)); refine RunX.e ?_; simp [Action.enc, *]) | (refine RunX.k rfl rfl rfl rfl ?_ (p1) ?_ ?_ <;> simp (maxDischargeDepth := 120) [Action.enc, *] <;> refine ⟨?_⟩) | (refine WK.retO Tryz.func244 rfl rfl ?_ ?_ <;> simp (maxDischargeDepth := 120) [Action.enc, *]))
 by_cases k1 : k = 22
 · subst k1
   have e : aBody ⟨22, port, max, group, ether, oxm⟩ = putN [] group 4 := rfl
   rw [e]
   refine FnO.intro Tryz.func244 rfl rfl fun G w => ?_
   repeat' (first | apply WK.seq | apply WK.block | refine WK.cT rfl ?_ | refine WK.cF rfl ?_ | (refine hQ.h _ _ ?_; clear hQ hA) | (refine WK.rH Tryz.ntmps244 (by kernel_rfl) ?_; intro A hA Q hQ; simp [Action.enc, *]) | (refine RunQ.callO 900 rfl rfl rfl rfl rfl ?_ (p3) ?_ ?_ ?_ ?_; (focus (simp (maxDischargeDepth := 120) [Action.enc, *]; done)); (focus (simp [Action.enc, *]; done)); (focus (simp [Action.enc, *]; done)); (focus (simp [Action.enc, *]; done)); refine RunQ.e ?_; simp [Action.enc, *]) | (refine WK.retO Tryz.func244 rfl rfl ?_ ?_ <;> simp (maxDischargeDepth := 120) [Action.enc, *]))
 by_cases k2 : k = 17
 · subst k2
   have e : aBody ⟨17, port, max, group, ether, oxm⟩ = putN [] ether 2 := rfl
   rw [e]
   refine FnO.intro Tryz.func244 rfl rfl fun G w => ?_
   repeat' (first | apply WK.seq | apply WK.block | refine WK.cT rfl ?_ | refine WK.cF rfl ?_ | (refine hQ.h _ _ ?_; clear hQ hA) | (refine WK.rH Tryz.ntmps244 (by kernel_rfl) ?_; intro A hA Q hQ; simp [Action.enc, *]) | (refine RunQ.callO 900 rfl rfl rfl rfl rfl ?_ (p4) ?_ ?_ ?_ ?_; (focus (simp (maxDischargeDepth := 120) [Action.enc, *]; done)); (focus (simp [Action.enc, *]; done)); (focus (simp [Action.enc, *]; done)); (focus (simp [Action.enc, *]; done)); refine RunQ.e ?_; simp [Action.enc, *]) | (refine WK.retO Tryz.func244 rfl rfl ?_ ?_ <;> simp (maxDischargeDepth := 120) [Action.enc, *]))
 by_cases k4 : k = 25
 · subst k4
   have e : aBody ⟨25, port, max, group, ether, oxm⟩ = (oEnc oxm).1 := rfl
   rw [e]
   refine FnO.intro Tryz.func244 rfl rfl fun G w => ?_
   repeat' (first | apply WK.seq | apply WK.block | refine WK.cT rfl ?_ | refine WK.cF rfl ?_ | (refine hQ.h _ _ ?_; clear hQ hA) | (refine WK.rH Tryz.ntmps244 (by kernel_rfl) ?_; intro A hA Q hQ; simp [Action.enc, *]) | (refine RunQ.callT 900 rfl rfl rfl rfl rfl ?_ (p5) ?_ ?_ ?_ ?_ ?_; (focus (simp (maxDischargeDepth := 120) [Action.enc, *]; done)); (focus (simp [Action.enc, *]; done)); (focus (simp [Action.enc, *]; done)); (focus (simp [Action.enc, *]; done)); (focus (simp [Action.enc, *]; done)); refine RunQ.e ?_; simp [Action.enc, *]) | (refine WK.retO Tryz.func244 rfl rfl ?_ ?_ <;> simp (maxDischargeDepth := 120) [Action.enc, *]))
 · have e : aBody ⟨k, port, max, group, ether, oxm⟩ = [] := by unfold aBody; rw [if_neg k0, if_neg k1, if_neg k2, if_neg k4]
   rw [e]
   refine FnO.intro Tryz.func244 rfl rfl fun G w => ?_
   repeat' (first | apply WK.seq | apply WK.block | apply WK.inBlock | apply WK.skip | (refine hQ.h _ _ ?_; clear hQ hA) | (refine WK.c2 rfl (fun h => ?_) (fun h => ?_) <;> (first | (simp [*] at h; done) | (have h2 := h; simp at h2; exfalso; omega) | (have h2 := h; simp at h2; try simp only [Bool.not_eq_true', Bool.not_eq_false'] at h) | skip)) | (refine WK.rH Tryz.ntmps244 (by kernel_rfl) ?_; intro A hA Q hQ; simp [Action.enc, *]))
   refine WK.ghost (Ghost.own 2 900 1 rfl rfl) ?_
   refine WK.retO Tryz.func244 (by rfl) (by rfl) (by simp (maxDischargeDepth := 120) [b0_]) (by simp [b0_])

def aLen (n : Nat) : Nat := if 8 < (4 + n + 7) / 8 * 8 then (4 + n + 7) / 8 * 8 else 8
def aPad (a : Action) : List (BitVec 8) := aBody a ++ List.replicate (aLen (aBody a).length - 4 - (aBody a).length) 0#8
def aEnc (a : Action) : List (BitVec 8) × Int := if Action.right a = true then (putN (putN [] a.kind 2) (aLen (aBody a).length : Nat) 2 ++ aPad a, 0) else ([], 1)
theorem aLen_ge (n : Nat) : 4 + n ≤ aLen n ∧ 8 ≤ aLen n := by unfold aLen; split <;> omega
theorem aLen_le (n : Nat) (h : n ≤ 36) : aLen n ≤ 48 := by unfold aLen; split <;> omega
theorem aPad_len (a : Action) : 4 + (aPad a).length = aLen (aBody a).length := by
 have := aLen_ge (aBody a).length
 simp only [aPad, List.length_append, List.length_replicate]; omega
theorem byL_rep (n : Nat) : List.replicate n (AV.int .u8 0) = byL (List.replicate n 0#8) := by simp [byL, bI]
theorem bNot7_all : ∀ n : Fin 64, bNot .i64 (n.val : Int) 7 = ((n.val / 8 * 8 : Nat) : Int) := by decide +kernel
theorem bNot7 (n : Nat) (h : n < 64) : bNot .i64 (n : Int) 7 = ((n / 8 * 8 : Nat) : Int) := bNot7_all ⟨n, h⟩
set_option maxHeartbeats 4000000 in
theorem aenc_c (a : Action) : FnT Tryz.prog 243 [.agg a.enc] (aEnc a).1.length 1 (byL (aEnc a).1) [.int .i64 (aEnc a).2] := by
 have hr := aright_c a
 cases k : Action.right a
 · have e : aEnc a = ([], 1) := by unfold aEnc; rw [k, if_neg Bool.false_ne_true]
   rw [k] at hr
   rw [e]
   refine FnT.intro Tryz.func243 rfl rfl fun G w => ?_
   repeat' (first | apply WK.seq | refine WK.cT rfl ?_ | (refine hQ.h _ _ ?_; clear hQ hA) | (refine WK.rH Tryz.ntmps243 (by kernel_rfl) ?_; intro A hA Q hQ; simp [*]) | (refine RunQ.k rfl rfl rfl rfl rfl ?_ (hr) ?_ ?_ <;> simp (maxDischargeDepth := 120) [*] <;> refine ⟨?_⟩))
   refine WK.ghost (Ghost.own 2 900 1 rfl rfl) ?_
   refine WK.retT2 Tryz.func243 ?_ ?_ ?_ <;> simp (maxDischargeDepth := 120) [Tryz.results243, b0_]
 have e : aEnc a = (putN (putN [] a.kind 2) (aLen (aBody a).length : Nat) 2 ++ aPad a, 0) := by unfold aEnc; rw [k, if_pos rfl]
 rw [k] at hr
 have hb := abody_c a
 have hl := aBody_len a
 have hpl := aPad_len a
 have hep : aPad a = aBody a ++ List.replicate (aLen (aBody a).length - 4 - (aBody a).length) 0#8 := rfl
 have hle := aLen_le _ hl
 have hge := aLen_ge (aBody a).length
 have hdef : aLen (aBody a).length = if 8 < (4 + (aBody a).length + 7) / 8 * 8 then (4 + (aBody a).length + 7) / 8 * 8 else 8 := rfl
 have p1 := nputP_c [] a.kind 2 (by unfold Sz; omega) (by simp)
 have l1 := putN_len [] a.kind 2
 simp only [List.length_nil, Nat.zero_add] at l1
 have p2 := nput_c (putN [] a.kind 2) (aLen (aBody a).length : Nat) 2 (by unfold Sz; omega) (by omega)
 have l2 := putN_len (putN [] a.kind 2) (aLen (aBody a).length : Nat) 2
 rw [show byS [] = .sl false 0 [] from rfl] at p1
 obtain ⟨B, hB⟩ : ∃ B, aBody a = B := ⟨_, rfl⟩
 rw [hB] at hb hl hpl hep hle hge hdef p2 l2 e
 obtain ⟨n, hn⟩ : ∃ n, aLen B.length = n := ⟨_, rfl⟩
 rw [hn] at hpl hep hle hge hdef p2 l2 e
 have q1 : IntKind.i64.wrap (4 + (B.length : Int)) = ((4 + B.length : Nat) : Int) := by rw [wrap_i64 (by omega) (by omega)]; omega
 have q2 : IntKind.i64.wrap (((4 + B.length : Nat) : Int) + 7) = ((4 + B.length + 7 : Nat) : Int) := by rw [wrap_i64 (by omega) (by omega)]; omega
 have q3 := bNot7 (4 + B.length + 7) (by omega)
 obtain ⟨x1, hx1⟩ : ∃ x1, 4 + B.length = x1 := ⟨_, rfl⟩
 rw [hx1] at q1 q2 q3 hdef hge
 obtain ⟨x2, hx2⟩ : ∃ x2, x1 + 7 = x2 := ⟨_, rfl⟩
 rw [hx2] at q2 q3 hdef
 obtain ⟨x3, hx3⟩ : ∃ x3, x2 / 8 * 8 = x3 := ⟨_, rfl⟩
 rw [hx3] at q3 hdef
 have q4 : (if (8 : Int) < (x3 : Int) then (x3 : Int) else 8) = (n : Int) := by rw [hdef]; split <;> split <;> omega
 have q4' : (if (x3 : Int) < 8 then (8 : Int) else (x3 : Int)) = (n : Int) := by rw [hdef]; split <;> split <;> omega
 have q5 : IntKind.i64.wrap ((n : Int) - 4) = ((n - 4 : Nat) : Int) := by rw [wrap_i64 (by omega) (by omega)]; omega
 obtain ⟨n4, hn4⟩ : ∃ n4, n - 4 = n4 := ⟨_, rfl⟩
 rw [hn4] at q5 hep
 have q6 : IntKind.i64.wrap ((n4 : Int) - (B.length : Int)) = ((n4 - B.length : Nat) : Int) := by rw [wrap_i64 (by omega) (by omega)]; omega
 obtain ⟨m, hm⟩ : ∃ m, n4 - B.length = m := ⟨_, rfl⟩
 rw [hm] at q6 hep
 have hbd1 : (B.length + m) * 1 ≤ 140737488355328 := by omega
 have hbd2 : ((putN (putN [] a.kind 2) (n : Int) 2).length + (B.length + m)) ≤ 140737488355328 := by omega
 have hz := byL_rep m
 have hf : byL B ++ byL (List.replicate m 0#8) = byL (aPad a) := by rw [← byL_app, hep]
 have hk0 : a.enc[0]? = some (.int .i64 a.kind) := rfl
 have hpl2 : (aPad a).length = B.length + m := by rw [hep]; simp
 rw [e]
 clear hep hB hn hx1 hx2 hx3 hn4 hm hdef hpl hl hle hge l1 l2
 refine FnT.intro Tryz.func243 rfl rfl fun G w => ?_
 repeat' (first | apply WK.seq | apply WK.skip | refine WK.cF rfl ?_ | (refine hQ.h _ _ ?_; clear hQ hA) | (refine WK.rH Tryz.ntmps243 (by kernel_rfl) ?_; intro A hA Q hQ; simp [q1, q2, q3, q4, q4', q5, q6, *]) | (refine RunQ.callO 900 rfl rfl rfl rfl rfl ?_ (hb) ?_ ?_ ?_ ?_; (focus (simp (maxDischargeDepth := 120) [q1, q2, q3, q4, q4', q5, q6, *]; done)); (focus (simp [q1, q2, q3, q4, q4', q5, q6, *]; done)); (focus (simp [q1, q2, q3, q4, q4', q5, q6, *]; done)); (focus (simp [q1, q2, q3, q4, q4', q5, q6, *]; done)); refine RunQ.e ?_; simp [q1, q2, q3, q4, q4', q5, q6, *]) | (refine RunQ.callO 901 rfl rfl rfl rfl rfl ?_ (p2) ?_ ?_ ?_ ?_; (focus (simp (maxDischargeDepth := 120) [q1, q2, q3, q4, q4', q5, q6, *]; done)); (focus (simp [q1, q2, q3, q4, q4', q5, q6, *]; done)); (focus (simp [q1, q2, q3, q4, q4', q5, q6, *]; done)); (focus (simp [q1, q2, q3, q4, q4', q5, q6, *]; done)); refine RunQ.e ?_; simp [q1, q2, q3, q4, q4', q5, q6, *]) | (refine RunQ.appendZ (m := m) (kk := .i64) (zv := .int .u8 0) 902 appByte rfl rfl rfl rfl (by simp) (by simp) rfl ?_ rfl rfl rfl ?_ ?_ ?_ ?_; (focus (simp (maxDischargeDepth := 120) [q1, q2, q3, q4, q4', q5, q6, *]; done)); (focus (first | omega | (simp [q1, q2, q3, q4, q4', q5, q6, *]; done); done)); (focus (first | omega | (simp [q1, q2, q3, q4, q4', q5, q6, *]; done); done)); (focus (simp [q1, q2, q3, q4, q4', q5, q6, *]; done)); refine RunQ.e ?_; simp [q1, q2, q3, q4, q4', q5, q6, *]) | (refine RunQ.appendFz 903 appByte rfl rfl rfl rfl rfl rfl rfl rfl rfl rfl ?_ ?_ ?_ ?_ ?_ ?_; (focus (first | omega | (simp [q1, q2, q3, q4, q4', q5, q6, *]; done); done)); (focus (first | omega | (simp [q1, q2, q3, q4, q4', q5, q6, *]; done); done)); (focus (first | omega | (simp [q1, q2, q3, q4, q4', q5, q6, *]; done); done)); (focus (simp [q1, q2, q3, q4, q4', q5, q6, *]; done)); (focus (simp [q1, q2, q3, q4, q4', q5, q6, *]; done)); refine RunQ.e ?_; simp [q1, q2, q3, q4, q4', q5, q6, *]) | (refine RunQ.k rfl rfl rfl rfl rfl ?_ (hr) ?_ ?_ <;> simp (maxDischargeDepth := 120) [q1, q2, q3, q4, q4', q5, q6, *] <;> refine ⟨?_⟩) | (refine RunQ.k rfl rfl rfl rfl rfl ?_ (p1) ?_ ?_ <;> simp (maxDischargeDepth := 120) [q1, q2, q3, q4, q4', q5, q6, *] <;> refine ⟨?_⟩) | (refine WK.retT2 Tryz.func243 ?_ ?_ ?_ <;> simp (maxDischargeDepth := 120) [Tryz.results243, q1, q2, q3, q4, q4', q5, q6, byL_app, *]))
end Go.Proofs.YtcccfbjkcahgfaaGreat
