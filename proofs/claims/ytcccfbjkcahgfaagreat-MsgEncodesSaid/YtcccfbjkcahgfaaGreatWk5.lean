/- Actions: their bytes by the reference. -/
import Derived.Test.YtcccfbjkcahgfaaGreatAf
import Derived.Test.YtcccfbjkcahgfaaGreatWk4
import Derived.Test.YtcccfbjkcahgfaaGreatDa
set_option linter.all false
set_option linter.unnecessarySimpa false
namespace Go.Proofs.YtcccfbjkcahgfaaGreat
open Go Go.AI Go.Proofs
attribute [local irreducible] FnP FnO FnB FnT FnSeq WK RunQ RunQW RunX RunXW
set_option maxHeartbeats 4000000 in
theorem roencT_c (o : Oxm) : FnT Tryz.prog 86 [.agg o.enc] (oEnc o).1.length 1 (byL (oEnc o).1) [.int .i64 (oEnc o).2] := by
 have hr := roright_c o
 have hsz := fSize_le o.field
 have hid := (fRow_ok o.field).1
 have hbl := oBody_len o
 have w1 : IntKind.i64.wrap (2 * fID o.field) = 2 * fID o.field := by unfold fID; exact wrap_i64 (by omega) (by omega)
 have w2 : IntKind.i64.wrap (2 * fID o.field + 1) = 2 * fID o.field + 1 := by unfold fID; exact wrap_i64 (by omega) (by omega)
 have w3 : IntKind.i64.wrap (2 * (fSize o.field : Int)) = ((2 * fSize o.field : Nat) : Int) := by rw [wrap_i64 (by omega) (by omega)]; omega
 have p1 := rputP_c [] 32768 2 (by unfold Sz; omega) (by simp)
 rw [show byS [] = .sl false 0 [] from rfl] at p1
 have l1 := putN_len [] 32768 2
 simp only [Oxm.enc] at hr
 cases k : Oxm.right o
 · have e : oEnc o = ([], 1) := by unfold oEnc; rw [k]; rfl
   rw [k] at hr
   rw [e]
   refine FnT.intro Tryz.func86 rfl rfl fun G w => ?_
   repeat (apply WK.seq)
   refine WK.reg 100 Tryz.ntmps86 (by kernel_rfl) ?_
   intro A hA Q hQ
   simp [Oxm.enc]
   refine hQ _ _ ?_
   clear hQ hA
   repeat (apply WK.seq)
   refine WK.ghost (Ghost.frzVar 1 rfl rfl) ?_
   refine WK.reg 200 Tryz.ntmps86 (by kernel_rfl) ?_
   intro A hA Q hQ
   simp
   refine RunQ.call rfl rfl rfl rfl (by rfl) (by simp (maxDischargeDepth := 120)) (hr) (by simp) ?_
   refine RunQ.eval ?_
   simp
   refine hQ _ _ ?_
   clear hQ hA
   refine WK.c2 rfl (fun h => ?_) (fun h => ?_)
   · repeat (apply WK.seq)
     refine WK.reg 300 Tryz.ntmps86 (by kernel_rfl) ?_
     intro A hA Q hQ
     simp
     refine hQ _ _ ?_
     clear hQ hA
     refine WK.ghost (Ghost.own 2 900 1 rfl rfl) ?_
     refine WK.retT2 Tryz.func86 ?_ ?_ ?_ <;> simp (maxDischargeDepth := 120) [Tryz.results86, b0_]
   · cases h
 rw [k] at hr
 have e : oEnc o = (oHead o ++ oBody o, 0) := by unfold oEnc; rw [k]; rfl
 obtain ⟨b1, hb1⟩ : ∃ b1, b1 = putN [] 32768 2 := ⟨_, rfl⟩
 rw [← hb1] at p1 l1
 simp only [List.length_nil, Nat.zero_add] at l1
 cases m : o.masked
 · have eb : oBody o = wPut [] o.value (fSize o.field) := by unfold oBody; rw [m]; rfl
   have en : oNum o = 2 * fID o.field := by unfold oNum; rw [m]; exact Int.mul_comm _ _
   rw [m] at hbl
   simp only [Bool.false_eq_true, if_false] at hbl
   have p2 := rputP_c b1 (2 * fID o.field) 1 (by unfold Sz; omega) (by omega)
   have l2 := putN_len b1 (2 * fID o.field) 1
   have p3 := rputP_c (putN b1 (2 * fID o.field) 1) (fSize o.field) 1 (by unfold Sz; omega) (by omega)
   have eh : oHead o = putN (putN b1 (2 * fID o.field) 1) (fSize o.field) 1 := by unfold oHead; rw [hbl, en, hb1]
   have l3 := putN_len (putN b1 (2 * fID o.field) 1) (fSize o.field) 1
   rw [← eh] at p3 l3
   have p4 := rwput_c (oHead o) o.value (fSize o.field) hsz (by omega)
   have e4 : wPut (oHead o) o.value (fSize o.field) = oHead o ++ oBody o := by rw [eb]; unfold wPut; simp
   rw [e4] at p4
   obtain ⟨b2, hb2⟩ : ∃ b2, b2 = putN b1 (2 * fID o.field) 1 := ⟨_, rfl⟩
   rw [← hb2] at p2 p3
   simp only [Wide.enc] at p4
   rw [m] at hr
   rw [e]
   refine FnT.intro Tryz.func86 rfl rfl fun G w => ?_
   repeat (apply WK.seq)
   refine WK.reg 100 Tryz.ntmps86 (by kernel_rfl) ?_
   intro A hA Q hQ
   simp [Oxm.enc, m]
   refine hQ _ _ ?_
   clear hQ hA
   repeat (apply WK.seq)
   refine WK.ghost (Ghost.frzVar 1 rfl rfl) ?_
   refine WK.reg 200 Tryz.ntmps86 (by kernel_rfl) ?_
   intro A hA Q hQ
   simp
   refine RunQ.call rfl rfl rfl rfl (by rfl) (by simp (maxDischargeDepth := 120)) (hr) (by simp) ?_
   refine RunQ.eval ?_
   simp
   refine hQ _ _ ?_
   clear hQ hA
   refine WK.c2 rfl (fun h => ?_) (fun h => ?_)
   · cases h
   repeat (first | apply WK.seq | apply WK.skip)
   refine WK.reg 300 Tryz.ntmps86 (by kernel_rfl) ?_
   intro A hA Q hQ
   simp
   refine RunQ.call rfl rfl rfl rfl (by rfl) (by simp (maxDischargeDepth := 120)) (rfsize_c o.field) (by simp) ?_
   refine RunQ.eval ?_
   simp
   refine hQ _ _ ?_
   clear hQ hA
   repeat (apply WK.seq)
   refine WK.reg 400 Tryz.ntmps86 (by kernel_rfl) ?_
   intro A hA Q hQ
   simp
   refine RunQ.call rfl rfl rfl rfl (by rfl) (by simp (maxDischargeDepth := 120) [w1]) (rfid_c o.field) (by simp [w1]) ?_
   refine RunQ.eval ?_
   simp [w1]
   refine hQ _ _ ?_
   clear hQ hA
   repeat (apply WK.seq)
   refine WK.reg 500 Tryz.ntmps86 (by kernel_rfl) ?_
   intro A hA Q hQ
   simp
   refine hQ _ _ ?_
   clear hQ hA
   refine WK.c2 rfl (fun h => ?_) (fun h => ?_)
   · repeat (apply WK.seq)
     refine WK.reg 600 Tryz.ntmps86 (by kernel_rfl) ?_
     intro A hA Q hQ
     simp
     refine RunQ.call rfl rfl rfl rfl (by rfl) (by simp (maxDischargeDepth := 120)) (p1) (by simp) ?_
     refine RunQ.eval ?_
     simp
     refine RunQ.call rfl rfl rfl rfl (by rfl) (by simp (maxDischargeDepth := 120)) (p2) (by simp) ?_
     refine RunQ.eval ?_
     simp
     refine RunQ.call rfl rfl rfl rfl (by rfl) (by simp (maxDischargeDepth := 120)) (p3) (by simp) ?_
     refine RunQ.eval ?_
     simp
     refine hQ _ _ ?_
     clear hQ hA
     repeat (apply WK.seq)
     refine WK.reg 700 Tryz.ntmps86 (by kernel_rfl) ?_
     intro A hA Q hQ
     simp
     refine RunQ.callO 900 rfl rfl rfl (by simp) (by rfl) (by simp (maxDischargeDepth := 120)) (p4) (by simp) (by simp) (by simp) ?_
     refine RunQ.eval ?_
     simp
     refine hQ _ _ ?_
     clear hQ hA
     refine WK.retT2 Tryz.func86 ?_ ?_ ?_ <;> simp (maxDischargeDepth := 120) [Tryz.results86, e]
   · cases h
 · have eb : oBody o = wPut (wPut [] o.value (fSize o.field)) o.mask (fSize o.field) := by unfold oBody; rw [m]; rfl
   have en : oNum o = 2 * fID o.field + 1 := by unfold oNum; rw [m]; show fID o.field * 2 + 1 = _; rw [Int.mul_comm]
   rw [m] at hbl
   simp only [if_true] at hbl
   have hbl' : (oBody o).length = 2 * fSize o.field := by omega
   have p2 := rputP_c b1 (2 * fID o.field + 1) 1 (by unfold Sz; omega) (by omega)
   have l2 := putN_len b1 (2 * fID o.field + 1) 1
   have p3 := rputP_c (putN b1 (2 * fID o.field + 1) 1) (2 * fSize o.field : Nat) 1 (by unfold Sz; omega) (by omega)
   have eh : oHead o = putN (putN b1 (2 * fID o.field + 1) 1) (2 * fSize o.field : Nat) 1 := by unfold oHead; rw [hbl', en, hb1]
   have l3 := putN_len (putN b1 (2 * fID o.field + 1) 1) (2 * fSize o.field : Nat) 1
   rw [← eh] at p3 l3
   have p4 := rwputP_c (oHead o) o.value (fSize o.field) hsz (by omega)
   have l4 := wPut_len (oHead o) o.value (fSize o.field) hsz
   have p5 := rwput_c (wPut (oHead o) o.value (fSize o.field)) o.mask (fSize o.field) hsz (by omega)
   have e5 : wPut (wPut (oHead o) o.value (fSize o.field)) o.mask (fSize o.field) = oHead o ++ oBody o := by rw [eb]; unfold wPut; simp
   rw [e5] at p5
   obtain ⟨b2, hb2⟩ : ∃ b2, b2 = putN b1 (2 * fID o.field + 1) 1 := ⟨_, rfl⟩
   rw [← hb2] at p2 p3
   obtain ⟨b4, hb4⟩ : ∃ b4, b4 = wPut (oHead o) o.value (fSize o.field) := ⟨_, rfl⟩
   rw [← hb4] at p4 p5
   simp only [Wide.enc] at p4 p5
   rw [m] at hr
   rw [e]
   refine FnT.intro Tryz.func86 rfl rfl fun G w => ?_
   repeat (apply WK.seq)
   refine WK.reg 100 Tryz.ntmps86 (by kernel_rfl) ?_
   intro A hA Q hQ
   simp [Oxm.enc, m]
   refine hQ _ _ ?_
   clear hQ hA
   repeat (apply WK.seq)
   refine WK.ghost (Ghost.frzVar 1 rfl rfl) ?_
   refine WK.reg 200 Tryz.ntmps86 (by kernel_rfl) ?_
   intro A hA Q hQ
   simp
   refine RunQ.call rfl rfl rfl rfl (by rfl) (by simp (maxDischargeDepth := 120)) (hr) (by simp) ?_
   refine RunQ.eval ?_
   simp
   refine hQ _ _ ?_
   clear hQ hA
   refine WK.c2 rfl (fun h => ?_) (fun h => ?_)
   · cases h
   repeat (first | apply WK.seq | apply WK.skip)
   refine WK.reg 300 Tryz.ntmps86 (by kernel_rfl) ?_
   intro A hA Q hQ
   simp
   refine RunQ.call rfl rfl rfl rfl (by rfl) (by simp (maxDischargeDepth := 120)) (rfsize_c o.field) (by simp) ?_
   refine RunQ.eval ?_
   simp
   refine hQ _ _ ?_
   clear hQ hA
   repeat (apply WK.seq)
   refine WK.reg 400 Tryz.ntmps86 (by kernel_rfl) ?_
   intro A hA Q hQ
   simp
   refine RunQ.call rfl rfl rfl rfl (by rfl) (by simp (maxDischargeDepth := 120) [w1]) (rfid_c o.field) (by simp [w1]) ?_
   refine RunQ.eval ?_
   simp [w1]
   refine hQ _ _ ?_
   clear hQ hA
   repeat (apply WK.seq)
   refine WK.reg 500 Tryz.ntmps86 (by kernel_rfl) ?_
   intro A hA Q hQ
   simp
   refine hQ _ _ ?_
   clear hQ hA
   refine WK.c2 rfl (fun h => ?_) (fun h => ?_)
   · cases h
   · repeat (first | apply WK.seq | apply WK.skip)
     refine WK.reg 600 Tryz.ntmps86 (by kernel_rfl) ?_
     intro A hA Q hQ
     simp
     refine RunQ.call rfl rfl rfl rfl (by rfl) (by simp (maxDischargeDepth := 120) [w2]) (p1) (by simp [w2]) ?_
     refine RunQ.eval ?_
     simp [w2]
     refine RunQ.call rfl rfl rfl rfl (by rfl) (by simp (maxDischargeDepth := 120) [w3]) (p2) (by simp [w3]) ?_
     refine RunQ.eval ?_
     simp [w3]
     refine RunQ.call rfl rfl rfl rfl (by rfl) (by simp (maxDischargeDepth := 120)) (p3) (by simp) ?_
     refine RunQ.eval ?_
     simp
     refine hQ _ _ ?_
     clear hQ hA
     repeat' (first | apply WK.seq | (refine WK.rX (by kernel_rfl) Tryz.ntmps86 (by kernel_rfl) ?_; intro A hA Q hQ; simp [*]) | (refine hQ.h _ _ _ (by decide +kernel) ?_; clear hQ hA) | (refine RunX.callO 900 rfl rfl rfl rfl ?_ (p5) ?_ ?_ ?_ ?_; (focus (simp (maxDischargeDepth := 120) [*]; done)); (focus (simp [*]; done)); (focus (simp [*]; done)); (focus (simp [*]; done)); refine RunX.e ?_; simp [*]) | (refine RunX.k rfl rfl rfl rfl ?_ (p4) ?_ ?_ <;> simp (maxDischargeDepth := 120) [*] <;> refine ⟨?_⟩) | (refine WK.retT2 Tryz.func86 ?_ ?_ ?_ <;> simp (maxDischargeDepth := 120) [Tryz.results86, *]))
theorem putN_ok {b : List (BitVec 8)} {n : Int} {s : Nat} (h : numOk n s = true) : (putN b n s).length = b.length + s := by
 unfold putN; rw [h, if_pos rfl, List.length_append, beN_len]
theorem right_cases {a : Action} (h : Action.right a = true) : (a.kind = 0 ∧ numOk a.port 4 = true ∧ numOk a.max 2 = true) ∨ (a.kind = 22 ∧ numOk a.group 4 = true) ∨ (a.kind = 17 ∧ numOk a.ether 2 = true) ∨
   a.kind = 18 ∨ (a.kind = 25 ∧ Oxm.right a.oxm = true) := by
 unfold Action.right Action.fine at h
 rw [Bool.and_eq_true] at h
 obtain ⟨h, _⟩ := h
 unfold aGoes aMost at h
 unfold numOk
 split at h
 · rename_i k; left
   simp only [Bool.and_eq_true, Bool.or_eq_true, decide_eq_true_eq, beq_iff_eq] at h ⊢
   refine ⟨k, ?_, ?_⟩ <;> omega
 split at h
 · rename_i k; right; left
   simp only [Bool.and_eq_true, Bool.or_eq_true, decide_eq_true_eq, beq_iff_eq] at h ⊢
   refine ⟨k, ?_⟩; omega
 split at h
 · rename_i k; right; right; left
   simp only [Bool.and_eq_true, Bool.or_eq_true, decide_eq_true_eq, beq_iff_eq] at h ⊢
   refine ⟨k, ?_⟩; omega
 split at h
 · rename_i k; exact .inr (.inr (.inr (.inl k)))
 split at h
 · rename_i k; right; right; right; right
   simp only [Bool.and_eq_true] at h
   exact ⟨k, h.1⟩
 · cases h
theorem oEnc_ge {o : Oxm} (h : Oxm.right o = true) : 5 ≤ (oEnc o).1.length := by
 have hf := right_field h
 have hs : 1 ≤ fSize o.field := by
   unfold fRight at hf
   rw [Bool.and_eq_true, decide_eq_true_eq, decide_eq_true_eq] at hf
   unfold fSize fBits fRow
   rw [if_pos ⟨hf.1, hf.2⟩]
   have hl : o.field.toNat < fRows.length := by show o.field.toNat < 24; omega
   have : ∀ r, r ∈ fRows → 2 ≤ r.2.1 := by decide
   have := this _ (nth_mem hl)
   omega
 have hid : 0 ≤ oNum o ∧ oNum o < 256 := by
   have hp : 0 ≤ fID o.field ∧ fID o.field ≤ 34 := by
     unfold fRight at hf
     rw [Bool.and_eq_true, decide_eq_true_eq, decide_eq_true_eq] at hf
     unfold fID fRow
     rw [if_pos ⟨hf.1, hf.2⟩]
     have hl : o.field.toNat < fRows.length := by show o.field.toNat < 24; omega
     have : ∀ r, r ∈ fRows → 0 ≤ r.1 ∧ r.1 ≤ 34 := by decide
     exact this _ (nth_mem hl)
   unfold oNum; split <;> omega
 have hbl := oBody_len o
 have h16 := fSize_le o.field
 have hb : (oBody o).length ≤ 32 ∧ 1 ≤ (oBody o).length := by rw [hbl]; split <;> omega
 have a1 : (putN [] 32768 2).length = 2 := putN_ok (b := []) (n := 32768) (s := 2) rfl
 have a2 : (putN (putN [] 32768 2) (oNum o) 1).length = 3 := by rw [putN_ok (by unfold numOk; simp; omega), a1]
 have a3 : (oHead o).length = 4 := by unfold oHead; rw [putN_ok (by unfold numOk; simp; omega), a2]
 unfold oEnc; rw [if_pos h]; simp only [List.length_append]; omega

theorem Sz4 : Sz 4 := .inr (.inr rfl)
theorem Sz2 : Sz 2 := .inr (.inl rfl)
theorem Sz1 : Sz 1 := .inl rfl
set_option maxHeartbeats 4000000 in
theorem raenc_c (a : Action) : FnT Tryz.prog 123 [.agg a.enc] (aEnc a).1.length 1 (byL (aEnc a).1) [.int .i64 (aEnc a).2] := by
 have hr := raright_c a
 cases k : Action.right a
 · have e : aEnc a = ([], 1) := by unfold aEnc; rw [k, if_neg Bool.false_ne_true]
   rw [k] at hr
   rw [e]
   refine FnT.intro Tryz.func123 rfl rfl fun G w => ?_
   repeat' (first | apply WK.seq | refine WK.cT rfl ?_ | (refine hQ.h _ _ ?_; clear hQ hA) | (refine WK.rH Tryz.ntmps123 (by kernel_rfl) ?_; intro A hA Q hQ; simp [*]) | (refine RunQ.k rfl rfl rfl rfl rfl ?_ (hr) ?_ ?_ <;> simp (maxDischargeDepth := 120) [*] <;> refine ⟨?_⟩))
   refine WK.ghost (Ghost.own 2 900 1 rfl rfl) ?_
   refine WK.retT2 Tryz.func123 ?_ ?_ ?_ <;> simp (maxDischargeDepth := 120) [Tryz.results123, b0_]
 rw [k] at hr
 have hcs := right_cases k
 obtain ⟨kind, port, max, group, ether, oxm⟩ := a
 simp only at hcs
 rcases hcs with ⟨rfl, h1, h2⟩ | ⟨rfl, h1⟩ | ⟨rfl, h1⟩ | rfl | ⟨rfl, h1⟩
 · have l1 : (putN [] port 4).length = 4 := putN_ok h1
   have l2 : (putN (putN [] port 4) max 2).length = 6 := by rw [putN_ok h2, l1]
   have l3 : (putN [] 0 2).length = 2 := putN_ok (b := []) (n := 0) (s := 2) rfl
   have l4 : (putN (putN [] 0 2) 16 2).length = 4 := by rw [putN_ok rfl, l3]
   have e1 : aBody ⟨0, port, max, group, ether, oxm⟩ = putN (putN [] port 4) max 2 := rfl
   have e : aEnc ⟨0, port, max, group, ether, oxm⟩ = (putN (putN [] 0 2) 16 2 ++ (putN (putN [] port 4) max 2 ++ List.replicate 6 0#8), 0) := by
     unfold aEnc aPad; rw [k, if_pos rfl, e1, l2]; rfl
   have p1 := rputP_c [] port 4 Sz4 (by simp)
   have p2 := rput_c (putN [] port 4) max 2 Sz2 (by omega)
   have p3 := rputP_c [] 0 2 Sz2 (by simp)
   have p4 := rput_c (putN [] 0 2) 16 2 Sz2 (by omega)
   rw [show byS [] = .sl false 0 [] from rfl] at p1 p3
   have w1 : IntKind.i64.wrap 16 = 16 := rfl
   have z6 : byL (List.replicate 6 0#8) = [.int .u8 0, .int .u8 0, .int .u8 0, .int .u8 0, .int .u8 0, .int .u8 0] := rfl
   rw [e, byL_app, byL_app, z6]
   refine FnT.intro Tryz.func123 rfl rfl fun G w => ?_
   repeat' (first | apply WK.seq | apply WK.block | apply WK.inBlock | apply WK.skip | refine WK.cT rfl ?_ | refine WK.cF rfl ?_ | (refine hQ.h _ _ ?_; clear hQ hA) | (refine WK.rH Tryz.ntmps123 (by kernel_rfl) ?_; intro A hA Q hQ; simp [Action.enc, *]) | (refine WK.rX (by kernel_rfl) Tryz.ntmps123 (by kernel_rfl) ?_; intro A hA Q hQ; simp [Action.enc, *]) | (refine hQ.h _ _ _ (by decide +kernel) ?_; clear hQ hA) | (refine RunQ.callO 900 rfl rfl rfl rfl rfl ?_ (p2) ?_ ?_ ?_ ?_; (focus (simp (maxDischargeDepth := 120) [Action.enc, *]; done)); (focus (simp [Action.enc, *]; done)); (focus (simp [Action.enc, *]; done)); (focus (simp [Action.enc, *]; done)); refine RunQ.e ?_; simp [Action.enc, *]) | (refine RunX.callO 900 rfl rfl rfl rfl ?_ (p2) ?_ ?_ ?_ ?_; (focus (simp (maxDischargeDepth := 120) [Action.enc, *]; done)); (focus (simp [Action.enc, *]; done)); (focus (simp [Action.enc, *]; done)); (focus (simp [Action.enc, *]; done)); refine RunX.e ?_; simp [Action.enc, *]) | (refine RunX.append 901 appByte rfl rfl rfl rfl rfl rfl rfl rfl ?_ ?_ ?_ ?_ ?_; (focus (first | omega | (simp [Action.enc, *]; done); done)); (focus (first | omega | (simp [Action.enc, *]; done); done)); (focus (first | omega | (simp [Action.enc, *]; done); done)); (focus (first | omega | (simp [Action.enc, *]; done); done)); refine RunX.e ?_; simp [Action.enc, *]) | (refine RunQ.callO 902 rfl rfl rfl rfl rfl ?_ (p4) ?_ ?_ ?_ ?_; (focus (simp (maxDischargeDepth := 120) [Action.enc, *]; done)); (focus (simp [Action.enc, *]; done)); (focus (simp [Action.enc, *]; done)); (focus (simp [Action.enc, *]; done)); refine RunQ.e ?_; simp [Action.enc, *]) | (refine RunX.callO 902 rfl rfl rfl rfl ?_ (p4) ?_ ?_ ?_ ?_; (focus (simp (maxDischargeDepth := 120) [Action.enc, *]; done)); (focus (simp [Action.enc, *]; done)); (focus (simp [Action.enc, *]; done)); (focus (simp [Action.enc, *]; done)); refine RunX.e ?_; simp [Action.enc, *]) | (refine RunQ.appendFz 903 appByte rfl rfl rfl rfl rfl rfl rfl rfl rfl rfl ?_ ?_ ?_ ?_ ?_ ?_; (focus (first | omega | (simp [Action.enc, *]; done); done)); (focus (first | omega | (simp [Action.enc, *]; done); done)); (focus (first | omega | (simp [Action.enc, *]; done); done)); (focus (simp [Action.enc, *]; done)); (focus (simp [Action.enc, *]; done)); refine RunQ.e ?_; simp [Action.enc, *]) | (refine RunQ.k rfl rfl rfl rfl rfl ?_ (hr) ?_ ?_ <;> simp (maxDischargeDepth := 120) [Action.enc, *] <;> refine ⟨?_⟩) | (refine RunQ.k rfl rfl rfl rfl rfl ?_ (p1) ?_ ?_ <;> simp (maxDischargeDepth := 120) [Action.enc, *] <;> refine ⟨?_⟩) | (refine RunQ.k rfl rfl rfl rfl rfl ?_ (p3) ?_ ?_ <;> simp (maxDischargeDepth := 120) [Action.enc, *] <;> refine ⟨?_⟩) | (refine RunX.k rfl rfl rfl rfl ?_ (p1) ?_ ?_ <;> simp (maxDischargeDepth := 120) [Action.enc, *] <;> refine ⟨?_⟩) | (refine RunX.k rfl rfl rfl rfl ?_ (p3) ?_ ?_ <;> simp (maxDischargeDepth := 120) [Action.enc, *] <;> refine ⟨?_⟩) | (refine WK.retT2 Tryz.func123 ?_ ?_ ?_ <;> simp (maxDischargeDepth := 120) [Tryz.results123, Action.enc, *]))
 · have l1 : (putN [] group 4).length = 4 := putN_ok h1
   have l3 : (putN [] 22 2).length = 2 := putN_ok (b := []) (n := 22) (s := 2) rfl
   have l4 : (putN (putN [] 22 2) 8 2).length = 4 := by rw [putN_ok rfl, l3]
   have e1 : aBody ⟨22, port, max, group, ether, oxm⟩ = putN [] group 4 := rfl
   have e : aEnc ⟨22, port, max, group, ether, oxm⟩ = (putN (putN [] 22 2) 8 2 ++ (putN [] group 4), 0) := by
     unfold aEnc aPad; rw [k, if_pos rfl, e1, l1, show aLen 4 = 8 from rfl]; simp
   have p1 := rput_c [] group 4 Sz4 (by simp)
   have p3 := rputP_c [] 22 2 Sz2 (by simp)
   have p4 := rput_c (putN [] 22 2) 8 2 Sz2 (by omega)
   rw [show byS [] = .sl false 0 [] from rfl] at p1 p3
   have w1 : IntKind.i64.wrap 8 = 8 := rfl
   rw [e, byL_app]
   refine FnT.intro Tryz.func123 rfl rfl fun G w => ?_
   repeat' (first | apply WK.seq | apply WK.block | apply WK.inBlock | apply WK.skip | refine WK.cT rfl ?_ | refine WK.cF rfl ?_ | (refine hQ.h _ _ ?_; clear hQ hA) | (refine WK.rH Tryz.ntmps123 (by kernel_rfl) ?_; intro A hA Q hQ; simp [Action.enc, *]) | (refine RunQ.callO 900 rfl rfl rfl rfl rfl ?_ (p1) ?_ ?_ ?_ ?_; (focus (simp (maxDischargeDepth := 120) [Action.enc, *]; done)); (focus (simp [Action.enc, *]; done)); (focus (simp [Action.enc, *]; done)); (focus (simp [Action.enc, *]; done)); refine RunQ.e ?_; simp [Action.enc, *]) | (refine RunQ.callO 902 rfl rfl rfl rfl rfl ?_ (p4) ?_ ?_ ?_ ?_; (focus (simp (maxDischargeDepth := 120) [Action.enc, *]; done)); (focus (simp [Action.enc, *]; done)); (focus (simp [Action.enc, *]; done)); (focus (simp [Action.enc, *]; done)); refine RunQ.e ?_; simp [Action.enc, *]) | (refine RunQ.appendFz 903 appByte rfl rfl rfl rfl rfl rfl rfl rfl rfl rfl ?_ ?_ ?_ ?_ ?_ ?_; (focus (first | omega | (simp [Action.enc, *]; done); done)); (focus (first | omega | (simp [Action.enc, *]; done); done)); (focus (first | omega | (simp [Action.enc, *]; done); done)); (focus (simp [Action.enc, *]; done)); (focus (simp [Action.enc, *]; done)); refine RunQ.e ?_; simp [Action.enc, *]) | (refine RunQ.k rfl rfl rfl rfl rfl ?_ (hr) ?_ ?_ <;> simp (maxDischargeDepth := 120) [Action.enc, *] <;> refine ⟨?_⟩) | (refine RunQ.k rfl rfl rfl rfl rfl ?_ (p3) ?_ ?_ <;> simp (maxDischargeDepth := 120) [Action.enc, *] <;> refine ⟨?_⟩) | (refine WK.retT2 Tryz.func123 ?_ ?_ ?_ <;> simp (maxDischargeDepth := 120) [Tryz.results123, Action.enc, *]))
 · have l1 : (putN [] ether 2).length = 2 := putN_ok h1
   have l3 : (putN [] 17 2).length = 2 := putN_ok (b := []) (n := 17) (s := 2) rfl
   have l4 : (putN (putN [] 17 2) 8 2).length = 4 := by rw [putN_ok rfl, l3]
   have e1 : aBody ⟨17, port, max, group, ether, oxm⟩ = putN [] ether 2 := rfl
   have e : aEnc ⟨17, port, max, group, ether, oxm⟩ = (putN (putN [] 17 2) 8 2 ++ (putN [] ether 2 ++ List.replicate 2 0#8), 0) := by
     unfold aEnc aPad; rw [k, if_pos rfl, e1, l1]; rfl
   have p1 := rput_c [] ether 2 Sz2 (by simp)
   have p3 := rputP_c [] 17 2 Sz2 (by simp)
   have p4 := rput_c (putN [] 17 2) 8 2 Sz2 (by omega)
   rw [show byS [] = .sl false 0 [] from rfl] at p1 p3
   have w1 : IntKind.i64.wrap 8 = 8 := rfl
   have z6 : byL (List.replicate 2 0#8) = [.int .u8 0, .int .u8 0] := rfl
   rw [e, byL_app, byL_app, z6]
   refine FnT.intro Tryz.func123 rfl rfl fun G w => ?_
   repeat' (first | apply WK.seq | apply WK.block | apply WK.inBlock | apply WK.skip | refine WK.cT rfl ?_ | refine WK.cF rfl ?_ | (refine hQ.h _ _ ?_; clear hQ hA) | (refine WK.rH Tryz.ntmps123 (by kernel_rfl) ?_; intro A hA Q hQ; simp [Action.enc, *]) | (refine RunQ.callO 900 rfl rfl rfl rfl rfl ?_ (p1) ?_ ?_ ?_ ?_; (focus (simp (maxDischargeDepth := 120) [Action.enc, *]; done)); (focus (simp [Action.enc, *]; done)); (focus (simp [Action.enc, *]; done)); (focus (simp [Action.enc, *]; done)); refine RunQ.e ?_; simp [Action.enc, *]) | (refine RunQ.append 901 appByte rfl rfl rfl rfl rfl rfl rfl rfl rfl ?_ ?_ ?_ ?_ ?_; (focus (first | omega | (simp [Action.enc, *]; done); done)); (focus (first | omega | (simp [Action.enc, *]; done); done)); (focus (first | omega | (simp [Action.enc, *]; done); done)); (focus (first | omega | (simp [Action.enc, *]; done); done)); refine RunQ.e ?_; simp [Action.enc, *]) | (refine RunQ.callO 902 rfl rfl rfl rfl rfl ?_ (p4) ?_ ?_ ?_ ?_; (focus (simp (maxDischargeDepth := 120) [Action.enc, *]; done)); (focus (simp [Action.enc, *]; done)); (focus (simp [Action.enc, *]; done)); (focus (simp [Action.enc, *]; done)); refine RunQ.e ?_; simp [Action.enc, *]) | (refine RunQ.appendFz 903 appByte rfl rfl rfl rfl rfl rfl rfl rfl rfl rfl ?_ ?_ ?_ ?_ ?_ ?_; (focus (first | omega | (simp [Action.enc, *]; done); done)); (focus (first | omega | (simp [Action.enc, *]; done); done)); (focus (first | omega | (simp [Action.enc, *]; done); done)); (focus (simp [Action.enc, *]; done)); (focus (simp [Action.enc, *]; done)); refine RunQ.e ?_; simp [Action.enc, *]) | (refine RunQ.k rfl rfl rfl rfl rfl ?_ (hr) ?_ ?_ <;> simp (maxDischargeDepth := 120) [Action.enc, *] <;> refine ⟨?_⟩) | (refine RunQ.k rfl rfl rfl rfl rfl ?_ (p3) ?_ ?_ <;> simp (maxDischargeDepth := 120) [Action.enc, *] <;> refine ⟨?_⟩) | (refine WK.retT2 Tryz.func123 ?_ ?_ ?_ <;> simp (maxDischargeDepth := 120) [Tryz.results123, Action.enc, *]))
 · have l3 : (putN [] 18 2).length = 2 := putN_ok (b := []) (n := 18) (s := 2) rfl
   have l4 : (putN (putN [] 18 2) 8 2).length = 4 := by rw [putN_ok rfl, l3]
   have e1 : aBody ⟨18, port, max, group, ether, oxm⟩ = [] := rfl
   have e : aEnc ⟨18, port, max, group, ether, oxm⟩ = (putN (putN [] 18 2) 8 2 ++ List.replicate 4 0#8, 0) := by
     unfold aEnc aPad; rw [k, if_pos rfl, e1]; rfl
   have p3 := rputP_c [] 18 2 Sz2 (by simp)
   have p4 := rput_c (putN [] 18 2) 8 2 Sz2 (by omega)
   rw [show byS [] = .sl false 0 [] from rfl] at p3
   have w1 : IntKind.i64.wrap 8 = 8 := rfl
   have z6 : byL (List.replicate 4 0#8) = [.int .u8 0, .int .u8 0, .int .u8 0, .int .u8 0] := rfl
   rw [e, byL_app, z6]
   refine FnT.intro Tryz.func123 rfl rfl fun G w => ?_
   repeat' (first | apply WK.seq | apply WK.block | apply WK.inBlock | apply WK.skip | refine WK.cT rfl ?_ | refine WK.cF rfl ?_ | (refine hQ.h _ _ ?_; clear hQ hA) | (refine WK.rH Tryz.ntmps123 (by kernel_rfl) ?_; intro A hA Q hQ; simp [Action.enc, *]) | (refine RunQ.callO 902 rfl rfl rfl rfl rfl ?_ (p4) ?_ ?_ ?_ ?_; (focus (simp (maxDischargeDepth := 120) [Action.enc, *]; done)); (focus (simp [Action.enc, *]; done)); (focus (simp [Action.enc, *]; done)); (focus (simp [Action.enc, *]; done)); refine RunQ.e ?_; simp [Action.enc, *]) | (refine RunQ.append 903 appByte rfl rfl rfl rfl rfl rfl rfl rfl rfl ?_ ?_ ?_ ?_ ?_; (focus (first | omega | (simp [Action.enc, *]; done); done)); (focus (first | omega | (simp [Action.enc, *]; done); done)); (focus (first | omega | (simp [Action.enc, *]; done); done)); (focus (first | omega | (simp [Action.enc, *]; done); done)); refine RunQ.e ?_; simp [Action.enc, *]) | (refine RunQ.k rfl rfl rfl rfl rfl ?_ (hr) ?_ ?_ <;> simp (maxDischargeDepth := 120) [Action.enc, *] <;> refine ⟨?_⟩) | (refine RunQ.k rfl rfl rfl rfl rfl ?_ (p3) ?_ ?_ <;> simp (maxDischargeDepth := 120) [Action.enc, *] <;> refine ⟨?_⟩) | (refine WK.retT2 Tryz.func123 ?_ ?_ ?_ <;> simp (maxDischargeDepth := 120) [Tryz.results123, Action.enc, *]))
 · have e1 : aBody ⟨25, port, max, group, ether, oxm⟩ = (oEnc oxm).1 := rfl
   have p1 := roencT_c oxm
   have hge := oEnc_ge h1
   have hle := oEnc_len oxm
   have hpl := aPad_len ⟨25, port, max, group, ether, oxm⟩
   have e : aEnc ⟨25, port, max, group, ether, oxm⟩ = (putN (putN [] 25 2) (aLen (oEnc oxm).1.length : Nat) 2 ++ ((oEnc oxm).1 ++ List.replicate (aLen (oEnc oxm).1.length - 4 - (oEnc oxm).1.length) 0#8), 0) := by
     unfold aEnc aPad; rw [k, if_pos rfl, e1]
   obtain ⟨B, hB⟩ : ∃ B, (oEnc oxm).1 = B := ⟨_, rfl⟩
   rw [hB] at e hge hle p1
   have hlen : aLen B.length = (4 + B.length + 7) / 8 * 8 := by unfold aLen; split <;> omega
   obtain ⟨m, hm⟩ : ∃ m, aLen B.length - 4 - B.length = m := ⟨_, rfl⟩
   rw [hm] at e
   have hlt : m < 8 := by omega
   have hal : aLen B.length = 4 + (B.length + m) := by omega
   rw [hal] at e
   have p3 := rputP_c [] 25 2 Sz2 (by simp)
   have l3 : (putN [] 25 2).length = 2 := putN_ok (b := []) (n := 25) (s := 2) rfl
   have p4 := rput_c (putN [] 25 2) (4 + (B.length + m) : Nat) 2 Sz2 (by omega)
   have l4 := putN_len (putN [] 25 2) (4 + (B.length + m) : Nat) 2
   rw [l3] at l4
   rw [show byS [] = .sl false 0 [] from rfl] at p3
   rw [e, byL_app]
   simp only [Oxm.enc] at p1
   refine FnT.intro Tryz.func123 rfl rfl fun G w => ?_
   repeat' (first | apply WK.seq | apply WK.block | apply WK.skip | refine WK.cT rfl ?_ | refine WK.cF rfl ?_ | (refine hQ.h _ _ ?_; clear hQ hA) | (refine WK.rH Tryz.ntmps123 (by kernel_rfl) ?_; intro A hA Q hQ; simp [Action.enc, *]) | (refine RunQ.callT 900 rfl rfl rfl rfl rfl ?_ (p1) ?_ ?_ ?_ ?_ ?_; (focus (simp (maxDischargeDepth := 120) [Action.enc, *]; done)); (focus (simp [Action.enc, *]; done)); (focus (simp [Action.enc, *]; done)); (focus (simp [Action.enc, *]; done)); (focus (simp [Action.enc, *]; done)); refine RunQ.e ?_; simp [Action.enc, *]) | (refine RunQ.k rfl rfl rfl rfl rfl ?_ (hr) ?_ ?_ <;> simp (maxDischargeDepth := 120) [Action.enc, *] <;> refine ⟨?_⟩))
   refine WK.lI (fun n => if n = 1 then 900 else n) (fun t : Nat => (⟨(upd (upd (upd (upd J 1 (.ptr 0 0)) 2 (.sl true 0 [])) 3 (.int .i64 0)) 4 (.msl 1 0 (B.length + t))), (upd (upd B0 0 (.var (Action.enc ⟨25, port, max, group, ether, oxm⟩))) 1 (.buf 1 (byL (B ++ List.replicate t 0#8)))), 0⟩ : St)) (fun t => t ≤ m) (fun t => m - t) (0) (by repeat (first | exact TmW.nil | refine TmW.upd ?_ (by simp (maxDischargeDepth := 120) [Action.enc]))) (by repeat (first | exact BxW.nil | refine BxW.upd ?_ (by simp (maxDischargeDepth := 120) [Action.enc]))) (by first | exact InjW.id | exact InjW.nil | exact InjW.one | exact InjW.two (by simp) | exact InjW.three (by simp) (by simp) (by simp)) (Nat.zero_le _) (fun t ht IHt => ?_)
   by_cases hp : t < m
   · have h8 : ¬ (B.length + t) % 8 = 4 := by omega
     have hx : (((B.length + t : Nat) : Int).tmod 8 == 4) = false := by rw [beq_eq_false_iff_ne, Int.tmod_eq_emod_of_nonneg (by omega)]; omega
     obtain ⟨x, hx0⟩ : ∃ x, B.length + t = x := ⟨_, rfl⟩
     have hs' : byL (B ++ List.replicate t 0#8) ++ [.int .u8 0] = byL (B ++ List.replicate (t + 1) 0#8) := by
       rw [List.replicate_succ', ← List.append_assoc, byL_app (B ++ _)]; rfl
     have hl' : (byL (B ++ List.replicate t 0#8)).length = x := by simp [hx0]
     have hx1 : x + 1 ≤ 1000000 := by omega
     have hx2 : B.length + (t + 1) = x + 1 := by omega
     simp only [hx0] at hx ⊢
     clear hr p1 p3 p4 hx0 hB
     repeat' (first | apply WK.seq | apply WK.block | apply WK.inBlock | apply WK.skip | refine WK.cT rfl ?_ | (refine hQ.h _ _ ?_; clear hQ hA) | (refine WK.rH Tryz.ntmps123 (by kernel_rfl) ?_; intro A hA Q hQ; simp [bne, *]) | (refine RunQ.append 902 appByte rfl rfl rfl rfl rfl rfl rfl rfl rfl ?_ ?_ ?_ ?_ ?_; (focus (first | omega | (simp [bne, *]; done); done)); (focus (first | omega | (simp [bne, *]; done); done)); (focus (first | omega | (simp [bne, *]; done); done)); (focus (first | omega | (simp [bne, *]; done); done)); refine RunQ.e ?_; simp [bne, *]))
     refine WK.next (fun n => if n = 1 then 902 else n) (IHt (t + 1) (by omega) (by first | omega | (dsimp only; omega))) (by repeat (first | exact TmW.nil | refine TmW.upd ?_ (by simp (maxDischargeDepth := 120) [hs', hx2, Action.enc]))) (by repeat (first | exact BxW.nil | refine BxW.upd ?_ (by simp (maxDischargeDepth := 120) [hs', hx2, Action.enc]))) (by first | exact InjW.id | exact InjW.nil | exact InjW.one | exact InjW.two (by simp) | exact InjW.three (by simp) (by simp) (by simp))
   · have ht : t = m := by omega
     subst ht
     have hx : (((B.length + t : Nat) : Int).tmod 8 == 4) = true := by rw [beq_iff_eq, Int.tmod_eq_emod_of_nonneg (by omega)]; omega
     obtain ⟨D, hD⟩ : ∃ D, B ++ List.replicate t 0#8 = D := ⟨_, rfl⟩
     have hDl : D.length = B.length + t := by rw [← hD]; simp
     obtain ⟨x, hx0⟩ : ∃ x, B.length + t = x := ⟨_, rfl⟩
     rw [hx0] at hDl p4 hx
     have w1 : IntKind.i64.wrap (4 + (x : Int)) = ((4 + x : Nat) : Int) := by rw [wrap_i64 (by omega) (by omega)]; omega
     obtain ⟨y, hy⟩ : ∃ y, 4 + x = y := ⟨_, rfl⟩
     have hb1 : ∀ z, (putN (putN [] 25 2) z 2).length ≤ 4 := fun z => by have := putN_len (putN [] 25 2) z 2; omega
     have hb2 : (putN (putN [] 25 2) (y : Int) 2).length + x ≤ 1000000 := by have := hb1 y; omega
     simp only [hx0, hD]
     rw [hy] at p4 w1 ⊢
     clear hr p1 IHt hx0 hB e hm hlen hpl hal hy hD hp l4
     repeat' (first | apply WK.seq | apply WK.inBlock | refine WK.exit rfl ?_ | refine WK.cF rfl ?_ | (refine hQ.h _ _ ?_; clear hQ hA) | (refine WK.rH Tryz.ntmps123 (by kernel_rfl) ?_; intro A hA Q hQ; simp [bne, Action.enc, *]) | (refine RunQ.callO 903 rfl rfl rfl rfl rfl ?_ (p4) ?_ ?_ ?_ ?_; (focus (simp (maxDischargeDepth := 120) [bne, Action.enc, *]; done)); (focus (simp [bne, Action.enc, *]; done)); (focus (simp [bne, Action.enc, *]; done)); (focus (simp [bne, Action.enc, *]; done)); refine RunQ.e ?_; simp [bne, Action.enc, *]) | (refine RunQ.appendFz 904 appByte rfl rfl rfl rfl rfl rfl rfl rfl rfl rfl ?_ ?_ ?_ ?_ ?_ ?_; (focus (first | omega | (simp [bne, Action.enc, *]; done); done)); (focus (first | omega | (simp [bne, Action.enc, *]; done); done)); (focus (first | omega | (simp [bne, Action.enc, *]; done); done)); (focus (simp [bne, Action.enc, *]; done)); (focus (simp [bne, Action.enc, *]; done)); refine RunQ.e ?_; simp [bne, Action.enc, *]) | (refine RunQ.k rfl rfl rfl rfl rfl ?_ (p3) ?_ ?_ <;> simp (maxDischargeDepth := 120) [bne, Action.enc, *] <;> refine ⟨?_⟩) | (refine WK.retT2 Tryz.func123 ?_ ?_ ?_ <;> simp (maxDischargeDepth := 120) [Tryz.results123, bne, Action.enc, *]))

theorem indexf_by (fid : Nat) (caps : List AV) (p : BitVec 8 → Bool) (l : List (BitVec 8)) (hcl : ClL caps = true) (hl : l.length ≤ 9223372036854775807)
   (hf : ∀ x, x ∈ l → FnP Tryz.prog fid (.int .u8 (bI x) :: caps) (.bool (p x))) :
   FnP Tryz.prog 165 [byS l, .fn fid caps] (.int .i64 (idxI p l)) := by
 unfold byS
 refine FnP.intro Tryz.func165 rfl rfl fun G w => ?_
 repeat' (first | apply WK.seq | apply WK.block | (refine hQ.h _ _ ?_; clear hQ hA) | (refine WK.rH Tryz.ntmps165 (by kernel_rfl) ?_; intro A hA Q hQ; simp [*]))
 refine WK.lI (fun n => n) (fun i : Nat => (⟨(upd (upd (upd (upd J 0 (.sl false l.length (byL l))) 1 (.fn fid caps)) 7 (.int .i64 l.length)) 8 (.int .i64 i)), B0, 0⟩ : St)) (fun i => i ≤ l.length ∧ ∀ j, j < i → p (nth l j) = false) (fun i => l.length - i) (0) (by repeat (first | exact TmW.nil | refine TmW.upd ?_ (by simp (maxDischargeDepth := 120) [hcl]))) (by repeat (first | exact BxW.nil | refine BxW.upd ?_ (by simp (maxDischargeDepth := 120) [hcl]))) InjW.id (⟨by omega, by simp⟩) (fun i hi IH => ?_)
 by_cases h1 : i < l.length
 · have h4 := by_get l i h1
   have h6 : IntKind.i64.wrap ((i : Int) + 1) = i + 1 := wrap_i64 (by omega) (by omega)
   have hc := hf (nth l i) (nth_mem h1)
   cases h5 : p (nth l i)
   · repeat' (first | apply WK.seq | apply WK.block | apply WK.inBlock | apply WK.skip | refine WK.cT rfl ?_ | refine WK.cF rfl ?_ | (refine hQ.h _ _ ?_; clear hQ hA) | (refine WK.rH Tryz.ntmps165 (by kernel_rfl) ?_; intro A hA Q hQ; simp [*]) | (refine RunQ.k rfl rfl rfl rfl rfl ?_ (hc) ?_ ?_ <;> simp (maxDischargeDepth := 120) [*] <;> refine ⟨?_⟩))
     refine WK.next (fun n => n) (IH (i + 1) (⟨by omega, fun j hj => by by_cases h7 : j = i; (subst h7; exact h5); exact hi.2 j (by omega)⟩) (by first | omega | (dsimp only; omega))) (by repeat (first | exact TmW.nil | refine TmW.upd ?_ (by simp (maxDischargeDepth := 120) [hcl]))) (by repeat (first | exact BxW.nil | refine BxW.upd ?_ (by simp (maxDischargeDepth := 120) [hcl]))) InjW.id
   · have e := idxI_some h1 h5 hi.2
     repeat' (first | apply WK.seq | apply WK.block | apply WK.skip | refine WK.cT rfl ?_ | (refine hQ.h _ _ ?_; clear hQ hA) | (refine WK.rH Tryz.ntmps165 (by kernel_rfl) ?_; intro A hA Q hQ; simp [*]) | (refine RunQ.k rfl rfl rfl rfl rfl ?_ (hc) ?_ ?_ <;> simp (maxDischargeDepth := 120) [*] <;> refine ⟨?_⟩) | (refine WK.ret Tryz.func165 ?_ ?_ <;> simp (maxDischargeDepth := 120) [Tryz.results165, *]))
 · have e := idxI_none (p := p) (l := l) (fun j hj => hi.2 j (by omega))
   repeat' (first | apply WK.seq | refine WK.exit rfl ?_ | refine WK.cF rfl ?_ | (refine hQ.h _ _ ?_; clear hQ hA) | (refine WK.rH Tryz.ntmps165 (by kernel_rfl) ?_; intro A hA Q hQ; simp [*]) | (refine WK.ret Tryz.func165 ?_ ?_ <;> simp (maxDischargeDepth := 120) [Tryz.results165, *]))
theorem containsf_by (fid : Nat) (caps : List AV) (p : BitVec 8 → Bool) (l : List (BitVec 8)) (hcl : ClL caps = true) (hl : l.length ≤ 9223372036854775807)
   (hf : ∀ x, x ∈ l → FnP Tryz.prog fid (.int .u8 (bI x) :: caps) (.bool (p x))) :
   FnP Tryz.prog 131 [byS l, .fn fid caps] (.bool (l.any p)) := by
 have e := idxI_ge p l
 simp only [ge_iff_le] at e
 have hi := indexf_by fid caps p l hcl hl hf
 refine FnP.intro Tryz.func131 rfl rfl fun G w => ?_
 repeat' (first | apply WK.seq | (refine hQ.h _ _ ?_; clear hQ hA) | (refine WK.rH Tryz.ntmps131 (by kernel_rfl) ?_; intro A hA Q hQ; simp [*]) | (refine RunQ.k rfl rfl rfl rfl rfl ?_ (hi) ?_ ?_ <;> simp (maxDischargeDepth := 120) [*] <;> refine ⟨?_⟩) | (refine WK.ret Tryz.func131 ?_ ?_ <;> simp (maxDischargeDepth := 120) [Tryz.results131, *]))
def allZ (b : List (BitVec 8)) : Bool := b.all fun x => x == 0#8
theorem bI_zero (x : BitVec 8) : (bI x == 0) = (x == 0#8) := by
 rw [Bool.eq_iff_iff, beq_iff_eq, beq_iff_eq]
 unfold bI
 constructor
 · intro h; exact BitVec.eq_of_toNat_eq (by simp; omega)
 · intro h; subst h; rfl
theorem empty1_c (x : BitVec 8) : FnP Tryz.prog 208 [.int .u8 (bI x)] (.bool (!(x == 0#8))) := by
 have e := bI_zero x
 refine FnP.intro Tryz.func208 rfl rfl fun G w => ?_
 repeat' (first | apply WK.seq | (refine hQ.h _ _ ?_; clear hQ hA) | (refine WK.rH Tryz.ntmps208 (by kernel_rfl) ?_; intro A hA Q hQ; simp [bne, *]) | (refine WK.ret Tryz.func208 ?_ ?_ <;> simp (maxDischargeDepth := 120) [Tryz.results208, bne, *]))
theorem aempty_c (b : List (BitVec 8)) (hb : b.length ≤ 9223372036854775807) : FnP Tryz.prog 204 [byS b] (.bool (allZ b)) := by
 have h := containsf_by 208 [] (fun x => !(x == 0#8)) b rfl hb (fun x _ => empty1_c x)
 have e : allZ b = !(b.any fun x => !(x == 0#8)) := by unfold allZ; rw [List.any_eq_not_all_not]; simp
 rw [e]
 refine FnP.intro Tryz.func204 rfl rfl fun G w => ?_
 repeat' (first | apply WK.seq | (refine hQ.h _ _ ?_; clear hQ hA) | (refine WK.rH Tryz.ntmps204 (by kernel_rfl) ?_; intro A hA Q hQ; simp [*]) | (refine RunQ.k rfl rfl rfl rfl rfl ?_ (h) ?_ ?_ <;> simp (maxDischargeDepth := 120) [*] <;> refine ⟨?_⟩) | (refine WK.ret Tryz.func204 ?_ ?_ <;> simp (maxDischargeDepth := 120) [Tryz.results204, *]))

theorem bNot7b_all : ∀ n : Fin 512, bNot .i64 (n.val : Int) 7 = ((n.val / 8 * 8 : Nat) : Int) := by decide +kernel
theorem bNot7b (n : Nat) (h : n < 512) : bNot .i64 (n : Int) 7 = ((n / 8 * 8 : Nat) : Int) := bNot7b_all ⟨n, h⟩
theorem bAnd7 (n : Nat) (h : n < 65536) : bAnd .i64 (n : Int) 7 = ((n % 8 : Nat) : Int) := by
 unfold bAnd
 show IntKind.wrap .i64 (((BitVec.ofInt 64 (n : Int) &&& BitVec.ofInt 64 7).toNat : Nat) : Int) = _
 rw [show BitVec.ofInt 64 (n : Int) = BitVec.ofNat 64 n from by rw [← BitVec.ofInt_natCast], show BitVec.ofInt 64 7 = BitVec.ofNat 64 7 from rfl, BitVec.toNat_and, BitVec.toNat_ofNat, BitVec.toNat_ofNat, Nat.mod_eq_of_lt (by omega), Nat.mod_eq_of_lt (by omega)]
 have e3 : n &&& 7 = n % 8 := Nat.and_two_pow_sub_one_eq_mod n 3
 rw [e3, wrap_i64 (by omega) (by omega)]
def aBad (c : Int) : Action × Int × Option Int := (act0, 0, some c)
def aF : Option Int → List AV
 | none => [.bool false, .int .i64 0, .int .i64 0]
 | some c => [.bool true, .int .i64 2, .int .i64 c]
def aRes (r : Action × Int × Option Int) : AV := .tup [.agg r.1.enc, .int .i64 r.2.1, .agg (aF r.2.2)]
theorem zA : (type_of% @aRes.eq_1) ∧ (type_of% @aBad.eq_1) ∧ (type_of% @act0.eq_1) ∧ (type_of% @Action.enc.eq_1) ∧ (type_of% @oxm0.eq_1) ∧ (type_of% @wideZ.eq_1) ∧ (type_of% @uZ_) := ⟨aRes.eq_1, aBad.eq_1, act0.eq_1, Action.enc.eq_1, oxm0.eq_1, wideZ.eq_1, uZ_⟩
@[simp] theorem aFault_cl (c : Option Int) : ClL (aF c) = true := by cases c <;> rfl
@[simp] theorem aRes_cl (r : Action × Int × Option Int) : Cl (aRes r) = true := by simp [aRes, Cl, ClL]
theorem abad_c (c : Int) : FnP Tryz.prog 201 [.int .i64 c] (aRes (aBad c)) := by
 refine FnP.intro Tryz.func201 rfl rfl fun G w => ?_
 repeat' (first | apply WK.seq | (refine hQ.h _ _ ?_; clear hQ hA) | (refine WK.rH Tryz.ntmps201 (by kernel_rfl) ?_; intro A hA Q hQ; simp [*]) | (refine WK.ret Tryz.func201 ?_ ?_ <;> simp (maxDischargeDepth := 120) [Tryz.results201, aRes, aBad, aF, act0, Action.enc, oxm0, wideZ, uZ_, *]))
def aLength (k : Int) : Nat × Nat := if k = 0 then (16, 10) else if k = 22 then (8, 8) else if k = 17 then (8, 6) else if k = 18 then (8, 4) else (0, 0)
theorem alength_c (k : Int) : FnP Tryz.prog 203 [.int .i64 k] (.tup [.int .i64 ((aLength k).1 : Int), .int .i64 ((aLength k).2 : Int)]) := by
 refine FnP.intro Tryz.func203 rfl rfl fun G w => ?_
 repeat' (first | apply WK.seq | apply WK.block | apply WK.inBlock | apply WK.skip | (refine hQ.h _ _ ?_; clear hQ hA) | (refine WK.c2 rfl (fun h => ?_) (fun h => ?_) <;> (first | (simp [*] at h; done) | (have h2 := h; simp at h2; exfalso; omega) | (have h2 := h; simp at h2; try simp only [Bool.not_eq_true', Bool.not_eq_false'] at h) | skip)) | (refine WK.rH Tryz.ntmps203 (by kernel_rfl) ?_; intro A hA Q hQ; simp [*]) | (refine WK.ret Tryz.func203 ?_ ?_ <;> simp (maxDischargeDepth := 120) [Tryz.results203, aLength, *]))
def aOf (k : Int) (b : List (BitVec 8)) : Action := if k = 0 then ⟨0, (getN b 4 4).1, (getN b 8 2).1, 0, 0, oxm0⟩ else if k = 22 then ⟨22, 0, 0, (getN b 4 4).1, 0, oxm0⟩ else if k = 17 then ⟨17, 0, 0, 0, (getN b 4 2).1, oxm0⟩ else ⟨k, 0, 0, 0, 0, oxm0⟩
def aPlain (k : Int) (b : List (BitVec 8)) : Action × Int × Option Int :=
 if k = 0 ∧ aGoes (getN b 4 4).1 = false then aBad 4 else if Action.right (aOf k b) = true then (aOf k b, b.length, none) else aBad (if k = 22 then 9 else 5)
set_option maxHeartbeats 4000000 in
theorem aplain_c (k : Int) (b : List (BitVec 8)) (hb : b.length ≤ 9223372036854775807) : FnP Tryz.prog 205 [.int .i64 k, byS b] (aRes (aPlain k b)) := by
 have hr := aright_c (aOf k b)
 have g1 := nget_c b 4 4 Sz4 hb (by omega)
 have g2 := nget_c b 8 2 Sz2 hb (by omega)
 have g3 := nget_c b 4 2 Sz2 hb (by omega)
 have b4 := abad_c 4
 have b5 := abad_c 5
 have b9 := abad_c 9
 obtain ⟨r, hre⟩ : ∃ r, Action.right (aOf k b) = r := ⟨_, rfl⟩
 rw [hre] at hr
 unfold byS at *
 by_cases k0 : k = 0
 · subst k0
   cases hg : aGoes (getN b 4 4).1
   · have e : aPlain 0 b = aBad 4 := by unfold aPlain; rw [if_pos ⟨rfl, hg⟩]
     clear hr hre
     refine FnP.intro Tryz.func205 rfl rfl fun G w => ?_
     repeat' (first | apply WK.seq | apply WK.block | refine WK.cT rfl ?_ | (refine hQ.h _ _ ?_; clear hQ hA) | (refine WK.rH Tryz.ntmps205 (by kernel_rfl) ?_; intro A hA Q hQ; simp [zA, aF, *]) | (refine RunQ.k rfl rfl rfl rfl rfl ?_ (g1) ?_ ?_ <;> simp (maxDischargeDepth := 120) [zA, aF, *] <;> refine ⟨?_⟩) | (refine RunQ.k rfl rfl rfl rfl rfl ?_ (g2) ?_ ?_ <;> simp (maxDischargeDepth := 120) [zA, aF, *] <;> refine ⟨?_⟩) | (refine RunQ.k rfl rfl rfl rfl rfl ?_ (agoes_c (getN b 4 4).1) ?_ ?_ <;> simp (maxDischargeDepth := 120) [zA, aF, *] <;> refine ⟨?_⟩) | (refine RunQ.k rfl rfl rfl rfl rfl ?_ (b4) ?_ ?_ <;> simp (maxDischargeDepth := 120) [zA, aF, *] <;> refine ⟨?_⟩) | (refine WK.ret Tryz.func205 ?_ ?_ <;> simp (maxDischargeDepth := 120) [Tryz.results205, zA, aF, *]))
   · have e : aPlain 0 b = if r = true then (aOf 0 b, (b.length : Int), none) else aBad 5 := by unfold aPlain; rw [if_neg (by simp [hg]), hre]; rfl
     simp only [aOf, if_pos rfl, Action.enc, oxm0, wideZ, uZ_] at hr
     clear hre
     refine FnP.intro Tryz.func205 rfl rfl fun G w => ?_
     cases r
     · repeat' (first | apply WK.seq | apply WK.block | apply WK.inBlock | apply WK.skip | refine WK.cT rfl ?_ | refine WK.cF rfl ?_ | (refine hQ.h _ _ ?_; clear hQ hA) | (refine WK.rH Tryz.ntmps205 (by kernel_rfl) ?_; intro A hA Q hQ; simp [zA, aF, *]) | (refine RunQ.k rfl rfl rfl rfl rfl ?_ (g1) ?_ ?_ <;> simp (maxDischargeDepth := 120) [zA, aF, *] <;> refine ⟨?_⟩) | (refine RunQ.k rfl rfl rfl rfl rfl ?_ (g2) ?_ ?_ <;> simp (maxDischargeDepth := 120) [zA, aF, *] <;> refine ⟨?_⟩) | (refine RunQ.k rfl rfl rfl rfl rfl ?_ (agoes_c (getN b 4 4).1) ?_ ?_ <;> simp (maxDischargeDepth := 120) [zA, aF, *] <;> refine ⟨?_⟩) | (refine RunQ.k rfl rfl rfl rfl rfl ?_ (hr) ?_ ?_ <;> simp (maxDischargeDepth := 120) [zA, aF, *] <;> refine ⟨?_⟩) | (refine RunQ.k rfl rfl rfl rfl rfl ?_ (b5) ?_ ?_ <;> simp (maxDischargeDepth := 120) [zA, aF, *] <;> refine ⟨?_⟩) | (refine WK.ret Tryz.func205 ?_ ?_ <;> simp (maxDischargeDepth := 120) [Tryz.results205, zA, aF, *]))
     · repeat' (first | apply WK.seq | apply WK.block | apply WK.inBlock | apply WK.skip | refine WK.cT rfl ?_ | refine WK.cF rfl ?_ | (refine hQ.h _ _ ?_; clear hQ hA) | (refine WK.rH Tryz.ntmps205 (by kernel_rfl) ?_; intro A hA Q hQ; simp [zA, aF, *]) | (refine RunQ.k rfl rfl rfl rfl rfl ?_ (g1) ?_ ?_ <;> simp (maxDischargeDepth := 120) [zA, aF, *] <;> refine ⟨?_⟩) | (refine RunQ.k rfl rfl rfl rfl rfl ?_ (g2) ?_ ?_ <;> simp (maxDischargeDepth := 120) [zA, aF, *] <;> refine ⟨?_⟩) | (refine RunQ.k rfl rfl rfl rfl rfl ?_ (agoes_c (getN b 4 4).1) ?_ ?_ <;> simp (maxDischargeDepth := 120) [zA, aF, *] <;> refine ⟨?_⟩) | (refine RunQ.k rfl rfl rfl rfl rfl ?_ (hr) ?_ ?_ <;> simp (maxDischargeDepth := 120) [zA, aF, *] <;> refine ⟨?_⟩) | (refine WK.ret Tryz.func205 ?_ ?_ <;> simp (maxDischargeDepth := 120) [Tryz.results205, zA, aF, aOf, *]))
 by_cases k1 : k = 22
 · subst k1
   have e : aPlain 22 b = if r = true then (aOf 22 b, (b.length : Int), none) else aBad 9 := by unfold aPlain; rw [if_neg (by simp), hre]; rfl
   simp only [aOf, if_neg k0, if_pos rfl, Action.enc, oxm0, wideZ, uZ_] at hr
   clear hre
   refine FnP.intro Tryz.func205 rfl rfl fun G w => ?_
   cases r
   · repeat' (first | apply WK.seq | apply WK.block | refine WK.cT rfl ?_ | refine WK.cF rfl ?_ | (refine hQ.h _ _ ?_; clear hQ hA) | (refine WK.rH Tryz.ntmps205 (by kernel_rfl) ?_; intro A hA Q hQ; simp [zA, aF, *]) | (refine RunQ.k rfl rfl rfl rfl rfl ?_ (g1) ?_ ?_ <;> simp (maxDischargeDepth := 120) [zA, aF, *] <;> refine ⟨?_⟩) | (refine RunQ.k rfl rfl rfl rfl rfl ?_ (hr) ?_ ?_ <;> simp (maxDischargeDepth := 120) [zA, aF, *] <;> refine ⟨?_⟩) | (refine RunQ.k rfl rfl rfl rfl rfl ?_ (b9) ?_ ?_ <;> simp (maxDischargeDepth := 120) [zA, aF, *] <;> refine ⟨?_⟩) | (refine WK.ret Tryz.func205 ?_ ?_ <;> simp (maxDischargeDepth := 120) [Tryz.results205, zA, aF, *]))
   · repeat' (first | apply WK.seq | apply WK.block | apply WK.inBlock | apply WK.skip | refine WK.cT rfl ?_ | refine WK.cF rfl ?_ | (refine hQ.h _ _ ?_; clear hQ hA) | (refine WK.rH Tryz.ntmps205 (by kernel_rfl) ?_; intro A hA Q hQ; simp [zA, aF, *]) | (refine RunQ.k rfl rfl rfl rfl rfl ?_ (g1) ?_ ?_ <;> simp (maxDischargeDepth := 120) [zA, aF, *] <;> refine ⟨?_⟩) | (refine RunQ.k rfl rfl rfl rfl rfl ?_ (hr) ?_ ?_ <;> simp (maxDischargeDepth := 120) [zA, aF, *] <;> refine ⟨?_⟩) | (refine WK.ret Tryz.func205 ?_ ?_ <;> simp (maxDischargeDepth := 120) [Tryz.results205, zA, aF, aOf, *]))
 by_cases k2 : k = 17
 · subst k2
   have e : aPlain 17 b = if r = true then (aOf 17 b, (b.length : Int), none) else aBad 5 := by unfold aPlain; rw [if_neg (by simp), hre]; rfl
   simp only [aOf, if_neg k0, if_neg k1, if_pos rfl, Action.enc, oxm0, wideZ, uZ_] at hr
   clear hre
   refine FnP.intro Tryz.func205 rfl rfl fun G w => ?_
   cases r
   · repeat' (first | apply WK.seq | apply WK.block | apply WK.inBlock | refine WK.cT rfl ?_ | refine WK.cF rfl ?_ | (refine hQ.h _ _ ?_; clear hQ hA) | (refine WK.rH Tryz.ntmps205 (by kernel_rfl) ?_; intro A hA Q hQ; simp [zA, aF, *]) | (refine RunQ.k rfl rfl rfl rfl rfl ?_ (g3) ?_ ?_ <;> simp (maxDischargeDepth := 120) [zA, aF, *] <;> refine ⟨?_⟩) | (refine RunQ.k rfl rfl rfl rfl rfl ?_ (hr) ?_ ?_ <;> simp (maxDischargeDepth := 120) [zA, aF, *] <;> refine ⟨?_⟩) | (refine RunQ.k rfl rfl rfl rfl rfl ?_ (b5) ?_ ?_ <;> simp (maxDischargeDepth := 120) [zA, aF, *] <;> refine ⟨?_⟩) | (refine WK.ret Tryz.func205 ?_ ?_ <;> simp (maxDischargeDepth := 120) [Tryz.results205, zA, aF, *]))
   · repeat' (first | apply WK.seq | apply WK.block | apply WK.inBlock | apply WK.skip | refine WK.cT rfl ?_ | refine WK.cF rfl ?_ | (refine hQ.h _ _ ?_; clear hQ hA) | (refine WK.rH Tryz.ntmps205 (by kernel_rfl) ?_; intro A hA Q hQ; simp [zA, aF, *]) | (refine RunQ.k rfl rfl rfl rfl rfl ?_ (g3) ?_ ?_ <;> simp (maxDischargeDepth := 120) [zA, aF, *] <;> refine ⟨?_⟩) | (refine RunQ.k rfl rfl rfl rfl rfl ?_ (hr) ?_ ?_ <;> simp (maxDischargeDepth := 120) [zA, aF, *] <;> refine ⟨?_⟩) | (refine WK.ret Tryz.func205 ?_ ?_ <;> simp (maxDischargeDepth := 120) [Tryz.results205, zA, aF, aOf, *]))
 have e : aPlain k b = if r = true then (aOf k b, (b.length : Int), none) else aBad 5 := by unfold aPlain; rw [if_neg (by simp [k0]), hre, if_neg k1]
 simp only [aOf, if_neg k0, if_neg k1, if_neg k2, Action.enc, oxm0, wideZ, uZ_] at hr
 clear hre
 refine FnP.intro Tryz.func205 rfl rfl fun G w => ?_
 cases r
 · repeat' (first | apply WK.seq | apply WK.block | apply WK.inBlock | apply WK.skip | refine WK.cT rfl ?_ | (refine hQ.h _ _ ?_; clear hQ hA) | (refine WK.c2 rfl (fun h => ?_) (fun h => ?_) <;> (first | (simp [*] at h; done) | (have h2 := h; simp at h2; exfalso; omega) | (have h2 := h; simp at h2; try simp only [Bool.not_eq_true', Bool.not_eq_false'] at h) | skip)) | (refine WK.rH Tryz.ntmps205 (by kernel_rfl) ?_; intro A hA Q hQ; simp [zA, aF, *]) | (refine RunQ.k rfl rfl rfl rfl rfl ?_ (hr) ?_ ?_ <;> simp (maxDischargeDepth := 120) [zA, aF, *] <;> refine ⟨?_⟩) | (refine RunQ.k rfl rfl rfl rfl rfl ?_ (b5) ?_ ?_ <;> simp (maxDischargeDepth := 120) [zA, aF, *] <;> refine ⟨?_⟩) | (refine WK.ret Tryz.func205 ?_ ?_ <;> simp (maxDischargeDepth := 120) [Tryz.results205, zA, aF, *]))
 · repeat' (first | apply WK.seq | apply WK.block | apply WK.inBlock | apply WK.skip | refine WK.cF rfl ?_ | (refine hQ.h _ _ ?_; clear hQ hA) | (refine WK.c2 rfl (fun h => ?_) (fun h => ?_) <;> (first | (simp [*] at h; done) | (have h2 := h; simp at h2; exfalso; omega) | (have h2 := h; simp at h2; try simp only [Bool.not_eq_true', Bool.not_eq_false'] at h) | skip)) | (refine WK.rH Tryz.ntmps205 (by kernel_rfl) ?_; intro A hA Q hQ; simp [zA, aF, *]) | (refine RunQ.k rfl rfl rfl rfl rfl ?_ (hr) ?_ ?_ <;> simp (maxDischargeDepth := 120) [zA, aF, *] <;> refine ⟨?_⟩) | (refine WK.ret Tryz.func205 ?_ ?_ <;> simp (maxDischargeDepth := 120) [Tryz.results205, zA, aF, aOf, *]))

def oLen (b : List (BitVec 8)) : Nat := (oDec b).2.1.toNat
theorem oLen_eq (b : List (BitVec 8)) : (oDec b).2.1 = (oLen b : Int) ∧ oLen b ≤ 259 := by
 have h : 0 ≤ (oDec b).2.1 ∧ (oDec b).2.1 ≤ 259 := by
   have := bAt_lt b 3
   unfold oDec
   split
   · split <;> (simp only; omega)
   · simp
 unfold oLen; omega
def aSetD (b : List (BitVec 8)) : Action × Int × Option Int :=
 if (oDec (b.drop 4)).2.2 = 1 then aBad 14 else if (oDec (b.drop 4)).2.2 = 6 then aBad 13 else if (oDec (b.drop 4)).2.2 = 0 then
   (if b.length = (4 + oLen (b.drop 4) + 7) / 8 * 8 then (if allZ (b.drop (4 + oLen (b.drop 4))) = true then (if aSets (oDec (b.drop 4)).1.field = true then
     (if (oDec (b.drop 4)).1.masked = true then aBad 15 else (⟨25, 0, 0, 0, 0, (oDec (b.drop 4)).1⟩, (b.length : Int), none)) else aBad 13) else aBad 5) else aBad 1) else aBad 15
set_option maxHeartbeats 4000000 in
theorem aset_c (b : List (BitVec 8)) (hb : b.length ≤ 65536) (h8 : 8 ≤ b.length) : FnP Tryz.prog 202 [byS b] (aRes (aSetD b)) := by
 have hd := odec_c (b.drop 4) (by rw [List.length_drop]; omega)
 have hol := oLen_eq (b.drop 4)
 have hn : aSetD b = if (oDec (b.drop 4)).2.2 = 1 then aBad 14 else if (oDec (b.drop 4)).2.2 = 6 then aBad 13 else if (oDec (b.drop 4)).2.2 = 0 then
   (if b.length = (4 + oLen (b.drop 4) + 7) / 8 * 8 then (if allZ (b.drop (4 + oLen (b.drop 4))) = true then (if aSets (oDec (b.drop 4)).1.field = true then
     (if (oDec (b.drop 4)).1.masked = true then aBad 15 else (⟨25, 0, 0, 0, 0, (oDec (b.drop 4)).1⟩, (b.length : Int), none)) else aBad 13) else aBad 5) else aBad 1) else aBad 15 := rfl
 obtain ⟨x, hx⟩ : ∃ x, oLen (b.drop 4) = x := ⟨_, rfl⟩
 obtain ⟨D, hD⟩ : ∃ D, oDec (b.drop 4) = D := ⟨_, rfl⟩
 rw [hx, hD] at hol
 rw [hx, hD] at hn
 rw [hD, hol.1] at hd
 have hx9 := hol.2
 obtain ⟨o, m, c⟩ := D
 simp only at hn hd
 clear hD hx hol
 have d4 : ((byL b).drop 4).take (b.length - 4) = byL (b.drop 4) := by rw [byL_drop]; exact by_full _ _ (by rw [List.length_drop])
 have j4 : (4 : Int) ≤ b.length := by omega
 unfold byS at *
 rw [List.length_drop] at hd
 have b1 := abad_c 1
 have b5 := abad_c 5
 have b13 := abad_c 13
 have b14 := abad_c 14
 have b15 := abad_c 15
 by_cases c1 : c = 1
 · subst c1
   have e : aSetD b = aBad 14 := by rw [hn, if_pos rfl]
   clear hn
   simp only [oFault, if_neg (show ¬ (1 : Int) = 0 by decide)] at hd
   refine FnP.intro Tryz.func202 rfl rfl fun G w => ?_
   repeat' (first | apply WK.seq | apply WK.block | refine WK.cT rfl ?_ | (refine hQ.h _ _ ?_; clear hQ hA) | (refine WK.rH Tryz.ntmps202 (by kernel_rfl) ?_; intro A hA Q hQ; simp [zA, Oxm.enc, aF, *]) | (refine RunQ.gd rfl (by rw [hA.h]; rfl) ?_; simp [zA, Oxm.enc, aF, *]) | (refine RunQ.k rfl rfl rfl rfl rfl ?_ (hd) ?_ ?_ <;> simp (maxDischargeDepth := 120) [zA, Oxm.enc, aF, *] <;> refine ⟨?_⟩) | (refine RunQ.k rfl rfl rfl rfl rfl ?_ (b14) ?_ ?_ <;> simp (maxDischargeDepth := 120) [zA, Oxm.enc, aF, *] <;> refine ⟨?_⟩) | (refine WK.ret Tryz.func202 ?_ ?_ <;> simp (maxDischargeDepth := 120) [Tryz.results202, zA, Oxm.enc, aF, *]))
 by_cases c6 : c = 6
 · subst c6
   have e : aSetD b = aBad 13 := by rw [hn, if_neg c1, if_pos rfl]
   clear hn
   simp only [oFault, if_neg (show ¬ (6 : Int) = 0 by decide)] at hd
   refine FnP.intro Tryz.func202 rfl rfl fun G w => ?_
   repeat' (first | apply WK.seq | apply WK.block | refine WK.cT rfl ?_ | refine WK.cF rfl ?_ | (refine hQ.h _ _ ?_; clear hQ hA) | (refine WK.rH Tryz.ntmps202 (by kernel_rfl) ?_; intro A hA Q hQ; simp [zA, Oxm.enc, aF, *]) | (refine RunQ.gd rfl (by rw [hA.h]; rfl) ?_; simp [zA, Oxm.enc, aF, *]) | (refine RunQ.k rfl rfl rfl rfl rfl ?_ (hd) ?_ ?_ <;> simp (maxDischargeDepth := 120) [zA, Oxm.enc, aF, *] <;> refine ⟨?_⟩) | (refine RunQ.k rfl rfl rfl rfl rfl ?_ (b13) ?_ ?_ <;> simp (maxDischargeDepth := 120) [zA, Oxm.enc, aF, *] <;> refine ⟨?_⟩) | (refine WK.ret Tryz.func202 ?_ ?_ <;> simp (maxDischargeDepth := 120) [Tryz.results202, zA, Oxm.enc, aF, *]))
 by_cases c0 : c = 0
 case neg =>
   have e : aSetD b = aBad 15 := by rw [hn, if_neg c1, if_neg c6, if_neg c0]
   clear hn
   simp only [oFault, if_neg c0] at hd
   refine FnP.intro Tryz.func202 rfl rfl fun G w => ?_
   repeat' (first | apply WK.seq | apply WK.block | refine WK.cT rfl ?_ | (refine hQ.h _ _ ?_; clear hQ hA) | (refine WK.c2 rfl (fun h => ?_) (fun h => ?_) <;> (first | (simp [*] at h; done) | (have h2 := h; simp at h2; exfalso; omega) | (have h2 := h; simp at h2; try simp only [Bool.not_eq_true', Bool.not_eq_false'] at h) | skip)) | (refine WK.rH Tryz.ntmps202 (by kernel_rfl) ?_; intro A hA Q hQ; simp [zA, Oxm.enc, aF, *]) | (refine RunQ.gd rfl (by rw [hA.h]; rfl) ?_; simp [zA, Oxm.enc, aF, *]) | (refine RunQ.k rfl rfl rfl rfl rfl ?_ (hd) ?_ ?_ <;> simp (maxDischargeDepth := 120) [zA, Oxm.enc, aF, *] <;> refine ⟨?_⟩) | (refine RunQ.k rfl rfl rfl rfl rfl ?_ (b15) ?_ ?_ <;> simp (maxDischargeDepth := 120) [zA, Oxm.enc, aF, *] <;> refine ⟨?_⟩) | (refine WK.ret Tryz.func202 ?_ ?_ <;> simp (maxDischargeDepth := 120) [Tryz.results202, zA, Oxm.enc, aF, *]))
 subst c0
 rw [if_neg c1, if_neg c6, if_pos rfl] at hn
 simp only [oFault, if_pos rfl] at hd
 have w1 : IntKind.i64.wrap (4 + (x : Int)) = ((4 + x : Nat) : Int) := by rw [wrap_i64 (by omega) (by omega)]; omega
 have w2 : IntKind.i64.wrap (((4 + x : Nat) : Int) + 7) = ((4 + x + 7 : Nat) : Int) := by rw [wrap_i64 (by omega) (by omega)]; omega
 have w3 := bNot7b (4 + x + 7) (by omega)
 have z1 : ((b.length : Int) == (((4 + x + 7) / 8 * 8 : Nat) : Int)) = (b.length == (4 + x + 7) / 8 * 8) := by rw [Bool.eq_iff_iff, beq_iff_eq, beq_iff_eq]; omega
 by_cases hl : b.length = (4 + x + 7) / 8 * 8
 case neg =>
   have hlb : (b.length == (4 + x + 7) / 8 * 8) = false := by simpa using hl
   have e : aSetD b = aBad 1 := by rw [hn, if_neg hl]
   clear hn hl
   rw [hlb] at z1
   obtain ⟨y, hy⟩ : ∃ y, (4 + x + 7) / 8 * 8 = y := ⟨_, rfl⟩
   obtain ⟨x4, hx4⟩ : ∃ x4, 4 + x = x4 := ⟨_, rfl⟩
   obtain ⟨x7, hx7⟩ : ∃ x7, 4 + x + 7 = x7 := ⟨_, rfl⟩
   rw [hx4] at hx7 w1 w2 w3 z1
   rw [hx7] at w2 w3 z1
   obtain ⟨y, hy⟩ : ∃ y, x7 / 8 * 8 = y := ⟨_, rfl⟩
   rw [hy] at w3 z1
   clear hy hx4 hx7 hlb
   refine FnP.intro Tryz.func202 rfl rfl fun G w => ?_
   repeat' (first | apply WK.seq | apply WK.block | refine WK.cT rfl ?_ | refine WK.cF rfl ?_ | (refine hQ.h _ _ ?_; clear hQ hA) | (refine WK.rH Tryz.ntmps202 (by kernel_rfl) ?_; intro A hA Q hQ; simp [zA, Oxm.enc, bne, aF, *]) | (refine RunQ.gd rfl (by rw [hA.h]; rfl) ?_; simp [zA, Oxm.enc, bne, aF, *]) | (refine RunQ.k rfl rfl rfl rfl rfl ?_ (hd) ?_ ?_ <;> simp (maxDischargeDepth := 120) [zA, Oxm.enc, bne, aF, *] <;> refine ⟨?_⟩) | (refine RunQ.k rfl rfl rfl rfl rfl ?_ (b1) ?_ ?_ <;> simp (maxDischargeDepth := 120) [zA, Oxm.enc, bne, aF, *] <;> refine ⟨?_⟩) | (refine WK.ret Tryz.func202 ?_ ?_ <;> simp (maxDischargeDepth := 120) [Tryz.results202, zA, Oxm.enc, bne, aF, *]))
 have hlb : (b.length == (4 + x + 7) / 8 * 8) = true := by simpa using hl
 rw [if_pos hl] at hn
 rw [hlb] at z1
 have hle : 4 + x ≤ b.length := by omega
 have hle' : ((4 + x : Nat) : Int) ≤ b.length := by omega
 have d5 : ((byL b).drop (4 + x)).take (b.length - (4 + x)) = byL (b.drop (4 + x)) := by rw [byL_drop]; exact by_full _ _ (by rw [List.length_drop])
 have he := aempty_c (b.drop (4 + x)) (by rw [List.length_drop]; omega)
 unfold byS at he
 rw [List.length_drop] at he
 obtain ⟨y, hy⟩ : ∃ y, (4 + x + 7) / 8 * 8 = y := ⟨_, rfl⟩
 obtain ⟨x4, hx4⟩ : ∃ x4, 4 + x = x4 := ⟨_, rfl⟩
 obtain ⟨x7, hx7⟩ : ∃ x7, 4 + x + 7 = x7 := ⟨_, rfl⟩
 rw [hx4] at hx7 w1 w2 w3 z1 hle hle' d5 he hn
 rw [hx7] at w2 w3 z1
 obtain ⟨y, hy⟩ : ∃ y, x7 / 8 * 8 = y := ⟨_, rfl⟩
 rw [hy] at w3 z1
 obtain ⟨B5, hB5⟩ : ∃ B5, b.drop x4 = B5 := ⟨_, rfl⟩
 rw [hB5] at d5 he hn
 clear hy hx4 hx7 hlb hl hB5
 refine FnP.intro Tryz.func202 rfl rfl fun G w => ?_
 cases k1 : allZ B5
 · rw [k1, if_neg Bool.false_ne_true] at hn
   repeat' (first | apply WK.seq | apply WK.block | refine WK.cT rfl ?_ | refine WK.cF rfl ?_ | (refine hQ.h _ _ ?_; clear hQ hA) | (refine WK.rH Tryz.ntmps202 (by kernel_rfl) ?_; intro A hA Q hQ; simp [zA, Oxm.enc, bne, aF, *]) | (refine RunQ.gd rfl (by rw [hA.h]; rfl) ?_; simp [zA, Oxm.enc, bne, aF, *]) | (refine RunQ.k rfl rfl rfl rfl rfl ?_ (hd) ?_ ?_ <;> simp (maxDischargeDepth := 120) [zA, Oxm.enc, bne, aF, *] <;> refine ⟨?_⟩) | (refine RunQ.k rfl rfl rfl rfl rfl ?_ (he) ?_ ?_ <;> simp (maxDischargeDepth := 120) [zA, Oxm.enc, bne, aF, *] <;> refine ⟨?_⟩) | (refine RunQ.k rfl rfl rfl rfl rfl ?_ (b5) ?_ ?_ <;> simp (maxDischargeDepth := 120) [zA, Oxm.enc, bne, aF, *] <;> refine ⟨?_⟩) | (refine WK.ret Tryz.func202 ?_ ?_ <;> simp (maxDischargeDepth := 120) [Tryz.results202, zA, Oxm.enc, bne, aF, *]))
 rw [k1, if_pos rfl] at hn
 cases k2 : aSets o.field
 · rw [k2, if_neg Bool.false_ne_true] at hn
   repeat' (first | apply WK.seq | apply WK.block | refine WK.cT rfl ?_ | refine WK.cF rfl ?_ | (refine hQ.h _ _ ?_; clear hQ hA) | (refine WK.rH Tryz.ntmps202 (by kernel_rfl) ?_; intro A hA Q hQ; simp [zA, Oxm.enc, bne, aF, *]) | (refine RunQ.gd rfl (by rw [hA.h]; rfl) ?_; simp [zA, Oxm.enc, bne, aF, *]) | (refine RunQ.k rfl rfl rfl rfl rfl ?_ (hd) ?_ ?_ <;> simp (maxDischargeDepth := 120) [zA, Oxm.enc, bne, aF, *] <;> refine ⟨?_⟩) | (refine RunQ.k rfl rfl rfl rfl rfl ?_ (he) ?_ ?_ <;> simp (maxDischargeDepth := 120) [zA, Oxm.enc, bne, aF, *] <;> refine ⟨?_⟩) | (refine RunQ.k rfl rfl rfl rfl rfl ?_ (asets_c o.field) ?_ ?_ <;> simp (maxDischargeDepth := 120) [zA, Oxm.enc, bne, aF, *] <;> refine ⟨?_⟩) | (refine RunQ.k rfl rfl rfl rfl rfl ?_ (b13) ?_ ?_ <;> simp (maxDischargeDepth := 120) [zA, Oxm.enc, bne, aF, *] <;> refine ⟨?_⟩) | (refine WK.ret Tryz.func202 ?_ ?_ <;> simp (maxDischargeDepth := 120) [Tryz.results202, zA, Oxm.enc, bne, aF, *]))
 rw [k2, if_pos rfl] at hn
 cases k3 : o.masked
 · rw [k3, if_neg Bool.false_ne_true] at hn
   repeat' (first | apply WK.seq | apply WK.block | apply WK.inBlock | apply WK.skip | refine WK.cF rfl ?_ | (refine hQ.h _ _ ?_; clear hQ hA) | (refine WK.rH Tryz.ntmps202 (by kernel_rfl) ?_; intro A hA Q hQ; simp [zA, Oxm.enc, bne, aF, *]) | (refine RunQ.gd rfl (by rw [hA.h]; rfl) ?_; simp [zA, Oxm.enc, bne, aF, *]) | (refine RunQ.k rfl rfl rfl rfl rfl ?_ (hd) ?_ ?_ <;> simp (maxDischargeDepth := 120) [zA, Oxm.enc, bne, aF, *] <;> refine ⟨?_⟩) | (refine RunQ.k rfl rfl rfl rfl rfl ?_ (he) ?_ ?_ <;> simp (maxDischargeDepth := 120) [zA, Oxm.enc, bne, aF, *] <;> refine ⟨?_⟩) | (refine RunQ.k rfl rfl rfl rfl rfl ?_ (asets_c o.field) ?_ ?_ <;> simp (maxDischargeDepth := 120) [zA, Oxm.enc, bne, aF, *] <;> refine ⟨?_⟩) | (refine WK.ret Tryz.func202 ?_ ?_ <;> simp (maxDischargeDepth := 120) [Tryz.results202, zA, Oxm.enc, bne, aF, *]))
 · rw [k3, if_pos rfl] at hn
   repeat' (first | apply WK.seq | apply WK.block | refine WK.cT rfl ?_ | refine WK.cF rfl ?_ | (refine hQ.h _ _ ?_; clear hQ hA) | (refine WK.rH Tryz.ntmps202 (by kernel_rfl) ?_; intro A hA Q hQ; simp [zA, Oxm.enc, bne, aF, *]) | (refine RunQ.gd rfl (by rw [hA.h]; rfl) ?_; simp [zA, Oxm.enc, bne, aF, *]) | (refine RunQ.k rfl rfl rfl rfl rfl ?_ (hd) ?_ ?_ <;> simp (maxDischargeDepth := 120) [zA, Oxm.enc, bne, aF, *] <;> refine ⟨?_⟩) | (refine RunQ.k rfl rfl rfl rfl rfl ?_ (he) ?_ ?_ <;> simp (maxDischargeDepth := 120) [zA, Oxm.enc, bne, aF, *] <;> refine ⟨?_⟩) | (refine RunQ.k rfl rfl rfl rfl rfl ?_ (asets_c o.field) ?_ ?_ <;> simp (maxDischargeDepth := 120) [zA, Oxm.enc, bne, aF, *] <;> refine ⟨?_⟩) | (refine RunQ.k rfl rfl rfl rfl rfl ?_ (b15) ?_ ?_ <;> simp (maxDischargeDepth := 120) [zA, Oxm.enc, bne, aF, *] <;> refine ⟨?_⟩) | (refine WK.ret Tryz.func202 ?_ ?_ <;> simp (maxDischargeDepth := 120) [Tryz.results202, zA, Oxm.enc, bne, aF, *]))

def aN (b : List (BitVec 8)) : Nat := valN ((b.drop 2).take 2)
def aK (b : List (BitVec 8)) : Nat := valN ((b.drop 0).take 2)
theorem aN_lt (b : List (BitVec 8)) (h : 8 ≤ b.length) : aN b < 65536 := by
 have := valN_lt 2 ((b.drop 2).take 2) (by simp; omega)
 exact this
theorem aN_get (b : List (BitVec 8)) (h : 8 ≤ b.length) : getN b 2 2 = ((aN b : Int), 0) := by unfold getN aN; rw [if_pos (by omega)]
theorem aK_get (b : List (BitVec 8)) (h : 8 ≤ b.length) : getN b 0 2 = ((aK b : Int), 0) := by unfold getN aK; rw [if_pos (by omega)]
def aDec (b : List (BitVec 8)) : Action × Int × Option Int :=
 if b.length < 8 then aBad 1 else if aN b < 8 ∨ ¬ aN b % 8 = 0 ∨ b.length < aN b then aBad 1 else
 if aK b = 25 then aSetD (b.take (aN b)) else if (aLength (aK b)).1 = 0 then aBad 0 else if ¬ aN b = (aLength (aK b)).1 then aBad 1 else
 if allZ ((b.take (aN b)).drop (aLength (aK b)).2) = true then aPlain (aK b) (b.take (aN b)) else aBad 5
set_option maxHeartbeats 4000000 in
theorem adec_c (b : List (BitVec 8)) (hb : b.length ≤ 9223372036854775807) : FnP Tryz.prog 193 [byS b] (aRes (aDec b)) := by
 have b1 := abad_c 1
 have b0 := abad_c 0
 have b5 := abad_c 5
 by_cases h8 : b.length < 8
 · have e : aDec b = aBad 1 := by unfold aDec; rw [if_pos h8]
   have j8 : (b.length : Int) < 8 := by omega
   unfold byS
   refine FnP.intro Tryz.func193 rfl rfl fun G w => ?_
   repeat' (first | apply WK.seq | refine WK.cT rfl ?_ | (refine hQ.h _ _ ?_; clear hQ hA) | (refine WK.rH Tryz.ntmps193 (by kernel_rfl) ?_; intro A hA Q hQ; simp [zA, aF, *]) | (refine RunQ.k rfl rfl rfl rfl rfl ?_ (b1) ?_ ?_ <;> simp (maxDischargeDepth := 120) [zA, aF, *] <;> refine ⟨?_⟩) | (refine WK.ret Tryz.func193 ?_ ?_ <;> simp (maxDischargeDepth := 120) [Tryz.results193, zA, aF, *]))
 have h8' : 8 ≤ b.length := by omega
 have j8 : ¬ (b.length : Int) < 8 := by omega
 have g1 := nget_c b 0 2 Sz2 hb (by omega)
 have g2 := nget_c b 2 2 Sz2 hb (by omega)
 rw [aK_get b h8'] at g1
 rw [aN_get b h8'] at g2
 have hlt := aN_lt b h8'
 have hdef : aDec b = if aN b < 8 ∨ ¬ aN b % 8 = 0 ∨ b.length < aN b then aBad 1 else
   if aK b = 25 then aSetD (b.take (aN b)) else if (aLength (aK b)).1 = 0 then aBad 0 else if ¬ aN b = (aLength (aK b)).1 then aBad 1 else
   if allZ ((b.take (aN b)).drop (aLength (aK b)).2) = true then aPlain (aK b) (b.take (aN b)) else aBad 5 := by
   rw [aDec, if_neg h8]
 obtain ⟨n, hn⟩ : ∃ n, aN b = n := ⟨_, rfl⟩
 obtain ⟨k, hk⟩ : ∃ k, aK b = k := ⟨_, rfl⟩
 simp only [hn] at g2 hlt hdef
 simp only [hk] at g1 hdef
 clear hn hk
 have m7 := bAnd7 n hlt
 have z7 : (((n % 8 : Nat) : Int) == 0) = (n % 8 == 0) := by rw [Bool.eq_iff_iff, beq_iff_eq, beq_iff_eq]; omega
 obtain ⟨r, hr⟩ : ∃ r, n % 8 = r := ⟨_, rfl⟩
 rw [hr] at m7 z7 hdef
 by_cases c1 : n < 8
 · have e : aDec b = aBad 1 := by rw [hdef, if_pos (.inl c1)]
   have d1 : (n : Int) < 8 := by omega
   unfold byS at *
   clear hdef hr
   refine FnP.intro Tryz.func193 rfl rfl fun G w => ?_
   repeat' (first | apply WK.seq | apply WK.skip | refine WK.cT rfl ?_ | refine WK.cF rfl ?_ | (refine hQ.h _ _ ?_; clear hQ hA) | (refine WK.rH Tryz.ntmps193 (by kernel_rfl) ?_; intro A hA Q hQ; simp [zA, aF, *]) | (refine RunQ.gd rfl (by rw [hA.h]; rfl) ?_; simp [zA, aF, *]) | (refine RunQ.k rfl rfl rfl rfl rfl ?_ (g1) ?_ ?_ <;> simp (maxDischargeDepth := 120) [zA, aF, *] <;> refine ⟨?_⟩) | (refine RunQ.k rfl rfl rfl rfl rfl ?_ (g2) ?_ ?_ <;> simp (maxDischargeDepth := 120) [zA, aF, *] <;> refine ⟨?_⟩) | (refine RunQ.k rfl rfl rfl rfl rfl ?_ (b1) ?_ ?_ <;> simp (maxDischargeDepth := 120) [zA, aF, *] <;> refine ⟨?_⟩) | (refine WK.ret Tryz.func193 ?_ ?_ <;> simp (maxDischargeDepth := 120) [Tryz.results193, zA, aF, *]))
 have d1 : ¬ (n : Int) < 8 := by omega
 by_cases c2 : r = 0
 case neg =>
   have e : aDec b = aBad 1 := by rw [hdef, if_pos (.inr (.inl c2))]
   have d2 : (r == 0) = false := by simpa using c2
   rw [d2] at z7
   unfold byS at *
   clear hdef hr
   refine FnP.intro Tryz.func193 rfl rfl fun G w => ?_
   repeat' (first | apply WK.seq | apply WK.skip | refine WK.cT rfl ?_ | refine WK.cF rfl ?_ | (refine hQ.h _ _ ?_; clear hQ hA) | (refine WK.rH Tryz.ntmps193 (by kernel_rfl) ?_; intro A hA Q hQ; simp [zA, aF, bne, *]) | (refine RunQ.gd rfl (by rw [hA.h]; rfl) ?_; simp [zA, aF, bne, *]) | (refine RunQ.k rfl rfl rfl rfl rfl ?_ (g1) ?_ ?_ <;> simp (maxDischargeDepth := 120) [zA, aF, bne, *] <;> refine ⟨?_⟩) | (refine RunQ.k rfl rfl rfl rfl rfl ?_ (g2) ?_ ?_ <;> simp (maxDischargeDepth := 120) [zA, aF, bne, *] <;> refine ⟨?_⟩) | (refine RunQ.k rfl rfl rfl rfl rfl ?_ (b1) ?_ ?_ <;> simp (maxDischargeDepth := 120) [zA, aF, bne, *] <;> refine ⟨?_⟩) | (refine WK.ret Tryz.func193 ?_ ?_ <;> simp (maxDischargeDepth := 120) [Tryz.results193, zA, aF, bne, *]))
 have d2 : (r == 0) = true := by simpa using c2
 rw [d2] at z7
 by_cases c3 : b.length < n
 · have e : aDec b = aBad 1 := by rw [hdef, if_pos (.inr (.inr c3))]
   have d3 : (b.length : Int) < n := by omega
   unfold byS at *
   clear hdef hr c2
   refine FnP.intro Tryz.func193 rfl rfl fun G w => ?_
   repeat' (first | apply WK.seq | apply WK.skip | refine WK.cT rfl ?_ | refine WK.cF rfl ?_ | (refine hQ.h _ _ ?_; clear hQ hA) | (refine WK.rH Tryz.ntmps193 (by kernel_rfl) ?_; intro A hA Q hQ; simp [zA, aF, bne, *]) | (refine RunQ.gd rfl (by rw [hA.h]; rfl) ?_; simp [zA, aF, bne, *]) | (refine RunQ.k rfl rfl rfl rfl rfl ?_ (g1) ?_ ?_ <;> simp (maxDischargeDepth := 120) [zA, aF, bne, *] <;> refine ⟨?_⟩) | (refine RunQ.k rfl rfl rfl rfl rfl ?_ (g2) ?_ ?_ <;> simp (maxDischargeDepth := 120) [zA, aF, bne, *] <;> refine ⟨?_⟩) | (refine RunQ.k rfl rfl rfl rfl rfl ?_ (b1) ?_ ?_ <;> simp (maxDischargeDepth := 120) [zA, aF, bne, *] <;> refine ⟨?_⟩) | (refine WK.ret Tryz.func193 ?_ ?_ <;> simp (maxDischargeDepth := 120) [Tryz.results193, zA, aF, bne, *]))
 rw [if_neg (by omega)] at hdef
 have d3 : ¬ (b.length : Int) < n := by omega
 have j1 : (n : Int) ≤ b.length := by omega
 have hBl : (b.take n).length = n := by rw [List.length_take]; omega
 obtain ⟨B, hB⟩ : ∃ B, b.take n = B := ⟨_, rfl⟩
 have t1 : (byL b).take n = byL B := by rw [byL_take, hB]
 rw [hB] at hdef hBl
 have hs := aset_c B (by omega) (by omega)
 have hp := aplain_c k B (by omega)
 unfold byS at *
 rw [hBl] at hs hp
 clear hB hr c2
 by_cases k5 : k = 25
 · subst k5
   rw [if_pos rfl] at hdef
   clear hp
   obtain ⟨R, hR⟩ : ∃ R, aSetD B = R := ⟨_, rfl⟩
   rw [hR] at hs hdef
   obtain ⟨ra, rn, rf⟩ := R
   clear hR
   refine FnP.intro Tryz.func193 rfl rfl fun G w => ?_
   cases rf <;>
   · repeat' (first | apply WK.seq | apply WK.skip | refine WK.cT rfl ?_ | refine WK.cF rfl ?_ | (refine hQ.h _ _ ?_; clear hQ hA) | (refine WK.rH Tryz.ntmps193 (by kernel_rfl) ?_; intro A hA Q hQ; simp [aRes, Action.enc, Oxm.enc, oxm0, wideZ, uZ_, aF, bne, *]) | (refine RunQ.gd rfl (by rw [hA.h]; rfl) ?_; simp [aRes, Action.enc, Oxm.enc, oxm0, wideZ, uZ_, aF, bne, *]) | (refine RunQ.k rfl rfl rfl rfl rfl ?_ (g1) ?_ ?_ <;> simp (maxDischargeDepth := 120) [aRes, Action.enc, Oxm.enc, oxm0, wideZ, uZ_, aF, bne, *] <;> refine ⟨?_⟩) | (refine RunQ.k rfl rfl rfl rfl rfl ?_ (g2) ?_ ?_ <;> simp (maxDischargeDepth := 120) [aRes, Action.enc, Oxm.enc, oxm0, wideZ, uZ_, aF, bne, *] <;> refine ⟨?_⟩) | (refine RunQ.k rfl rfl rfl rfl rfl ?_ (hs) ?_ ?_ <;> simp (maxDischargeDepth := 120) [aRes, Action.enc, Oxm.enc, oxm0, wideZ, uZ_, aF, bne, *] <;> refine ⟨?_⟩) | (refine WK.ret Tryz.func193 ?_ ?_ <;> simp (maxDischargeDepth := 120) [Tryz.results193, aRes, Action.enc, Oxm.enc, oxm0, wideZ, uZ_, aF, bne, *]))
 have d5 : ((k : Int) == 25) = false := by rw [beq_eq_false_iff_ne]; omega
 have d5' : ¬ (k : Int) = 25 := by omega
 rw [if_neg k5] at hdef
 clear hs k5
 have hL := alength_c (k : Int)
 obtain ⟨L, hLe⟩ : ∃ L, aLength (k : Int) = L := ⟨_, rfl⟩
 rw [hLe] at hL hdef
 have hLb : L.2 ≤ L.1 ∧ (L.1 = 0 → L.2 = 0) := by rw [← hLe]; unfold aLength; (repeat' split) <;> simp
 obtain ⟨want, used⟩ := L
 simp only at hL hdef hLb
 clear hLe
 have z9 : ((n : Int) == (want : Int)) = (n == want) := by rw [Bool.eq_iff_iff, beq_iff_eq, beq_iff_eq]; omega
 have z8 : ((want : Int) == 0) = (want == 0) := by rw [Bool.eq_iff_iff, beq_iff_eq, beq_iff_eq]; omega
 by_cases k0 : want = 0
 · have e : aDec b = aBad 0 := by rw [hdef, if_pos k0]
   have d0 : (want == 0) = true := by simpa using k0
   rw [d0] at z8
   clear hdef hp z9 k0
   refine FnP.intro Tryz.func193 rfl rfl fun G w => ?_
   repeat' (first | apply WK.seq | apply WK.block | apply WK.skip | refine WK.cT rfl ?_ | refine WK.cF rfl ?_ | (refine hQ.h _ _ ?_; clear hQ hA) | (refine WK.rH Tryz.ntmps193 (by kernel_rfl) ?_; intro A hA Q hQ; simp [zA, aF, bne, *]) | (refine RunQ.gd rfl (by rw [hA.h]; rfl) ?_; simp [zA, aF, bne, *]) | (refine RunQ.k rfl rfl rfl rfl rfl ?_ (g1) ?_ ?_ <;> simp (maxDischargeDepth := 120) [zA, aF, bne, *] <;> refine ⟨?_⟩) | (refine RunQ.k rfl rfl rfl rfl rfl ?_ (g2) ?_ ?_ <;> simp (maxDischargeDepth := 120) [zA, aF, bne, *] <;> refine ⟨?_⟩) | (refine RunQ.k rfl rfl rfl rfl rfl ?_ (hL) ?_ ?_ <;> simp (maxDischargeDepth := 120) [zA, aF, bne, *] <;> refine ⟨?_⟩) | (refine RunQ.k rfl rfl rfl rfl rfl ?_ (b0) ?_ ?_ <;> simp (maxDischargeDepth := 120) [zA, aF, bne, *] <;> refine ⟨?_⟩) | (refine WK.ret Tryz.func193 ?_ ?_ <;> simp (maxDischargeDepth := 120) [Tryz.results193, zA, aF, bne, *]))
 rw [if_neg k0] at hdef
 have d0 : (want == 0) = false := by simpa using k0
 rw [d0] at z8
 by_cases k1 : n = want
 case neg =>
   have e : aDec b = aBad 1 := by rw [hdef, if_pos k1]
   have d9 : (n == want) = false := by simpa using k1
   rw [d9] at z9
   clear hdef hp k1
   refine FnP.intro Tryz.func193 rfl rfl fun G w => ?_
   repeat' (first | apply WK.seq | apply WK.block | apply WK.skip | refine WK.cT rfl ?_ | refine WK.cF rfl ?_ | (refine hQ.h _ _ ?_; clear hQ hA) | (refine WK.rH Tryz.ntmps193 (by kernel_rfl) ?_; intro A hA Q hQ; simp [zA, aF, bne, *]) | (refine RunQ.gd rfl (by rw [hA.h]; rfl) ?_; simp [zA, aF, bne, *]) | (refine RunQ.k rfl rfl rfl rfl rfl ?_ (g1) ?_ ?_ <;> simp (maxDischargeDepth := 120) [zA, aF, bne, *] <;> refine ⟨?_⟩) | (refine RunQ.k rfl rfl rfl rfl rfl ?_ (g2) ?_ ?_ <;> simp (maxDischargeDepth := 120) [zA, aF, bne, *] <;> refine ⟨?_⟩) | (refine RunQ.k rfl rfl rfl rfl rfl ?_ (hL) ?_ ?_ <;> simp (maxDischargeDepth := 120) [zA, aF, bne, *] <;> refine ⟨?_⟩) | (refine RunQ.k rfl rfl rfl rfl rfl ?_ (b1) ?_ ?_ <;> simp (maxDischargeDepth := 120) [zA, aF, bne, *] <;> refine ⟨?_⟩) | (refine WK.ret Tryz.func193 ?_ ?_ <;> simp (maxDischargeDepth := 120) [Tryz.results193, zA, aF, bne, *]))
 rw [if_neg (by simpa using k1)] at hdef
 have d9 : (n == want) = true := by simpa using k1
 rw [d9] at z9
 have u1 : used ≤ n := by omega
 have u2 : (used : Int) ≤ n := by omega
 have hE := aempty_c (B.drop used) (by rw [List.length_drop]; omega)
 have hdr : ((byL B).drop used).take (n - used) = byL (B.drop used) := by rw [byL_drop]; exact by_full _ _ (by rw [List.length_drop, hBl])
 unfold byS at hE
 rw [List.length_drop, hBl] at hE
 obtain ⟨E5, hE5⟩ : ∃ E5, B.drop used = E5 := ⟨_, rfl⟩
 rw [hE5] at hE hdr hdef
 clear hE5 k1 k0 hLb
 refine FnP.intro Tryz.func193 rfl rfl fun G w => ?_
 cases kz : allZ E5
 · rw [kz, if_neg Bool.false_ne_true] at hdef
   clear hp
   repeat' (first | apply WK.seq | apply WK.block | apply WK.skip | refine WK.cT rfl ?_ | refine WK.cF rfl ?_ | (refine hQ.h _ _ ?_; clear hQ hA) | (refine WK.rH Tryz.ntmps193 (by kernel_rfl) ?_; intro A hA Q hQ; simp [zA, aF, bne, *]) | (refine RunQ.gd rfl (by rw [hA.h]; rfl) ?_; simp [zA, aF, bne, *]) | (refine RunQ.k rfl rfl rfl rfl rfl ?_ (g1) ?_ ?_ <;> simp (maxDischargeDepth := 120) [zA, aF, bne, *] <;> refine ⟨?_⟩) | (refine RunQ.k rfl rfl rfl rfl rfl ?_ (g2) ?_ ?_ <;> simp (maxDischargeDepth := 120) [zA, aF, bne, *] <;> refine ⟨?_⟩) | (refine RunQ.k rfl rfl rfl rfl rfl ?_ (hL) ?_ ?_ <;> simp (maxDischargeDepth := 120) [zA, aF, bne, *] <;> refine ⟨?_⟩) | (refine RunQ.k rfl rfl rfl rfl rfl ?_ (hE) ?_ ?_ <;> simp (maxDischargeDepth := 120) [zA, aF, bne, *] <;> refine ⟨?_⟩) | (refine RunQ.k rfl rfl rfl rfl rfl ?_ (b5) ?_ ?_ <;> simp (maxDischargeDepth := 120) [zA, aF, bne, *] <;> refine ⟨?_⟩) | (refine WK.ret Tryz.func193 ?_ ?_ <;> simp (maxDischargeDepth := 120) [Tryz.results193, zA, aF, bne, *]))
 · rw [kz, if_pos rfl] at hdef
   obtain ⟨R, hR⟩ : ∃ R, aPlain k B = R := ⟨_, rfl⟩
   rw [hR] at hp hdef
   obtain ⟨ra, rn, rf⟩ := R
   clear hR
   cases rf <;>
   · repeat' (first | apply WK.seq | apply WK.block | apply WK.inBlock | apply WK.skip | refine WK.cF rfl ?_ | (refine hQ.h _ _ ?_; clear hQ hA) | (refine WK.rH Tryz.ntmps193 (by kernel_rfl) ?_; intro A hA Q hQ; simp [aRes, Action.enc, Oxm.enc, oxm0, wideZ, uZ_, aF, bne, *]) | (refine RunQ.gd rfl (by rw [hA.h]; rfl) ?_; simp [aRes, Action.enc, Oxm.enc, oxm0, wideZ, uZ_, aF, bne, *]) | (refine RunQ.k rfl rfl rfl rfl rfl ?_ (g1) ?_ ?_ <;> simp (maxDischargeDepth := 120) [aRes, Action.enc, Oxm.enc, oxm0, wideZ, uZ_, aF, bne, *] <;> refine ⟨?_⟩) | (refine RunQ.k rfl rfl rfl rfl rfl ?_ (g2) ?_ ?_ <;> simp (maxDischargeDepth := 120) [aRes, Action.enc, Oxm.enc, oxm0, wideZ, uZ_, aF, bne, *] <;> refine ⟨?_⟩) | (refine RunQ.k rfl rfl rfl rfl rfl ?_ (hL) ?_ ?_ <;> simp (maxDischargeDepth := 120) [aRes, Action.enc, Oxm.enc, oxm0, wideZ, uZ_, aF, bne, *] <;> refine ⟨?_⟩) | (refine RunQ.k rfl rfl rfl rfl rfl ?_ (hE) ?_ ?_ <;> simp (maxDischargeDepth := 120) [aRes, Action.enc, Oxm.enc, oxm0, wideZ, uZ_, aF, bne, *] <;> refine ⟨?_⟩) | (refine RunQ.k rfl rfl rfl rfl rfl ?_ (hp) ?_ ?_ <;> simp (maxDischargeDepth := 120) [aRes, Action.enc, Oxm.enc, oxm0, wideZ, uZ_, aF, bne, *] <;> refine ⟨?_⟩) | (refine WK.ret Tryz.func193 ?_ ?_ <;> simp (maxDischargeDepth := 120) [Tryz.results193, aRes, Action.enc, Oxm.enc, oxm0, wideZ, uZ_, aF, bne, *]))

theorem aencP_c (a : Action) : FnP Tryz.prog 243 [.agg a.enc] (.tup [byS (aEnc a).1, .int .i64 (aEnc a).2]) := by
 have h := (aenc_c a).toP (by simp [byL_take]) (by rfl)
 rwa [Nat.mul_one, by_full _ _ rfl] at h
theorem raencP_c (a : Action) : FnP Tryz.prog 123 [.agg a.enc] (.tup [byS (aEnc a).1, .int .i64 (aEnc a).2]) := by
 have h := (raenc_c a).toP (by simp [byL_take]) (by rfl)
 rwa [Nat.mul_one, by_full _ _ rfl] at h
theorem aEnc_len (a : Action) : (aEnc a).1.length ≤ 60 := by
 unfold aEnc
 split
 · have h1 := aPad_len a
   have h2 := aLen_le _ (aBody_len a)
   have l1 := putN_len [] a.kind 2
   have l2 := putN_len (putN [] a.kind 2) (aLen (aBody a).length : Nat) 2
   simp only [List.length_append, List.length_nil] at l1 ⊢
   omega
 · simp
end Go.Proofs.YtcccfbjkcahgfaaGreat

namespace Go.Proofs.YtcccfbjkcahgfaaGreat
open Go Go.AI Go.Proofs
theorem beN_snoc (n : Int) (x : BitVec 8) (s : Nat) : beN (n * 256 + x.toNat) (s + 1) = beN n s ++ [x] := by
 have hx := x.isLt
 unfold beN
 rw [List.range_succ, List.map_append]
 congr 1
 · refine List.map_congr_left fun i hi => ?_
   rw [List.mem_range] at hi
   congr 1
   have e : (2 : Int) ^ (8 * (s + 1 - 1 - i)) = 256 * 2 ^ (8 * (s - 1 - i)) := by
     rw [show 8 * (s + 1 - 1 - i) = 8 + 8 * (s - 1 - i) by omega, Int.pow_add]; rfl
   rw [e, ← Int.ediv_ediv_of_nonneg (by decide)]
   congr 1; omega
 · simp only [List.map_cons, List.map_nil, Nat.add_sub_cancel, Nat.sub_self, Nat.mul_zero, Int.pow_zero, Int.ediv_one]
   congr 1
   apply BitVec.eq_of_toNat_eq
   rw [BitVec.toNat_ofInt]; omega
theorem beN_valN : ∀ (s : Nat) (l : List (BitVec 8)), l.length = s → beN (valN l) s = l
 | 0, l, h => by rw [List.eq_nil_of_length_eq_zero h]; rfl
 | s + 1, l, h => by
   have hne : l ≠ [] := by intro e; subst e; simp at h
   have h1 : valN l = valN l.dropLast * 256 + (l.getLast hne).toNat := by
     rw [← valN_snoc, List.dropLast_concat_getLast hne]
   rw [h1]
   have := beN_snoc (valN l.dropLast) (l.getLast hne) s
   rw [show ((valN l.dropLast * 256 + (l.getLast hne).toNat : Nat) : Int) = (valN l.dropLast : Int) * 256 + ((l.getLast hne).toNat : Int) by omega, this,
     beN_valN s l.dropLast (by rw [List.length_dropLast]; omega), List.dropLast_concat_getLast hne]
theorem valN_beN : ∀ (s : Nat) (n : Int), 0 ≤ n → n < 256 ^ s → (valN (beN n s) : Int) = n
 | 0, n, h0, h => by
   rw [Int.pow_zero] at h
   have : n = 0 := by omega
   subst this; rfl
 | s + 1, n, h0, h => by
   obtain ⟨x, hx⟩ : ∃ x : BitVec 8, (x.toNat : Int) = n % 256 := ⟨BitVec.ofInt 8 n, by rw [BitVec.toNat_ofInt]; omega⟩
   have hn : n = n / 256 * 256 + x.toNat := by omega
   rw [Int.pow_succ] at h
   have h2 : n / 256 < 256 ^ s := by
     apply Int.ediv_lt_of_lt_mul (by decide); exact h
   have := valN_beN s (n / 256) (by omega) h2
   rw [hn, beN_snoc, valN_snoc]; omega
theorem numOk_iff (n : Int) (s : Nat) : numOk n s = true ↔ 0 ≤ n ∧ n < 256 ^ s := by unfold numOk; simp
theorem numOk_valN {l : List (BitVec 8)} {s : Nat} (h : l.length = s) : numOk (valN l) s = true := by
 rw [numOk_iff]
 have := valN_lt s l h
 refine ⟨by omega, ?_⟩
 have h2 : ((256 ^ s : Nat) : Int) = (256 : Int) ^ s := by rw [Int.natCast_pow]; rfl
 omega
theorem putN_valN {b l : List (BitVec 8)} {s : Nat} (h : l.length = s) : putN b (valN l) s = b ++ l := by
 unfold putN; rw [numOk_valN h, if_pos rfl, beN_valN s l h]
theorem beN_at {n : Int} {s i : Nat} (h : i < (beN n s).length) : (beN n s)[i] = BitVec.ofInt 8 (n / 2 ^ (8 * (s - 1 - i))) := by simp [beN]
theorem beN_drop (n : Int) (s t : Nat) (h : s ≤ t) : (beN n t).drop (t - s) = beN n s := by
 refine List.ext_getElem (by simp [beN_len]; omega) fun i h1 h2 => ?_
 rw [beN_len] at h2
 rw [List.getElem_drop, beN_at, beN_at, show t - 1 - (t - s + i) = s - 1 - i by omega]
def wN (a : Wide) : Nat := a.hi.toNat * 18446744073709551616 + a.lo.toNat
theorem wN_inj {a b : Wide} (h : wN a = wN b) : a = b := by
 obtain ⟨ah, al⟩ := a
 obtain ⟨bh, bl⟩ := b
 have h1 := ah.isLt; have h2 := al.isLt; have h3 := bh.isLt; have h4 := bl.isLt
 unfold wN at h
 simp only at h
 have e1 : ah = bh := BitVec.eq_of_toNat_eq (by omega)
 have e2 : al = bl := BitVec.eq_of_toNat_eq (by omega)
 rw [e1, e2]
theorem hb_toNat (x : BitVec 64) (k : Nat) : (hb x k).toNat = x.toNat / 2 ^ k % 256 := by
 unfold hb; rw [BitVec.toNat_setWidth, BitVec.toNat_ushiftRight, Nat.shiftRight_eq_div_pow]
theorem wBytes_beN (a : Wide) : wBytes a = beN (wN a) 16 := by
 have h1 := a.hi.isLt; have h2 := a.lo.isLt
 unfold wBytes beN
 refine List.map_congr_left fun j hj => ?_
 rw [List.mem_range] at hj
 apply BitVec.eq_of_toNat_eq
 rw [BitVec.toNat_ofInt]
 have h16 : j = 0 ∨ j = 1 ∨ j = 2 ∨ j = 3 ∨ j = 4 ∨ j = 5 ∨ j = 6 ∨ j = 7 ∨ j = 8 ∨ j = 9 ∨ j = 10 ∨ j = 11 ∨ j = 12 ∨ j = 13 ∨ j = 14 ∨ j = 15 := by omega
 unfold wN
 rcases h16 with rfl | rfl | rfl | rfl | rfl | rfl | rfl | rfl | rfl | rfl | rfl | rfl | rfl | rfl | rfl | rfl <;>
 · simp only [Nat.reduceLT, if_true, if_false, Nat.reduceMul, Nat.reduceSub, hb_toNat, Nat.reducePow, Int.reducePow]
   omega
theorem wStep_wN {a : Wide} (x : BitVec 8) (h : wN a < 1329227995784915872903807060280344576) : wN (wStep a x) = wN a * 256 + x.toNat := by
 obtain ⟨ah, al⟩ := a
 have h1 := ah.isLt; have h2 := al.isLt; have h3 := x.isLt
 unfold wN at h
 simp only at h
 unfold wStep wN
 simp only [BitVec.toNat_or, BitVec.toNat_shiftLeft, BitVec.toNat_ushiftRight, BitVec.toNat_setWidth]
 have e1 : x.toNat % 2 ^ 64 = x.toNat := by omega
 have e2 : ah.toNat <<< 8 % 2 ^ 64 = (ah.toNat) <<< 8 := by rw [Nat.shiftLeft_eq]; omega
 have e3 : al.toNat <<< 8 % 2 ^ 64 = (al.toNat % 72057594037927936) <<< 8 := by rw [Nat.shiftLeft_eq, Nat.shiftLeft_eq]; omega
 rw [e1, e2, e3, ← Nat.shiftLeft_add_eq_or_of_lt (i := 8) (b := al.toNat >>> 56) (by rw [Nat.shiftRight_eq_div_pow]; omega), ← Nat.shiftLeft_add_eq_or_of_lt (i := 8) (b := x.toNat) h3,
   Nat.shiftLeft_eq, Nat.shiftLeft_eq, Nat.shiftRight_eq_div_pow]
 omega
set_option maxRecDepth 100000 in
theorem wVal_wN : ∀ (s : Nat) (l : List (BitVec 8)), l.length = s → s ≤ 16 → wN (wVal l) = valN l
 | 0, l, h, _ => by rw [List.eq_nil_of_length_eq_zero h]; rfl
 | s + 1, l, h, hs => by
   have hne : l ≠ [] := by intro e; subst e; simp at h
   have hd : l.dropLast.length = s := by rw [List.length_dropLast]; omega
   have ih := wVal_wN s l.dropLast hd (by omega)
   have hlt := valN_lt s l.dropLast hd
   have h15 : 256 ^ s ≤ 1329227995784915872903807060280344576 := by
     have e15 : 256 ^ 15 = 1329227995784915872903807060280344576 := by rfl
     rw [← e15]; exact Nat.pow_le_pow_right (by decide) (by omega)
   have hlt2 : wN (wVal l.dropLast) < 1329227995784915872903807060280344576 := by rw [ih]; exact Nat.lt_of_lt_of_le hlt h15
   rw [← List.dropLast_concat_getLast hne, wVal_snoc, valN_snoc, wStep_wN _ hlt2, ih]
theorem wPut_beN (b : List (BitVec 8)) (a : Wide) (s : Nat) (h : s ≤ 16) : wPut b a s = b ++ beN (wN a) s := by
 unfold wPut; rw [wBytes_beN, beN_drop _ s 16 h]
theorem wGet_beN (a : Wide) (s : Nat) (r : List (BitVec 8)) (h : s ≤ 16) (ha : (wN a : Int) < 256 ^ s) : wGet (beN (wN a) s ++ r) s = (a, true) := by
 unfold wGet
 rw [if_pos (by rw [List.length_append, beN_len]; omega), List.take_append_of_le_length (by rw [beN_len]; omega), List.take_of_length_le (by rw [beN_len]; omega)]
 congr 1
 apply wN_inj
 rw [wVal_wN s _ (beN_len _ _) h]
 have := valN_beN s (wN a) (by omega) ha
 omega
theorem wPut_wGet (b p : List (BitVec 8)) (s : Nat) (h : s ≤ 16) (hb : s ≤ b.length) : wPut p (wGet b s).1 s = p ++ b.take s := by
 have hl : (b.take s).length = s := by rw [List.length_take]; omega
 rw [wPut_beN _ _ _ h]
 unfold wGet
 rw [if_pos hb]
 simp only
 rw [wVal_wN s _ hl h, beN_valN s _ hl]
theorem and_le {n : Nat} {x m : BitVec n} (h : x &&& ~~~m = 0#n) : x.toNat ≤ m.toNat := by
 rw [b_less] at h
 have e : x &&& m = x := by
   apply BitVec.eq_of_getLsbD_eq; intro i hi
   rw [BitVec.getLsbD_and]
   cases hx : x.getLsbD i
   · rfl
   · rw [h i hx]; rfl
 rw [← e, BitVec.toNat_and]; exact Nat.and_le_right
theorem lowW_wN_all : ((List.range 129).all fun n => decide (wN (lowW (n : Int)) + 1 = 2 ^ n)) = true := by kernel_rfl
theorem low_lt {w : Wide} {n : Nat} (hn : n ≤ 128) (h : (w.less (lowW (n : Int))).zero = true) : wN w < 2 ^ n := by
 have h1 := List.all_eq_true.1 lowW_wN_all n (by simp; omega)
 rw [decide_eq_true_eq] at h1
 rw [Wide.zero_iff] at h
 have a1 := and_le h.1
 have a2 := and_le h.2
 unfold wN at h1 ⊢
 have : w.hi.toNat * 18446744073709551616 ≤ (lowW (n : Int)).hi.toNat * 18446744073709551616 := Nat.mul_le_mul_right _ a1
 omega
theorem bits_size (f : Int) : 2 ^ (fBits f).toNat ≤ 256 ^ (fSize f) := by
 rw [show (256 : Nat) = 2 ^ 8 from rfl, ← Nat.pow_mul]
 refine Nat.pow_le_pow_right (by decide) ?_
 unfold fSize; omega
theorem within_size {o : Oxm} {w : Wide} (h : Oxm.beyond o w = false) : (wN w : Int) < 256 ^ (fSize o.field) := by
 unfold Oxm.beyond at h
 rw [Bool.not_eq_false'] at h
 have hr := (fRow_ok o.field).2
 have hb : fBits o.field = ((fBits o.field).toNat : Int) := by unfold fBits; omega
 rw [hb] at h
 have h1 := low_lt (by unfold fBits; omega) h
 have h2 := bits_size o.field
 have h3 : ((256 ^ fSize o.field : Nat) : Int) = (256 : Int) ^ fSize o.field := by rw [Int.natCast_pow]; rfl
 omega
end Go.Proofs.YtcccfbjkcahgfaaGreat
