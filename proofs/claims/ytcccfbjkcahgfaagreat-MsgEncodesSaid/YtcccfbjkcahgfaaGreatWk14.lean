/- Messages: the laws of layer 20 but for the one of streams. -/
import Derived.Test.YtcccfbjkcahgfaaGreatAf
import Derived.Test.YtcccfbjkcahgfaaGreatWk13
set_option linter.all false
set_option linter.unnecessarySimpa false
namespace Go.Proofs.YtcccfbjkcahgfaaGreat
open Go Go.AI Go.Proofs
attribute [local irreducible] FnP FnO FnB FnT FnSeq WK RunQ RunQW RunX RunXW
def msgPlain (m : Msg) : Bool := decide (m.data.length ≤ 2000) && (FlowMod.plain m.flow && bucketsPlain m.group.buckets 8)
theorem pMsg_c (m : Msg) : FnP Tryz.prog 7 [.agg m.enc] (.bool (msgPlain m)) := by
 have p1 := pMod_c m.flow
 have p2 := pbuckets_c m.group.buckets 8 (by omega)
 have e : msgPlain m = (decide (m.data.length ≤ 2000) && (FlowMod.plain m.flow && bucketsPlain m.group.buckets 8)) := rfl
 obtain ⟨S, hS⟩ : ∃ S, msgPlain m = S := ⟨_, rfl⟩
 rw [hS] at e ⊢
 obtain ⟨z1, hz1⟩ : ∃ z, FlowMod.plain m.flow = z := ⟨_, rfl⟩
 obtain ⟨z2, hz2⟩ : ∃ z, bucketsPlain m.group.buckets 8 = z := ⟨_, rfl⟩
 rw [hz1] at p1 e
 rw [hz2] at p2 e
 clear hS hz1 hz2
 unfold Msg.enc Flt.enc
 unfold FlowMod.enc at *
 unfold GroupMod.enc
 unfold bukS at p2
 by_cases h : m.data.length ≤ 2000
 · have h' : (m.data.length : Int) ≤ 2000 := by omega
   refine FnP.intro Tryz.func7 rfl rfl fun G w => ?_
   repeat' (first | apply WK.seq | (refine hQ.h _ _ ?_; clear hQ hA) | (refine Fork.mk (fun h => ?_) (fun h => ?_) <;> (first | (simp [*] at h; done) | (have h2 := h; simp at h2; exfalso; omega) | (have h2 := h; simp at h2; try simp only [Bool.not_eq_true', Bool.not_eq_false'] at h) | skip)) | (refine WK.rH Tryz.ntmps7 (by kernel_rfl) ?_; intro A hA Q hQ; simp [*]) | (refine RunQ.gd rfl (by rw [hA.h]; rfl) ?_; simp [*]) | (refine RunQW.k rfl rfl rfl rfl ?_ (p1) ?_ ?_ <;> simp (maxDischargeDepth := 120) [*] <;> refine ⟨?_⟩) | (refine RunQW.k rfl rfl rfl rfl ?_ (p2) ?_ ?_ <;> simp (maxDischargeDepth := 120) [*] <;> refine ⟨?_⟩) | (refine WK.ret Tryz.func7 ?_ ?_ <;> simp (maxDischargeDepth := 120) [Tryz.results7, *]))
 · have h' : ¬ (m.data.length : Int) ≤ 2000 := by omega
   refine FnP.intro Tryz.func7 rfl rfl fun G w => ?_
   repeat' (first | apply WK.seq | (refine hQ.h _ _ ?_; clear hQ hA) | (refine WK.rH Tryz.ntmps7 (by kernel_rfl) ?_; intro A hA Q hQ; simp [*]) | (refine RunQ.gd rfl (by rw [hA.h]; rfl) ?_; simp [*]) | (refine WK.ret Tryz.func7 ?_ ?_ <;> simp (maxDischargeDepth := 120) [Tryz.results7, *]))
theorem msgPlain_B {m : Msg} (h : msgPlain m = true) : MsB m := by
 unfold msgPlain at h
 rw [Bool.and_eq_true, Bool.and_eq_true, decide_eq_true_eq] at h
 obtain ⟨h1, h2, h3⟩ := h
 obtain ⟨hl, ha0⟩ := bucketsPlain_facts h3
 exact ⟨fmB_plain h2, ⟨by omega, fun x hx => by have := ha0 x hx; omega⟩, by omega⟩
def L20 : Msg := ⟨15, 8, flowMod0, ⟨0, 0, 5, []⟩, flt0, []⟩
def B20a : List (BitVec 8) := [4#8, 0#8, 0#8, 8#8, 0#8, 0#8, 0#8, 7#8]
def B20b : List (BitVec 8) := [4#8, 99#8, 0#8, 8#8, 0#8, 0#8, 0#8, 7#8]
def M20 : Msg := ⟨0, 7, flowMod0, gm0, flt0, []⟩
theorem fL20a : (mgEnc L20).1.length = 16 := by kernel_rfl
theorem fL20b : (mgEnc L20).2 = 0 := by kernel_rfl
theorem fL20c : mgDec (mgEnc L20).1 = (L20, none) := by kernel_rfl
theorem fL20d : mgRight L20 = true := by kernel_rfl
theorem fL20e : mgDec B20a = (M20, none) := by kernel_rfl
theorem fL20f : mgDec B20b = (msg0, some (1, 1)) := by kernel_rfl
set_option maxHeartbeats 8000000 in
theorem awake20_c : FnP Tryz.prog 8 [] (.bool true) := by
 have hB : MsB L20 := ⟨flowMod0_B, ⟨by simp [L20], by simp [L20]⟩, by simp [L20]⟩
 have p := mgencP_c L20 hB
 have d := mgdec_c (mgEnc L20).1 (by rw [fL20a]; omega)
 have d1 := mgdec_c B20a (by decide)
 have d2 := mgdec_c B20b (by decide)
 have s := mgsame_c L20 L20 hB
 have r := mgright_c L20 hB
 rw [fL20c] at d
 rw [fL20b] at p
 rw [fL20d] at r
 rw [fL20e] at d1
 rw [fL20f] at d2
 rw [mgSame_self] at s
 have hl := fL20a
 obtain ⟨B, hBB⟩ : ∃ B, (mgEnc L20).1 = B := ⟨_, rfl⟩
 rw [hBB] at p d hl
 clear hBB hB
 have e0 : L20.enc = [.int .i64 15, .int .i64 8, .int .u64 0, .int .u64 0, .int .i64 0, .int .i64 0, .int .i64 0, .int .i64 0, .int .i64 0, .int .i64 0, .int .i64 0, .int .i64 0, .int .i64 0, .sl false 0 [], .sl false 0 [], .int .i64 0, .int .i64 0, .int .i64 5, .sl false 0 [], .bool false, .int .i64 0, .int .i64 0, .sl false 0 []] := rfl
 have e1 : M20.enc = [.int .i64 0, .int .i64 7, .int .u64 0, .int .u64 0, .int .i64 0, .int .i64 0, .int .i64 0, .int .i64 0, .int .i64 0, .int .i64 0, .int .i64 0, .int .i64 0, .int .i64 0, .sl false 0 [], .sl false 0 [], .int .i64 0, .int .i64 0, .int .i64 0, .sl false 0 [], .bool false, .int .i64 0, .int .i64 0, .sl false 0 []] := rfl
 have ea : byS B20a = .sl false 8 [.int .u8 4, .int .u8 0, .int .u8 0, .int .u8 8, .int .u8 0, .int .u8 0, .int .u8 0, .int .u8 7] := rfl
 have eb : byS B20b = .sl false 8 [.int .u8 4, .int .u8 99, .int .u8 0, .int .u8 8, .int .u8 0, .int .u8 0, .int .u8 0, .int .u8 7] := rfl
 rw [ea, e1] at d1
 rw [eb, msg0_enc] at d2
 unfold byS at p d
 rw [hl] at p d
 simp only [e0, gF, msg0E] at p d d1 d2 s r
 refine FnP.intro Tryz.func8 rfl rfl fun G w => ?_
 repeat' (first | apply WK.seq | (refine hQ.h _ _ ?_; clear hQ hA) | (refine WK.rH Tryz.ntmps8 (by kernel_rfl) ?_; intro A hA Q hQ; simp [*]) | (refine RunQ.gd rfl (by rw [hA.h]; rfl) ?_; simp [*]) | (refine RunQ.k rfl rfl rfl rfl rfl ?_ (p) ?_ ?_ <;> simp (maxDischargeDepth := 120) [*] <;> refine ⟨?_⟩) | (refine RunQ.k rfl rfl rfl rfl rfl ?_ (d) ?_ ?_ <;> simp (maxDischargeDepth := 120) [*] <;> refine ⟨?_⟩) | (refine RunQ.k rfl rfl rfl rfl rfl ?_ (d1) ?_ ?_ <;> simp (maxDischargeDepth := 120) [*] <;> refine ⟨?_⟩) | (refine RunQ.k rfl rfl rfl rfl rfl ?_ (d2) ?_ ?_ <;> simp (maxDischargeDepth := 120) [*] <;> refine ⟨?_⟩) | (refine RunQW.k rfl rfl rfl rfl ?_ (s) ?_ ?_ <;> simp (maxDischargeDepth := 120) [*] <;> refine ⟨?_⟩) | (refine RunQW.k rfl rfl rfl rfl ?_ (r) ?_ ?_ <;> simp (maxDischargeDepth := 120) [*] <;> refine ⟨?_⟩) | (refine WK.ret Tryz.func8 ?_ ?_ <;> simp (maxDischargeDepth := 120) [Tryz.results8, *]))
set_option maxHeartbeats 8000000 in
theorem msgEncodes_c (m n : Msg) : FnP Tryz.prog 3 [.agg m.enc, .agg n.enc] (.bool true) := by
 have p1 := pMsg_c m
 have p2 := pMsg_c n
 cases h1 : msgPlain m
 · rw [h1] at p1
   unfold Msg.enc Flt.enc FlowMod.enc GroupMod.enc at *
   refine FnP.intro Tryz.func3 rfl rfl fun G w => ?_
   repeat' (first | apply WK.seq | refine WK.cT rfl ?_ | (refine hQ.h _ _ ?_; clear hQ hA) | (refine WK.rH Tryz.ntmps3 (by kernel_rfl) ?_; intro A hA Q hQ; simp [*]) | (refine RunQ.gd rfl (by rw [hA.h]; rfl) ?_; simp [*]) | (refine RunQ.k rfl rfl rfl rfl rfl ?_ (p1) ?_ ?_ <;> simp (maxDischargeDepth := 120) [*] <;> refine ⟨?_⟩) | (refine RunQ.k rfl rfl rfl rfl rfl ?_ (awake20_c) ?_ ?_ <;> simp (maxDischargeDepth := 120) [*] <;> refine ⟨?_⟩) | (refine WK.ret Tryz.func3 ?_ ?_ <;> simp (maxDischargeDepth := 120) [Tryz.results3, *]))
 cases h2 : msgPlain n
 · rw [h1] at p1
   rw [h2] at p2
   unfold Msg.enc Flt.enc FlowMod.enc GroupMod.enc at *
   refine FnP.intro Tryz.func3 rfl rfl fun G w => ?_
   repeat' (first | apply WK.seq | refine WK.cT rfl ?_ | (refine hQ.h _ _ ?_; clear hQ hA) | (refine WK.rH Tryz.ntmps3 (by kernel_rfl) ?_; intro A hA Q hQ; simp [*]) | (refine RunQ.gd rfl (by rw [hA.h]; rfl) ?_; simp [*]) | (refine RunQ.k rfl rfl rfl rfl rfl ?_ (p1) ?_ ?_ <;> simp (maxDischargeDepth := 120) [*] <;> refine ⟨?_⟩) | (refine RunQ.k rfl rfl rfl rfl rfl ?_ (p2) ?_ ?_ <;> simp (maxDischargeDepth := 120) [*] <;> refine ⟨?_⟩) | (refine RunQ.k rfl rfl rfl rfl rfl ?_ (awake20_c) ?_ ?_ <;> simp (maxDischargeDepth := 120) [*] <;> refine ⟨?_⟩) | (refine RunQW.k rfl rfl rfl rfl ?_ (p1) ?_ ?_ <;> simp (maxDischargeDepth := 120) [*] <;> refine ⟨?_⟩) | (refine RunQW.k rfl rfl rfl rfl ?_ (p2) ?_ ?_ <;> simp (maxDischargeDepth := 120) [*] <;> refine ⟨?_⟩) | (refine WK.ret Tryz.func3 ?_ ?_ <;> simp (maxDischargeDepth := 120) [Tryz.results3, *]))
 have hm := msgPlain_B h1
 have a := mgencP_c m hm
 have b := rmgencP_c m hm
 have r1 := mgright_c m hm
 have r2 := rmgright_c m hm
 have s1 := mgsame_c m n hm
 have s2 := rmgsame_c m n hm
 have q := bytesEq_c (mgEnc m).1 (mgEnc m).1
 rw [beq_self_eq_true] at q
 rw [h1] at p1
 rw [h2] at p2
 obtain ⟨R, hR⟩ : ∃ R, mgEnc m = R := ⟨_, rfl⟩
 rw [hR] at a b q
 obtain ⟨R1, R2⟩ := R
 obtain ⟨S, hS⟩ : ∃ S, Msg.same m n = S := ⟨_, rfl⟩
 rw [hS] at s1 s2
 obtain ⟨T, hT⟩ : ∃ S, mgRight m = S := ⟨_, rfl⟩
 rw [hT] at r1 r2
 simp only [byS] at a b q
 unfold Msg.enc Flt.enc FlowMod.enc GroupMod.enc at *
 clear h1 h2 hm hR hS hT
 refine FnP.intro Tryz.func3 rfl rfl fun G w => ?_
 repeat' (first | apply WK.seq | apply WK.skip | refine WK.cF rfl ?_ | (refine hQ.h _ _ ?_; clear hQ hA) | (refine WK.rH Tryz.ntmps3 (by kernel_rfl) ?_; intro A hA Q hQ; simp [*]) | (refine WK.rX (by kernel_rfl) Tryz.ntmps3 (by kernel_rfl) ?_; intro A hA Q hQ; simp [*]) | (refine hQ.h _ _ _ (by decide +kernel) ?_; clear hQ hA) | (refine RunQ.gd rfl (by rw [hA.h]; rfl) ?_; simp [*]) | (refine RunX.gd rfl (by rw [hA.h]; rfl) ?_; simp [*]) | (refine RunQ.k rfl rfl rfl rfl rfl ?_ (p1) ?_ ?_ <;> simp (maxDischargeDepth := 120) [*] <;> refine ⟨?_⟩) | (refine RunQ.k rfl rfl rfl rfl rfl ?_ (p2) ?_ ?_ <;> simp (maxDischargeDepth := 120) [*] <;> refine ⟨?_⟩) | (refine RunQ.k rfl rfl rfl rfl rfl ?_ (a) ?_ ?_ <;> simp (maxDischargeDepth := 120) [*] <;> refine ⟨?_⟩) | (refine RunQ.k rfl rfl rfl rfl rfl ?_ (b) ?_ ?_ <;> simp (maxDischargeDepth := 120) [*] <;> refine ⟨?_⟩) | (refine RunQW.k rfl rfl rfl rfl ?_ (p1) ?_ ?_ <;> simp (maxDischargeDepth := 120) [*] <;> refine ⟨?_⟩) | (refine RunQW.k rfl rfl rfl rfl ?_ (p2) ?_ ?_ <;> simp (maxDischargeDepth := 120) [*] <;> refine ⟨?_⟩) | (refine RunX.k rfl rfl rfl rfl ?_ (q) ?_ ?_ <;> simp (maxDischargeDepth := 120) [*] <;> refine ⟨?_⟩) | (refine RunXW.call rfl rfl rfl ?_ (r1) ?_ ?_; (focus (simp (maxDischargeDepth := 120) [*]; done)); (focus (simp [*]; done)); refine RunX.e ?_; simp [*]) | (refine RunXW.call rfl rfl rfl ?_ (r2) ?_ ?_; (focus (simp (maxDischargeDepth := 120) [*]; done)); (focus (simp [*]; done)); refine RunX.e ?_; simp [*]) | (refine RunXW.call rfl rfl rfl ?_ (s1) ?_ ?_; (focus (simp (maxDischargeDepth := 120) [*]; done)); (focus (simp [*]; done)); refine RunX.e ?_; simp [*]) | (refine RunXW.call rfl rfl rfl ?_ (s2) ?_ ?_; (focus (simp (maxDischargeDepth := 120) [*]; done)); (focus (simp [*]; done)); refine RunX.e ?_; simp [*]) | (refine RunXW.call rfl rfl rfl ?_ (awake20_c) ?_ ?_; (focus (simp (maxDischargeDepth := 120) [*]; done)); (focus (simp [*]; done)); refine RunX.e ?_; simp [*]) | (refine WK.ret Tryz.func3 ?_ ?_ <;> simp (maxDischargeDepth := 120) [Tryz.results3, *]))
end Go.Proofs.YtcccfbjkcahgfaaGreat
