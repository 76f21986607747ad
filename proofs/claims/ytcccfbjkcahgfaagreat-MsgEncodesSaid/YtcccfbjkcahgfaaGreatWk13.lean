/- Messages: their bytes, and read: the program. -/
import Derived.Test.YtcccfbjkcahgfaaGreatAf
import Derived.Test.YtcccfbjkcahgfaaGreatWk12
import Derived.Test.YtcccfbjkcahgfaaGreatWk11
set_option linter.all false
set_option linter.unnecessarySimpa false
namespace Go.Proofs.YtcccfbjkcahgfaaGreat
open Go Go.AI Go.Proofs
attribute [local irreducible] FnP FnO FnB FnT FnSeq WK RunQ RunQW RunX RunXW
set_option maxHeartbeats 8000000 in
theorem mgenc_c (m : Msg) (hm : MsB m) : FnT Tryz.prog 9 [.agg m.enc] (mgEnc m).1.length 1 (byL (mgEnc m).1) [.int .i64 (mgEnc m).2] := by
 have r := mgright_c m hm
 have o := mof_c m
 cases hr : mgRight m
 · rw [mgEnc_bad hr]
   rw [hr] at r
   clear hr o
   unfold Msg.enc Flt.enc FlowMod.enc GroupMod.enc at *
   refine FnT.intro Tryz.func9 rfl rfl fun G w => ?_
   repeat' (first | apply WK.seq | refine WK.cT rfl ?_ | (refine hQ.h _ _ ?_; clear hQ hA) | (refine WK.rH Tryz.ntmps9 (by kernel_rfl) ?_; intro A hA Q hQ; simp [*]) | (refine RunQ.k rfl rfl rfl rfl rfl ?_ (r) ?_ ?_ <;> simp (maxDischargeDepth := 120) [*] <;> refine ⟨?_⟩))
   refine WK.ghost (Ghost.own 2 900 1 rfl rfl) ?_
   refine WK.retT2 Tryz.func9 ?_ ?_ ?_ <;> simp (maxDischargeDepth := 120) [Tryz.results9, b0_]
 have hok := (mgRight_facts hr).ok
 have hk := mgKind_of hok
 have hbl := mgBody_len hok
 have hd := head_c m.kind m.xid (mgBody m) (by omega)
 have eH : mgEnc m = frHead m.kind m.xid (mgBody m) := by unfold mgEnc; rw [if_pos hr]
 rw [eH]
 rw [hr] at r
 have hG : mgBody m = if mgData m.kind = true then m.data else if m.kind = 1 then putN (putN [] m.fault.kind 2) m.fault.code 2 ++ m.data else if m.kind = 14 then (fmEnc m.flow).1 else (gmEnc m.group).1 := rfl
 have b1 := dbytes_c m.data
 have b2 := wbytes_c m.data m.fault hm.data
 have b3 := flbytes_c m.flow hm.flow
 have b4 := grbytes_c m.group hm.group
 obtain ⟨B, hB⟩ : ∃ B, mgBare m = B := ⟨_, rfl⟩
 rw [hB] at o
 have hc : ClL B.enc = true := by unfold Msg.enc; simp [ClL, Cl, Flt.enc]
 unfold mgI at o
 obtain ⟨R, hR⟩ : ∃ R, frHead m.kind m.xid (mgBody m) = R := ⟨_, rfl⟩
 rw [hR] at hd ⊢
 obtain ⟨R1, R2⟩ := R
 simp only at hd ⊢
 have hfR := by_full R1 R1.length rfl
 clear hR hB hm hr hok hbl eH
 by_cases k0 : mgData m.kind = true
 · rw [if_pos k0] at o hG
   rw [hG] at hd
   unfold byS at *
   clear b2 b3 b4 hk k0 hG
   unfold Msg.enc Flt.enc FlowMod.enc GroupMod.enc at *
   refine FnT.intro Tryz.func9 rfl rfl fun G w => ?_
   repeat' (first | apply WK.seq | apply WK.skip | refine WK.cF rfl ?_ | (refine hQ.h _ _ ?_; clear hQ hA) | (refine WK.rH Tryz.ntmps9 (by kernel_rfl) ?_; intro A hA Q hQ; simp [*]) | (refine WK.rX (by kernel_rfl) Tryz.ntmps9 (by kernel_rfl) ?_; intro A hA Q hQ; simp [*]) | (refine hQ.h _ _ _ (by decide +kernel) ?_; clear hQ hA) | (refine RunX.invoke (mI_b1) (b1) rfl rfl rfl rfl rfl ?_ ?_; (focus (simp [*]; done)); refine RunX.e ?_; simp [*]) | (refine RunX.callT 900 rfl rfl rfl rfl ?_ (hd) ?_ ?_ ?_ ?_ ?_; (focus (simp (maxDischargeDepth := 120) [*]; done)); (focus (simp [*]; done)); (focus (simp [*]; done)); (focus (simp [*]; done)); (focus (simp [*]; done)); refine RunX.e ?_; simp [*]) | (refine RunQ.k rfl rfl rfl rfl rfl ?_ (r) ?_ ?_ <;> simp (maxDischargeDepth := 120) [*] <;> refine ⟨?_⟩) | (refine RunQ.k rfl rfl rfl rfl rfl ?_ (o) ?_ ?_ <;> simp (maxDischargeDepth := 120) [*] <;> refine ⟨?_⟩) | (refine WK.retT2 Tryz.func9 ?_ ?_ ?_ <;> simp (maxDischargeDepth := 120) [Tryz.results9, *]))
 rw [if_neg k0] at o hG
 by_cases k1 : m.kind = 1
 · rw [if_pos k1] at o hG
   rw [← hG] at b2
   unfold byS at *
   clear b1 b3 b4 hk k0 hG k1
   unfold Msg.enc Flt.enc FlowMod.enc GroupMod.enc at *
   refine FnT.intro Tryz.func9 rfl rfl fun G w => ?_
   repeat' (first | apply WK.seq | apply WK.skip | refine WK.cF rfl ?_ | (refine hQ.h _ _ ?_; clear hQ hA) | (refine WK.rH Tryz.ntmps9 (by kernel_rfl) ?_; intro A hA Q hQ; simp [*]) | (refine WK.rX (by kernel_rfl) Tryz.ntmps9 (by kernel_rfl) ?_; intro A hA Q hQ; simp [*]) | (refine hQ.h _ _ _ (by decide +kernel) ?_; clear hQ hA) | (refine RunX.invoke (mI_b2) (b2) rfl rfl rfl rfl rfl ?_ ?_; (focus (simp [*]; done)); refine RunX.e ?_; simp [*]) | (refine RunX.callT 900 rfl rfl rfl rfl ?_ (hd) ?_ ?_ ?_ ?_ ?_; (focus (simp (maxDischargeDepth := 120) [*]; done)); (focus (simp [*]; done)); (focus (simp [*]; done)); (focus (simp [*]; done)); (focus (simp [*]; done)); refine RunX.e ?_; simp [*]) | (refine RunQ.k rfl rfl rfl rfl rfl ?_ (r) ?_ ?_ <;> simp (maxDischargeDepth := 120) [*] <;> refine ⟨?_⟩) | (refine RunQ.k rfl rfl rfl rfl rfl ?_ (o) ?_ ?_ <;> simp (maxDischargeDepth := 120) [*] <;> refine ⟨?_⟩) | (refine WK.retT2 Tryz.func9 ?_ ?_ ?_ <;> simp (maxDischargeDepth := 120) [Tryz.results9, *]))
 rw [if_neg k1] at o hG
 by_cases k2 : m.kind = 14
 · rw [if_pos k2] at o hG
   rw [← hG] at b3
   unfold byS at *
   clear b1 b2 b4 hk k0 hG k1 k2
   unfold Msg.enc Flt.enc FlowMod.enc GroupMod.enc at *
   refine FnT.intro Tryz.func9 rfl rfl fun G w => ?_
   repeat' (first | apply WK.seq | apply WK.skip | refine WK.cF rfl ?_ | (refine hQ.h _ _ ?_; clear hQ hA) | (refine WK.rH Tryz.ntmps9 (by kernel_rfl) ?_; intro A hA Q hQ; simp [*]) | (refine WK.rX (by kernel_rfl) Tryz.ntmps9 (by kernel_rfl) ?_; intro A hA Q hQ; simp [*]) | (refine hQ.h _ _ _ (by decide +kernel) ?_; clear hQ hA) | (refine RunX.invoke (mI_b3) (b3) rfl rfl rfl rfl rfl ?_ ?_; (focus (simp [*]; done)); refine RunX.e ?_; simp [*]) | (refine RunX.callT 900 rfl rfl rfl rfl ?_ (hd) ?_ ?_ ?_ ?_ ?_; (focus (simp (maxDischargeDepth := 120) [*]; done)); (focus (simp [*]; done)); (focus (simp [*]; done)); (focus (simp [*]; done)); (focus (simp [*]; done)); refine RunX.e ?_; simp [*]) | (refine RunQ.k rfl rfl rfl rfl rfl ?_ (r) ?_ ?_ <;> simp (maxDischargeDepth := 120) [*] <;> refine ⟨?_⟩) | (refine RunQ.k rfl rfl rfl rfl rfl ?_ (o) ?_ ?_ <;> simp (maxDischargeDepth := 120) [*] <;> refine ⟨?_⟩) | (refine WK.retT2 Tryz.func9 ?_ ?_ ?_ <;> simp (maxDischargeDepth := 120) [Tryz.results9, *]))
 rw [if_neg k2] at o hG
 have k3 : m.kind = 15 := by
   rcases hk with h | h | h | h
   · exact absurd h k0
   · exact absurd h k1
   · exact absurd h k2
   · exact h
 rw [if_pos k3] at o
 rw [← hG] at b4
 unfold byS at *
 clear b1 b2 b3 hk k0 hG k1 k2 k3
 unfold Msg.enc Flt.enc FlowMod.enc GroupMod.enc at *
 refine FnT.intro Tryz.func9 rfl rfl fun G w => ?_
 repeat' (first | apply WK.seq | apply WK.skip | refine WK.cF rfl ?_ | (refine hQ.h _ _ ?_; clear hQ hA) | (refine WK.rH Tryz.ntmps9 (by kernel_rfl) ?_; intro A hA Q hQ; simp [*]) | (refine WK.rX (by kernel_rfl) Tryz.ntmps9 (by kernel_rfl) ?_; intro A hA Q hQ; simp [*]) | (refine hQ.h _ _ _ (by decide +kernel) ?_; clear hQ hA) | (refine RunX.invoke (mI_b4) (b4) rfl rfl rfl rfl rfl ?_ ?_; (focus (simp [*]; done)); refine RunX.e ?_; simp [*]) | (refine RunX.callT 900 rfl rfl rfl rfl ?_ (hd) ?_ ?_ ?_ ?_ ?_; (focus (simp (maxDischargeDepth := 120) [*]; done)); (focus (simp [*]; done)); (focus (simp [*]; done)); (focus (simp [*]; done)); (focus (simp [*]; done)); refine RunX.e ?_; simp [*]) | (refine RunQ.k rfl rfl rfl rfl rfl ?_ (r) ?_ ?_ <;> simp (maxDischargeDepth := 120) [*] <;> refine ⟨?_⟩) | (refine RunQ.k rfl rfl rfl rfl rfl ?_ (o) ?_ ?_ <;> simp (maxDischargeDepth := 120) [*] <;> refine ⟨?_⟩) | (refine WK.retT2 Tryz.func9 ?_ ?_ ?_ <;> simp (maxDischargeDepth := 120) [Tryz.results9, *]))
theorem mgencP_c (m : Msg) (hm : MsB m) : FnP Tryz.prog 9 [.agg m.enc] (.tup [byS (mgEnc m).1, .int .i64 (mgEnc m).2]) := by
 have h := (mgenc_c m hm).toP (by simp [byL_take]) (by rfl)
 rwa [Nat.mul_one, by_full _ _ rfl] at h
def msg0E : List AV := [.int .i64 0, .int .i64 0, .int .u64 0, .int .u64 0, .int .i64 0, .int .i64 0, .int .i64 0, .int .i64 0, .int .i64 0, .int .i64 0, .int .i64 0, .int .i64 0, .int .i64 0, .sl false 0 [], .sl false 0 [], .int .i64 0, .int .i64 0, .int .i64 0, .sl false 0 [], .bool false, .int .i64 0, .int .i64 0, .sl false 0 []]
theorem msg0_enc : msg0.enc = msg0E := rfl
theorem mgbad_c (n : Int) : FnP Tryz.prog 37 [.int .i64 n] (.tup [.agg msg0.enc, .agg (gF (some (1, n)))]) := by
 have f := fof_c 1 n
 rw [msg0_enc]
 refine FnP.intro Tryz.func37 rfl rfl fun G w => ?_
 repeat' (first | apply WK.seq | (refine hQ.h _ _ ?_; clear hQ hA) | (refine WK.rH Tryz.ntmps37 (by kernel_rfl) ?_; intro A hA Q hQ; simp [gF, msg0E, *]) | (refine RunQ.k rfl rfl rfl rfl rfl ?_ (f) ?_ ?_ <;> simp (maxDischargeDepth := 120) [gF, msg0E, *] <;> refine ⟨?_⟩) | (refine WK.ret Tryz.func37 ?_ ?_ <;> simp (maxDischargeDepth := 120) [Tryz.results37, gF, msg0E, *]))
def mgBase (k x : Int) : Msg := { msg0 with kind := k, xid := x }
set_option maxHeartbeats 16000000 in
theorem mgfill_c (k x : Int) (b : List (BitVec 8)) (hb : b.length ≤ 80000) : FnP Tryz.prog 39 [.agg (mgBase k x).enc, byS b] (.tup [.agg (mgFill k x b).1.enc, .agg (gF (mgFill k x b).2)]) := by
 have b6 := mgbad_c 6
 have b1 := mgbad_c 1
 rw [msg0_enc] at b6 b1
 have hF : mgFill k x b = if mgData k = true then (if 60000 < b.length then (msg0, some (1, 6)) else ({ msg0 with kind := k, xid := x, data := b }, none))
   else if k = 1 then (if b.length < 4 then (msg0, some (1, 6)) else if 60000 < b.length - 4 then (msg0, some (1, 6)) else ({ msg0 with kind := k, xid := x, fault := ⟨true, (getN b 0 2).1, (getN b 2 2).1⟩, data := b.drop 4 }, none))
   else if k = 14 then (match (fmDec b).2 with | some c => (msg0, some c) | none => ({ msg0 with kind := k, xid := x, flow := (fmDec b).1 }, none))
   else if k = 15 then (match (gmDec b).2 with | some c => (msg0, some c) | none => ({ msg0 with kind := k, xid := x, group := (gmDec b).1 }, none))
   else (msg0, some (1, 1)) := rfl
 by_cases k0 : k = 0 ∨ k = 2 ∨ k = 3
 · rw [if_pos (mgData_iff.2 k0)] at hF
   have c := bytesClone_c b (by omega)
   unfold byS at *
   by_cases g : 60000 < b.length
   · have g' : (60000 : Int) < b.length := by omega
     rw [if_pos g] at hF
     rw [hF, msg0_enc]
     clear hF b1
     rcases k0 with rfl | rfl | rfl
     all_goals
       · refine FnP.intro Tryz.func39 rfl rfl fun G w => ?_
         repeat' (first | apply WK.seq | apply WK.block | apply WK.inBlock | apply WK.skip | refine WK.cT rfl ?_ | refine WK.cF rfl ?_ | (refine hQ.h _ _ ?_; clear hQ hA) | (refine WK.rH Tryz.ntmps39 (by kernel_rfl) ?_; intro A hA Q hQ; simp [mgBase, zM, gF, msg0E, *]) | (refine RunQ.k rfl rfl rfl rfl rfl ?_ (c) ?_ ?_ <;> simp (maxDischargeDepth := 120) [mgBase, zM, gF, msg0E, *] <;> refine ⟨?_⟩) | (refine RunQ.k rfl rfl rfl rfl rfl ?_ (b6) ?_ ?_ <;> simp (maxDischargeDepth := 120) [mgBase, zM, gF, msg0E, *] <;> refine ⟨?_⟩) | (refine WK.ret Tryz.func39 ?_ ?_ <;> simp (maxDischargeDepth := 120) [Tryz.results39, mgBase, zM, gF, msg0E, *]))
   · have g' : ¬ (60000 : Int) < b.length := by omega
     rw [if_neg g] at hF
     rw [hF]
     clear hF b1 b6
     rcases k0 with rfl | rfl | rfl
     all_goals
       · refine FnP.intro Tryz.func39 rfl rfl fun G w => ?_
         repeat' (first | apply WK.seq | apply WK.block | apply WK.inBlock | apply WK.skip | refine WK.cT rfl ?_ | refine WK.cF rfl ?_ | (refine hQ.h _ _ ?_; clear hQ hA) | (refine WK.rH Tryz.ntmps39 (by kernel_rfl) ?_; intro A hA Q hQ; simp [mgBase, zM, gF, *]) | (refine RunQ.k rfl rfl rfl rfl rfl ?_ (c) ?_ ?_ <;> simp (maxDischargeDepth := 120) [mgBase, zM, gF, *] <;> refine ⟨?_⟩) | (refine WK.ret Tryz.func39 ?_ ?_ <;> simp (maxDischargeDepth := 120) [Tryz.results39, mgBase, zM, gF, *]))
 have hd : mgData k = false := by cases h : mgData k; rfl; exact absurd (mgData_iff.1 h) k0
 rw [hd, if_neg (by simp)] at hF
 by_cases k1 : k = 1
 · subst k1
   rw [if_pos rfl] at hF
   by_cases g4 : b.length < 4
   · rw [if_pos g4] at hF
     have p := fparse_short b g4
     rw [hF, msg0_enc]
     unfold byS at *
     clear hF b1
     refine FnP.intro Tryz.func39 rfl rfl fun G w => ?_
     repeat' (first | apply WK.seq | apply WK.block | refine WK.cT rfl ?_ | refine WK.cF rfl ?_ | (refine hQ.h _ _ ?_; clear hQ hA) | (refine WK.rH Tryz.ntmps39 (by kernel_rfl) ?_; intro A hA Q hQ; simp [mgBase, zM, gF, msg0E, *]) | (refine RunQ.k rfl rfl rfl rfl rfl ?_ (p) ?_ ?_ <;> simp (maxDischargeDepth := 120) [mgBase, zM, gF, msg0E, *] <;> refine ⟨?_⟩) | (refine RunQ.k rfl rfl rfl rfl rfl ?_ (b6) ?_ ?_ <;> simp (maxDischargeDepth := 120) [mgBase, zM, gF, msg0E, *] <;> refine ⟨?_⟩) | (refine WK.ret Tryz.func39 ?_ ?_ <;> simp (maxDischargeDepth := 120) [Tryz.results39, mgBase, zM, gF, msg0E, *]))
   rw [if_neg g4] at hF
   have p := fparse_c b g4 (by omega)
   obtain ⟨n0, h0⟩ : ∃ n, (getN b 0 2).1 = n := ⟨_, rfl⟩
   obtain ⟨n1, h1⟩ : ∃ n, (getN b 2 2).1 = n := ⟨_, rfl⟩
   rw [h0, h1] at p hF
   have hdl : (b.drop 4).length = b.length - 4 := by rw [List.length_drop]
   rw [← hdl] at hF
   obtain ⟨D, hD⟩ : ∃ D, b.drop 4 = D := ⟨_, rfl⟩
   rw [hD] at p hF
   unfold byS at *
   by_cases g : 60000 < D.length
   · have g' : (60000 : Int) < D.length := by omega
     rw [if_pos g] at hF
     rw [hF, msg0_enc]
     clear hF b1 hD hdl h0 h1
     refine FnP.intro Tryz.func39 rfl rfl fun G w => ?_
     repeat' (first | apply WK.seq | apply WK.block | apply WK.inBlock | apply WK.skip | refine WK.cT rfl ?_ | refine WK.cF rfl ?_ | (refine hQ.h _ _ ?_; clear hQ hA) | (refine WK.rH Tryz.ntmps39 (by kernel_rfl) ?_; intro A hA Q hQ; simp [mgBase, zM, gF, msg0E, *]) | (refine RunQ.k rfl rfl rfl rfl rfl ?_ (p) ?_ ?_ <;> simp (maxDischargeDepth := 120) [mgBase, zM, gF, msg0E, *] <;> refine ⟨?_⟩) | (refine RunQ.k rfl rfl rfl rfl rfl ?_ (b6) ?_ ?_ <;> simp (maxDischargeDepth := 120) [mgBase, zM, gF, msg0E, *] <;> refine ⟨?_⟩) | (refine WK.ret Tryz.func39 ?_ ?_ <;> simp (maxDischargeDepth := 120) [Tryz.results39, mgBase, zM, gF, msg0E, *]))
   · have g' : ¬ (60000 : Int) < D.length := by omega
     rw [if_neg g] at hF
     rw [hF]
     clear hF b1 b6 hD hdl h0 h1
     refine FnP.intro Tryz.func39 rfl rfl fun G w => ?_
     repeat' (first | apply WK.seq | apply WK.block | apply WK.inBlock | apply WK.skip | refine WK.cT rfl ?_ | refine WK.cF rfl ?_ | (refine hQ.h _ _ ?_; clear hQ hA) | (refine WK.rH Tryz.ntmps39 (by kernel_rfl) ?_; intro A hA Q hQ; simp [mgBase, zM, gF, *]) | (refine RunQ.k rfl rfl rfl rfl rfl ?_ (p) ?_ ?_ <;> simp (maxDischargeDepth := 120) [mgBase, zM, gF, *] <;> refine ⟨?_⟩) | (refine WK.ret Tryz.func39 ?_ ?_ <;> simp (maxDischargeDepth := 120) [Tryz.results39, mgBase, zM, gF, *]))
 rw [if_neg k1] at hF
 by_cases k14 : k = 14
 · subst k14
   rw [if_pos rfl] at hF
   have d := fmdec_c b hb
   obtain ⟨R, hR⟩ : ∃ R, fmDec b = R := ⟨_, rfl⟩
   rw [hR] at d hF
   obtain ⟨y, c⟩ := R
   unfold byS at *
   cases c with
   | some c =>
     simp only at hF
     rw [hF, msg0_enc]
     clear hF b1 b6 hR
     refine FnP.intro Tryz.func39 rfl rfl fun G w => ?_
     repeat' (first | apply WK.seq | apply WK.block | apply WK.inBlock | refine WK.cT rfl ?_ | refine WK.cF rfl ?_ | (refine hQ.h _ _ ?_; clear hQ hA) | (refine WK.rH Tryz.ntmps39 (by kernel_rfl) ?_; intro A hA Q hQ; simp [mgBase, zM, gF, msg0E, *]) | (refine WK.rX (by kernel_rfl) Tryz.ntmps39 (by kernel_rfl) ?_; intro A hA Q hQ; simp [mgBase, zM, gF, msg0E, *]) | (refine hQ.h _ _ _ (by decide +kernel) ?_; clear hQ hA) | (refine RunQ.k rfl rfl rfl rfl rfl ?_ (d) ?_ ?_ <;> simp (maxDischargeDepth := 120) [mgBase, zM, gF, msg0E, *] <;> refine ⟨?_⟩) | (refine WK.ret Tryz.func39 ?_ ?_ <;> simp (maxDischargeDepth := 120) [Tryz.results39, mgBase, zM, gF, msg0E, *]))
   | none =>
     simp only at hF
     rw [hF]
     clear hF b1 b6 hR
     refine FnP.intro Tryz.func39 rfl rfl fun G w => ?_
     repeat' (first | apply WK.seq | apply WK.block | apply WK.inBlock | apply WK.skip | refine WK.cT rfl ?_ | refine WK.cF rfl ?_ | (refine hQ.h _ _ ?_; clear hQ hA) | (refine WK.rH Tryz.ntmps39 (by kernel_rfl) ?_; intro A hA Q hQ; simp [mgBase, zM, gF, *]) | (refine RunQ.k rfl rfl rfl rfl rfl ?_ (d) ?_ ?_ <;> simp (maxDischargeDepth := 120) [mgBase, zM, gF, *] <;> refine ⟨?_⟩) | (refine WK.ret Tryz.func39 ?_ ?_ <;> simp (maxDischargeDepth := 120) [Tryz.results39, mgBase, zM, gF, *]))
 rw [if_neg k14] at hF
 by_cases k15 : k = 15
 · subst k15
   rw [if_pos rfl] at hF
   have d := gdec_c b (by omega)
   obtain ⟨R, hR⟩ : ∃ R, gmDec b = R := ⟨_, rfl⟩
   rw [hR] at d hF
   obtain ⟨y, c⟩ := R
   unfold byS at *
   cases c with
   | some c =>
     simp only at hF
     rw [hF, msg0_enc]
     clear hF b1 b6 hR
     refine FnP.intro Tryz.func39 rfl rfl fun G w => ?_
     repeat' (first | apply WK.seq | apply WK.block | apply WK.inBlock | refine WK.cT rfl ?_ | refine WK.cF rfl ?_ | (refine hQ.h _ _ ?_; clear hQ hA) | (refine WK.rH Tryz.ntmps39 (by kernel_rfl) ?_; intro A hA Q hQ; simp [mgBase, zM, gF, msg0E, *]) | (refine WK.rX (by kernel_rfl) Tryz.ntmps39 (by kernel_rfl) ?_; intro A hA Q hQ; simp [mgBase, zM, gF, msg0E, *]) | (refine hQ.h _ _ _ (by decide +kernel) ?_; clear hQ hA) | (refine RunQ.k rfl rfl rfl rfl rfl ?_ (d) ?_ ?_ <;> simp (maxDischargeDepth := 120) [mgBase, zM, gF, msg0E, *] <;> refine ⟨?_⟩) | (refine WK.ret Tryz.func39 ?_ ?_ <;> simp (maxDischargeDepth := 120) [Tryz.results39, mgBase, zM, gF, msg0E, *]))
   | none =>
     simp only at hF
     rw [hF]
     clear hF b1 b6 hR
     refine FnP.intro Tryz.func39 rfl rfl fun G w => ?_
     repeat' (first | apply WK.seq | apply WK.block | apply WK.inBlock | apply WK.skip | refine WK.cT rfl ?_ | refine WK.cF rfl ?_ | (refine hQ.h _ _ ?_; clear hQ hA) | (refine WK.rH Tryz.ntmps39 (by kernel_rfl) ?_; intro A hA Q hQ; simp [mgBase, zM, gF, *]) | (refine RunQ.k rfl rfl rfl rfl rfl ?_ (d) ?_ ?_ <;> simp (maxDischargeDepth := 120) [mgBase, zM, gF, *] <;> refine ⟨?_⟩) | (refine WK.ret Tryz.func39 ?_ ?_ <;> simp (maxDischargeDepth := 120) [Tryz.results39, mgBase, zM, gF, *]))
 rw [if_neg k15] at hF
 rw [hF, msg0_enc]
 have j0 : (k == 0) = false := by rw [beq_eq_false_iff_ne]; omega
 have j2 : (k == 2) = false := by rw [beq_eq_false_iff_ne]; omega
 have j3 : (k == 3) = false := by rw [beq_eq_false_iff_ne]; omega
 have j1 : (k == 1) = false := by rw [beq_eq_false_iff_ne]; omega
 have j14 : (k == 14) = false := by rw [beq_eq_false_iff_ne]; omega
 have j15 : (k == 15) = false := by rw [beq_eq_false_iff_ne]; omega
 unfold byS at *
 clear hF b6 k0 k1 k14 k15 hd
 refine FnP.intro Tryz.func39 rfl rfl fun G w => ?_
 repeat' (first | apply WK.seq | apply WK.block | refine WK.cF rfl ?_ | (refine hQ.h _ _ ?_; clear hQ hA) | (refine WK.rH Tryz.ntmps39 (by kernel_rfl) ?_; intro A hA Q hQ; simp [mgBase, zM, gF, msg0E, *]) | (refine RunQ.k rfl rfl rfl rfl rfl ?_ (b1) ?_ ?_ <;> simp (maxDischargeDepth := 120) [mgBase, zM, gF, msg0E, *] <;> refine ⟨?_⟩) | (refine WK.ret Tryz.func39 ?_ ?_ <;> simp (maxDischargeDepth := 120) [Tryz.results39, mgBase, zM, gF, msg0E, *]))
theorem bI_four (x : BitVec 8) : (bI x == 4) = (x == 4#8) := by
 rw [Bool.eq_iff_iff, beq_iff_eq, beq_iff_eq]
 unfold bI
 constructor
 · intro h; exact BitVec.eq_of_toNat_eq (by simp; omega)
 · intro h; subst h; rfl
theorem mgDec_short {b : List (BitVec 8)} (h : b.length < 8) : mgDec b = (msg0, some (1, 6)) := by unfold mgDec; rw [if_pos h]
set_option maxHeartbeats 8000000 in
theorem mgdec_c (b : List (BitVec 8)) (hb : b.length ≤ 80000) : FnP Tryz.prog 16 [byS b] (.tup [.agg (mgDec b).1.enc, .agg (gF (mgDec b).2)]) := by
 have b6 := mgbad_c 6
 have b0 := mgbad_c 0
 rw [msg0_enc] at b6 b0
 by_cases c0 : b.length < 8
 · have c0' : (b.length : Int) < 8 := by omega
   rw [mgDec_short c0, msg0_enc]
   unfold byS
   clear b0
   refine FnP.intro Tryz.func16 rfl rfl fun G w => ?_
   repeat' (first | apply WK.seq | refine WK.cT rfl ?_ | (refine hQ.h _ _ ?_; clear hQ hA) | (refine WK.rH Tryz.ntmps16 (by kernel_rfl) ?_; intro A hA Q hQ; simp [gF, msg0E, *]) | (refine RunQ.k rfl rfl rfl rfl rfl ?_ (b6) ?_ ?_ <;> simp (maxDischargeDepth := 120) [gF, msg0E, *] <;> refine ⟨?_⟩) | (refine WK.ret Tryz.func16 ?_ ?_ <;> simp (maxDischargeDepth := 120) [Tryz.results16, gF, msg0E, *]))
 have c0' : ¬ (b.length : Int) < 8 := by omega
 have hD : mgDec b = if (nth b 0 == 4#8) = false then (msg0, some (1, 0)) else if ¬ valN ((b.drop 2).take 2) = b.length then (msg0, some (1, 6)) else mgFill (bI (nth b 1)) (getN b 4 4).1 (b.drop 8) := by unfold mgDec; rw [if_neg c0]
 have g2 := nget_c b 2 2 Sz2 (by omega) (by omega)
 have g4 := nget_c b 4 4 Sz4 (by omega) (by omega)
 have e2 := getN_val (b := b) (p := 2) (s := 2) (by omega)
 have e4 := getN_val (b := b) (p := 4) (s := 4) (by omega)
 rw [e2] at g2
 have x0 := by_get b 0 (by omega)
 have x1 := by_get b 1 (by omega)
 have u0 : (0 : Int) < b.length := by omega
 have u1 : (1 : Int) < b.length := by omega
 have v0 : 0 < b.length := by omega
 have v1 : 1 < b.length := by omega
 have y0 := bI_four (nth b 0)
 have w1 := u8_i64' (nth b 1)
 obtain ⟨z, hz⟩ : ∃ z, (nth b 0 == 4#8) = z := ⟨_, rfl⟩
 rw [hz] at y0 hD
 obtain ⟨X0, h0⟩ : ∃ X, bI (nth b 0) = X := ⟨_, rfl⟩
 rw [h0] at x0 y0
 obtain ⟨X1, h1⟩ : ∃ X, bI (nth b 1) = X := ⟨_, rfl⟩
 rw [h1] at x1 hD w1
 obtain ⟨v, hv⟩ : ∃ v, valN ((b.drop 2).take 2) = v := ⟨_, rfl⟩
 rw [hv] at g2 hD
 have fl := mgfill_c X1 (getN b 4 4).1 (b.drop 8) (by rw [List.length_drop]; omega)
 rw [e4] at g4 hD fl
 simp only at hD fl
 obtain ⟨q, hq⟩ : ∃ q : Int, ((valN ((b.drop 4).take 4) : Nat) : Int) = q := ⟨_, rfl⟩
 rw [hq] at g4 hD fl
 have hs8 : ((byL b).drop 8).take (b.length - 8) = byL (b.drop 8) := by rw [byL_drop]; exact by_full _ _ (by rw [List.length_drop])
 have u8 : (8 : Int) ≤ b.length := by omega
 have hz7 : ((v : Int) == (b.length : Int)) = (v == b.length) := by rw [Bool.eq_iff_iff, beq_iff_eq, beq_iff_eq]; omega
 simp only [byS, List.length_drop] at g2 g4 fl ⊢
 obtain ⟨B8, hB8⟩ : ∃ B, b.drop 8 = B := ⟨_, rfl⟩
 rw [hB8] at fl hs8 hD
 clear hz h0 h1 hv e2 e4 hq hB8 c0
 cases z
 · rw [if_pos rfl] at hD
   rw [hD, msg0_enc]
   clear hD b6 fl
   refine FnP.intro Tryz.func16 rfl rfl fun G w => ?_
   repeat' (first | apply WK.seq | apply WK.block | apply WK.skip | refine WK.cT rfl ?_ | refine WK.cF rfl ?_ | (refine hQ.h _ _ ?_; clear hQ hA) | (refine WK.rH Tryz.ntmps16 (by kernel_rfl) ?_; intro A hA Q hQ; simp [gF, msg0E, bne, *]) | (refine RunQ.k rfl rfl rfl rfl rfl ?_ (g2) ?_ ?_ <;> simp (maxDischargeDepth := 120) [gF, msg0E, bne, *] <;> refine ⟨?_⟩) | (refine RunQ.k rfl rfl rfl rfl rfl ?_ (g4) ?_ ?_ <;> simp (maxDischargeDepth := 120) [gF, msg0E, bne, *] <;> refine ⟨?_⟩) | (refine RunQ.k rfl rfl rfl rfl rfl ?_ (b0) ?_ ?_ <;> simp (maxDischargeDepth := 120) [gF, msg0E, bne, *] <;> refine ⟨?_⟩) | (refine WK.ret Tryz.func16 ?_ ?_ <;> simp (maxDischargeDepth := 120) [Tryz.results16, gF, msg0E, bne, *]))
 rw [if_neg (by simp)] at hD
 by_cases hl : v = b.length
 case neg =>
   have hl' : (v == b.length) = false := by simpa using hl
   rw [if_pos hl] at hD
   rw [hD, msg0_enc]
   rw [hl'] at hz7
   clear hD b0 fl hl'
   refine FnP.intro Tryz.func16 rfl rfl fun G w => ?_
   repeat' (first | apply WK.seq | apply WK.block | apply WK.skip | refine WK.cT rfl ?_ | refine WK.cF rfl ?_ | (refine hQ.h _ _ ?_; clear hQ hA) | (refine WK.rH Tryz.ntmps16 (by kernel_rfl) ?_; intro A hA Q hQ; simp [gF, msg0E, bne, *]) | (refine RunQ.k rfl rfl rfl rfl rfl ?_ (g2) ?_ ?_ <;> simp (maxDischargeDepth := 120) [gF, msg0E, bne, *] <;> refine ⟨?_⟩) | (refine RunQ.k rfl rfl rfl rfl rfl ?_ (g4) ?_ ?_ <;> simp (maxDischargeDepth := 120) [gF, msg0E, bne, *] <;> refine ⟨?_⟩) | (refine RunQ.k rfl rfl rfl rfl rfl ?_ (b6) ?_ ?_ <;> simp (maxDischargeDepth := 120) [gF, msg0E, bne, *] <;> refine ⟨?_⟩) | (refine WK.ret Tryz.func16 ?_ ?_ <;> simp (maxDischargeDepth := 120) [Tryz.results16, gF, msg0E, bne, *]))
 have hl' : (v == b.length) = true := by simpa using hl
 rw [if_neg (by simpa using hl)] at hD
 rw [hl'] at hz7
 rw [hD]
 have hbase : (mgBase X1 q).enc = [.int .i64 X1, .int .i64 q, .int .u64 0, .int .u64 0, .int .i64 0, .int .i64 0, .int .i64 0, .int .i64 0, .int .i64 0, .int .i64 0, .int .i64 0, .int .i64 0, .int .i64 0, .sl false 0 [], .sl false 0 [], .int .i64 0, .int .i64 0, .int .i64 0, .sl false 0 [], .bool false, .int .i64 0, .int .i64 0, .sl false 0 []] := rfl
 rw [hbase] at fl
 obtain ⟨R, hR⟩ : ∃ R, mgFill X1 q B8 = R := ⟨_, rfl⟩
 rw [hR] at fl ⊢
 obtain ⟨y, c⟩ := R
 obtain ⟨f0, f1, f2, hg⟩ : ∃ f0 f1 f2, gF c = [.bool f0, .int .i64 f1, .int .i64 f2] := by cases c <;> exact ⟨_, _, _, rfl⟩
 simp only at fl ⊢
 rw [hg] at fl ⊢
 clear hD b0 b6 hbase hl' hR hg
 unfold Msg.enc Flt.enc FlowMod.enc GroupMod.enc at *
 refine FnP.intro Tryz.func16 rfl rfl fun G w => ?_
 repeat' (first | apply WK.seq | apply WK.block | apply WK.inBlock | apply WK.skip | refine WK.cF rfl ?_ | (refine hQ.h _ _ ?_; clear hQ hA) | (refine WK.rH Tryz.ntmps16 (by kernel_rfl) ?_; intro A hA Q hQ; simp [bne, *]) | (refine WK.rX (by kernel_rfl) Tryz.ntmps16 (by kernel_rfl) ?_; intro A hA Q hQ; simp [bne, *]) | (refine hQ.h _ _ _ (by decide +kernel) ?_; clear hQ hA) | (refine RunQ.k rfl rfl rfl rfl rfl ?_ (g2) ?_ ?_ <;> simp (maxDischargeDepth := 120) [bne, *] <;> refine ⟨?_⟩) | (refine RunQ.k rfl rfl rfl rfl rfl ?_ (g4) ?_ ?_ <;> simp (maxDischargeDepth := 120) [bne, *] <;> refine ⟨?_⟩) | (refine RunX.k rfl rfl rfl rfl ?_ (fl) ?_ ?_ <;> simp (maxDischargeDepth := 120) [bne, *] <;> refine ⟨?_⟩) | (refine WK.ret Tryz.func16 ?_ ?_ <;> simp (maxDischargeDepth := 120) [Tryz.results16, bne, *]))

set_option maxHeartbeats 4000000 in
theorem rfmcheck_c (m : FlowMod) (hm : FmB m) : FnP Tryz.prog 58 [.agg m.enc] (.agg (gF (fmCheck m))) := by
 have mc : ∀ f, FnP Tryz.prog 91 [oxmS m.mat, .int .i64 f] (.bool (mMet m.mat f)) := fun f => rmet_c m.mat f (by have := hm.mat; omega)
 have e : fmCheck m = if m.command < 0 ∨ 4 < m.command then some (5, 6) else if 31 < m.flags then some (5, 7) else if 2 < m.command then none else if fmWrong m = true then some (2, 10) else none := rfl
 have hl := hm.insts
 have ha := hm.acts
 unfold FlowMod.enc at *
 by_cases c1 : m.command < 0
 · rw [if_pos (.inl c1)] at e
   rw [e]
   clear e mc
   refine FnP.intro Tryz.func58 rfl rfl fun G w => ?_
   repeat' (first | apply WK.seq | refine WK.cT rfl ?_ | (refine hQ.h _ _ ?_; clear hQ hA) | (refine WK.rH Tryz.ntmps58 (by kernel_rfl) ?_; intro A hA Q hQ; simp [gF, *]) | (refine RunQ.gd rfl (by rw [hA.h]; rfl) ?_; simp [gF, *]) | (refine WK.ret Tryz.func58 ?_ ?_ <;> simp (maxDischargeDepth := 120) [Tryz.results58, gF, *]))
 by_cases c2 : 4 < m.command
 · rw [if_pos (.inr c2)] at e
   rw [e]
   clear e mc
   refine FnP.intro Tryz.func58 rfl rfl fun G w => ?_
   repeat' (first | apply WK.seq | refine WK.cT rfl ?_ | (refine hQ.h _ _ ?_; clear hQ hA) | (refine WK.rH Tryz.ntmps58 (by kernel_rfl) ?_; intro A hA Q hQ; simp [gF, *]) | (refine RunQ.gd rfl (by rw [hA.h]; rfl) ?_; simp [gF, *]) | (refine WK.ret Tryz.func58 ?_ ?_ <;> simp (maxDischargeDepth := 120) [Tryz.results58, gF, *]))
 rw [if_neg (by omega)] at e
 by_cases c3 : 31 < m.flags
 · rw [if_pos c3] at e
   rw [e]
   clear e mc
   refine FnP.intro Tryz.func58 rfl rfl fun G w => ?_
   repeat' (first | apply WK.seq | apply WK.skip | refine WK.cT rfl ?_ | refine WK.cF rfl ?_ | (refine hQ.h _ _ ?_; clear hQ hA) | (refine WK.rH Tryz.ntmps58 (by kernel_rfl) ?_; intro A hA Q hQ; simp [gF, *]) | (refine RunQ.gd rfl (by rw [hA.h]; rfl) ?_; simp [gF, *]) | (refine WK.ret Tryz.func58 ?_ ?_ <;> simp (maxDischargeDepth := 120) [Tryz.results58, gF, *]))
 rw [if_neg c3] at e
 by_cases c4 : 2 < m.command
 · rw [if_pos c4] at e
   rw [e]
   clear e mc
   refine FnP.intro Tryz.func58 rfl rfl fun G w => ?_
   repeat' (first | apply WK.seq | apply WK.skip | refine WK.cT rfl ?_ | refine WK.cF rfl ?_ | (refine hQ.h _ _ ?_; clear hQ hA) | (refine WK.rH Tryz.ntmps58 (by kernel_rfl) ?_; intro A hA Q hQ; simp [gF, *]) | (refine RunQ.gd rfl (by rw [hA.h]; rfl) ?_; simp [gF, *]) | (refine WK.ret Tryz.func58 ?_ ?_ <;> simp (maxDischargeDepth := 120) [Tryz.results58, gF, *]))
 rw [if_neg c4] at e
 rw [fmWrong_eq] at e
 clear hm
 refine FnP.intro Tryz.func58 rfl rfl fun G w => ?_
 repeat' (first | apply WK.seq | apply WK.block | apply WK.skip | refine WK.cF rfl ?_ | (refine hQ.h _ _ ?_; clear hQ hA) | (refine WK.rH Tryz.ntmps58 (by kernel_rfl) ?_; intro A hA Q hQ; simp [*]) | (refine RunQ.gd rfl (by rw [hA.h]; rfl) ?_; simp [*]))
 refine WK.lI (fun n => n) (fun i : Nat => (⟨(upd (upd (upd J 1 (.ptr 0 0)) 2 (.ptr 1 0)) 3 (.int .i64 i)), (upd (upd B0 0 (.var m.enc)) 1 (.var [.junk, .junk, .junk])), 0⟩ : St)) (fun i => i ≤ m.insts.length ∧ ∀ j, j < i → (nth m.insts j).acts.any (actOff m.mat) = false) (fun i => m.insts.length - i) (0) (by repeat (first | exact TmW.nil | refine TmW.upd ?_ (by simp (maxDischargeDepth := 120) [FlowMod.enc]))) (by repeat (first | exact BxW.nil | refine BxW.upd ?_ (by simp (maxDischargeDepth := 120) [FlowMod.enc]))) InjW.id (⟨by omega, by simp⟩) (fun i hi IH => ?_)
 clear c1 c2 c3 c4
 unfold FlowMod.enc at *
 by_cases h1 : i < m.insts.length
 · have k6 := inst_get6 m.insts i h1
   have h6 : IntKind.i64.wrap ((i : Int) + 1) = i + 1 := wrap_i64 (by omega) (by omega)
   have v6 : i * 7 + 6 < m.insts.length * 7 := by omega
   have hF : (nth m.insts i).acts.any (actOff m.mat) = true → (m.insts.any fun i => i.acts.any (actOff m.mat)) = true := fun h => any_true' (p := fun i : Inst => i.acts.any (actOff m.mat)) h1 h
   have hN : (nth m.insts i).acts.any (actOff m.mat) = false → ∀ j, j < i + 1 → (nth m.insts j).acts.any (actOff m.mat) = false := fun h j hj => by
     by_cases h7 : j = i
     · subst h7; exact h
     · exact hi.2 j (by omega)
   have hal := ha _ (nth_mem h1)
   obtain ⟨Ac, hAc⟩ : ∃ a, (nth m.insts i).acts = a := ⟨_, rfl⟩
   rw [hAc] at k6 hF hN hal
   clear hAc hi ha
   repeat' (first | apply WK.seq | apply WK.block | apply WK.skip | refine WK.cT rfl ?_ | (refine hQ.h _ _ ?_; clear hQ hA) | (refine WK.rH Tryz.ntmps58 (by kernel_rfl) ?_; intro A hA Q hQ; simp [*]))
   refine WK.lI (fun n => n) (fun j : Nat => (⟨(upd (upd (upd (upd J 1 (.ptr 0 0)) 2 (.ptr 1 0)) 3 (.int .i64 i)) 4 (.int .i64 j)), (upd (upd B0 0 (.var m.enc)) 1 (.var [.junk, .junk, .junk])), 0⟩ : St)) (fun j => j ≤ Ac.length ∧ ∀ k, k < j → actOff m.mat (nth Ac k) = false) (fun j => Ac.length - j) (0) (by repeat (first | exact TmW.nil | refine TmW.upd ?_ (by simp (maxDischargeDepth := 120) [FlowMod.enc]))) (by repeat (first | exact BxW.nil | refine BxW.upd ?_ (by simp (maxDischargeDepth := 120) [FlowMod.enc]))) InjW.id (⟨by omega, by simp⟩) (fun j hj IHj => ?_)
   unfold FlowMod.enc
   by_cases g1 : j < Ac.length
   · obtain ⟨g4, g3⟩ := act_load Ac j g1
     have g6 : IntKind.i64.wrap ((j : Int) + 1) = j + 1 := wrap_i64 (by omega) (by omega)
     have c := mc (nth Ac j).oxm.field
     have hFa : actOff m.mat (nth Ac j) = true → Ac.any (actOff m.mat) = true := fun h => any_true' g1 h
     have hNa : actOff m.mat (nth Ac j) = false → ∀ k, k < j + 1 → actOff m.mat (nth Ac k) = false := fun h k hk => by
       by_cases h7 : k = j
       · subst h7; exact h
       · exact hj.2 k (by omega)
     obtain ⟨a, hae⟩ : ∃ a, nth Ac j = a := ⟨_, rfl⟩
     rw [hae] at g4 c hFa hNa
     have ea : actOff m.mat a = (a.kind == 25 && !mMet m.mat a.oxm.field) := rfl
     unfold Action.enc at g4
     unfold oxmS at c
     clear hae hj hN mc
     cases k1 : a.kind == 25
     · rw [k1] at ea
       have hn := hNa ea
       clear hFa hNa ea hF c e
       repeat' (first | apply WK.seq | apply WK.block | apply WK.inBlock | apply WK.skip | refine WK.cT rfl ?_ | refine WK.cF rfl ?_ | (refine hQ.h _ _ ?_; clear hQ hA) | (refine WK.rH Tryz.ntmps58 (by kernel_rfl) ?_; intro A hA Q hQ; simp [*]) | (refine RunQ.gd rfl (by rw [hA.h]; rfl) ?_; simp [*]))
       refine WK.next (fun n => n) (IHj (j + 1) (⟨by omega, hn⟩) (by first | omega | (dsimp only; omega))) (by repeat (first | exact TmW.nil | refine TmW.upd ?_ (by simp (maxDischargeDepth := 120) [FlowMod.enc]))) (by repeat (first | exact BxW.nil | refine BxW.upd ?_ (by simp (maxDischargeDepth := 120) [FlowMod.enc]))) InjW.id
     cases k2 : mMet m.mat a.oxm.field
     · rw [k1, k2] at ea
       rw [k2] at c
       rw [if_pos (hF (hFa ea))] at e
       rw [e]
       clear hFa hNa ea hF e
       repeat' (first | apply WK.seq | apply WK.block | apply WK.skip | refine WK.cT rfl ?_ | (refine hQ.h _ _ ?_; clear hQ hA) | (refine WK.rH Tryz.ntmps58 (by kernel_rfl) ?_; intro A hA Q hQ; simp [gF, *]) | (refine RunQ.gd rfl (by rw [hA.h]; rfl) ?_; simp [gF, *]) | (refine RunQW.k rfl rfl rfl rfl ?_ (c) ?_ ?_ <;> simp (maxDischargeDepth := 120) [gF, *] <;> refine ⟨?_⟩) | (refine WK.ret Tryz.func58 ?_ ?_ <;> simp (maxDischargeDepth := 120) [Tryz.results58, gF, *]))
     · rw [k1, k2] at ea
       rw [k2] at c
       have hn := hNa ea
       clear hFa hNa ea hF e
       repeat' (first | apply WK.seq | apply WK.block | apply WK.inBlock | apply WK.skip | refine WK.cT rfl ?_ | refine WK.cF rfl ?_ | (refine hQ.h _ _ ?_; clear hQ hA) | (refine WK.rH Tryz.ntmps58 (by kernel_rfl) ?_; intro A hA Q hQ; simp [*]) | (refine RunQ.gd rfl (by rw [hA.h]; rfl) ?_; simp [*]) | (refine RunQW.k rfl rfl rfl rfl ?_ (c) ?_ ?_ <;> simp (maxDischargeDepth := 120) [*] <;> refine ⟨?_⟩))
       refine WK.next (fun n => n) (IHj (j + 1) (⟨by omega, hn⟩) (by first | omega | (dsimp only; omega))) (by repeat (first | exact TmW.nil | refine TmW.upd ?_ (by simp (maxDischargeDepth := 120) [FlowMod.enc]))) (by repeat (first | exact BxW.nil | refine BxW.upd ?_ (by simp (maxDischargeDepth := 120) [FlowMod.enc]))) InjW.id
   · have hn := hN (any_false' fun k hk => hj.2 k (by omega))
     clear hN hF hj e mc
     repeat' (first | apply WK.seq | apply WK.inBlock | refine WK.exit rfl ?_ | refine WK.cF rfl ?_ | (refine hQ.h _ _ ?_; clear hQ hA) | (refine WK.rH Tryz.ntmps58 (by kernel_rfl) ?_; intro A hA Q hQ; simp [*]))
     refine WK.next (fun n => n) (IH (i + 1) (⟨by omega, hn⟩) (by first | omega | (dsimp only; omega))) (by repeat (first | exact TmW.nil | refine TmW.upd ?_ (by simp (maxDischargeDepth := 120) [FlowMod.enc]))) (by repeat (first | exact BxW.nil | refine BxW.upd ?_ (by simp (maxDischargeDepth := 120) [FlowMod.enc]))) InjW.id
 · have ef := any_false' (p := fun i : Inst => i.acts.any (actOff m.mat)) (l := m.insts) fun j hj => hi.2 j (by omega)
   rw [if_neg (by rw [ef]; simp)] at e
   rw [e]
   clear e mc ef
   repeat' (first | apply WK.seq | refine WK.exit rfl ?_ | refine WK.cF rfl ?_ | (refine hQ.h _ _ ?_; clear hQ hA) | (refine WK.rH Tryz.ntmps58 (by kernel_rfl) ?_; intro A hA Q hQ; simp [gF, *]) | (refine WK.ret Tryz.func58 ?_ ?_ <;> simp (maxDischargeDepth := 120) [Tryz.results58, gF, *]))
theorem fmRight_ref (m : FlowMod) : fmRight m = (((numOk m.table 1 && numOk m.command 1) && (numOk m.idle 2 && (numOk m.hard 2 && (numOk m.prio 2 && numOk m.flags 2)))) && ((numOk m.buffer 4 && (numOk m.outPort 4 && numOk m.outGroup 4)) && ((mEnc m.mat).2 == 0 && ((inEnc m.insts).2 == 0 && (fmCheck m).isNone)))) := by
 have e : (fmZip m).all (fun x => numOk x.1 x.2) = (numOk m.table 1 && (numOk m.command 1 && (numOk m.idle 2 && (numOk m.hard 2 && (numOk m.prio 2 && (numOk m.buffer 4 && (numOk m.outPort 4 && (numOk m.outGroup 4 && numOk m.flags 2)))))))) := by
   simp only [fmZip, fmNums, fmSizes, List.zip_cons_cons, List.zip_nil_left, List.all_cons, List.all_nil, Bool.and_true]
 unfold fmRight
 rw [e]
 ac_rfl
set_option maxHeartbeats 8000000 in
theorem rfmright_c (m : FlowMod) (hm : FmB m) : FnP Tryz.prog 30 [.agg m.enc] (.bool (fmRight m)) := by
 have me := rmencP_c m.mat hm.mat
 have ie := riencP_c m.insts hm.insts hm.acts
 have ck := rfmcheck_c m hm
 have t1 := rright_c m.table 1 Sz1
 have t2 := rright_c m.command 1 Sz1
 have t3 := rright_c m.idle 2 Sz2
 have t4 := rright_c m.hard 2 Sz2
 have t5 := rright_c m.prio 2 Sz2
 have t6 := rright_c m.flags 2 Sz2
 have t7 := rright_c m.buffer 4 Sz4
 have t8 := rright_c m.outPort 4 Sz4
 have t9 := rright_c m.outGroup 4 Sz4
 have e := fmRight_ref m
 obtain ⟨z1, hz1⟩ : ∃ z, numOk m.table 1 = z := ⟨_, rfl⟩
 obtain ⟨z2, hz2⟩ : ∃ z, numOk m.command 1 = z := ⟨_, rfl⟩
 obtain ⟨z3, hz3⟩ : ∃ z, numOk m.idle 2 = z := ⟨_, rfl⟩
 obtain ⟨z4, hz4⟩ : ∃ z, numOk m.hard 2 = z := ⟨_, rfl⟩
 obtain ⟨z5, hz5⟩ : ∃ z, numOk m.prio 2 = z := ⟨_, rfl⟩
 obtain ⟨z6, hz6⟩ : ∃ z, numOk m.flags 2 = z := ⟨_, rfl⟩
 obtain ⟨z7, hz7⟩ : ∃ z, numOk m.buffer 4 = z := ⟨_, rfl⟩
 obtain ⟨z8, hz8⟩ : ∃ z, numOk m.outPort 4 = z := ⟨_, rfl⟩
 obtain ⟨z9, hz9⟩ : ∃ z, numOk m.outGroup 4 = z := ⟨_, rfl⟩
 rw [hz1] at t1 e
 rw [hz2] at t2 e
 rw [hz3] at t3 e
 rw [hz4] at t4 e
 rw [hz5] at t5 e
 rw [hz6] at t6 e
 rw [hz7] at t7 e
 rw [hz8] at t8 e
 rw [hz9] at t9 e
 obtain ⟨M, hM⟩ : ∃ M, mEnc m.mat = M := ⟨_, rfl⟩
 obtain ⟨I, hI⟩ : ∃ I, inEnc m.insts = I := ⟨_, rfl⟩
 obtain ⟨C, hC⟩ : ∃ C, fmCheck m = C := ⟨_, rfl⟩
 rw [hM] at me e
 rw [hI] at ie e
 rw [hC] at ck e
 simp only [byS, oxmS, instS] at me ie
 clear hz1 hz2 hz3 hz4 hz5 hz6 hz7 hz8 hz9 hM hI hC hm
 unfold FlowMod.enc at *
 obtain ⟨M1, M2⟩ := M
 obtain ⟨I1, I2⟩ := I
 simp only at me ie e
 obtain ⟨p, q, hg⟩ : ∃ p q : Int, gF C = [.bool C.isSome, .int .i64 p, .int .i64 q] := by cases C <;> exact ⟨_, _, rfl⟩
 have hC : C.isNone = !C.isSome := by cases C <;> rfl
 rw [hg] at ck
 rw [hC] at e
 obtain ⟨y, hy⟩ : ∃ y, C.isSome = y := ⟨_, rfl⟩
 rw [hy] at ck e
 clear hg hC hy
 refine FnP.intro Tryz.func30 rfl rfl fun G w => ?_
 repeat' (first | apply WK.seq | (refine hQ.h _ _ ?_; clear hQ hA) | (refine Fork.mk (fun h => ?_) (fun h => ?_) <;> (first | (simp [*] at h; done) | (have h2 := h; simp at h2; exfalso; omega) | (have h2 := h; simp at h2; try simp only [Bool.not_eq_true', Bool.not_eq_false'] at h) | skip)) | (refine WK.rH Tryz.ntmps30 (by kernel_rfl) ?_; intro A hA Q hQ; simp [*]) | (refine RunQ.gd rfl (by rw [hA.h]; rfl) ?_; simp [*]) | (refine RunQ.k rfl rfl rfl rfl rfl ?_ (me) ?_ ?_ <;> simp (maxDischargeDepth := 120) [*] <;> refine ⟨?_⟩) | (refine RunQ.k rfl rfl rfl rfl rfl ?_ (ie) ?_ ?_ <;> simp (maxDischargeDepth := 120) [*] <;> refine ⟨?_⟩) | (refine RunQ.k rfl rfl rfl rfl rfl ?_ (t1) ?_ ?_ <;> simp (maxDischargeDepth := 120) [*] <;> refine ⟨?_⟩) | (refine RunQ.k rfl rfl rfl rfl rfl ?_ (t2) ?_ ?_ <;> simp (maxDischargeDepth := 120) [*] <;> refine ⟨?_⟩) | (refine RunQ.k rfl rfl rfl rfl rfl ?_ (t3) ?_ ?_ <;> simp (maxDischargeDepth := 120) [*] <;> refine ⟨?_⟩) | (refine RunQ.k rfl rfl rfl rfl rfl ?_ (t4) ?_ ?_ <;> simp (maxDischargeDepth := 120) [*] <;> refine ⟨?_⟩) | (refine RunQ.k rfl rfl rfl rfl rfl ?_ (t5) ?_ ?_ <;> simp (maxDischargeDepth := 120) [*] <;> refine ⟨?_⟩) | (refine RunQ.k rfl rfl rfl rfl rfl ?_ (t6) ?_ ?_ <;> simp (maxDischargeDepth := 120) [*] <;> refine ⟨?_⟩) | (refine RunQ.k rfl rfl rfl rfl rfl ?_ (t7) ?_ ?_ <;> simp (maxDischargeDepth := 120) [*] <;> refine ⟨?_⟩) | (refine RunQ.k rfl rfl rfl rfl rfl ?_ (t8) ?_ ?_ <;> simp (maxDischargeDepth := 120) [*] <;> refine ⟨?_⟩) | (refine RunQ.k rfl rfl rfl rfl rfl ?_ (t9) ?_ ?_ <;> simp (maxDischargeDepth := 120) [*] <;> refine ⟨?_⟩) | (refine RunQW.k rfl rfl rfl rfl ?_ (t1) ?_ ?_ <;> simp (maxDischargeDepth := 120) [*] <;> refine ⟨?_⟩) | (refine RunQW.k rfl rfl rfl rfl ?_ (t2) ?_ ?_ <;> simp (maxDischargeDepth := 120) [*] <;> refine ⟨?_⟩) | (refine RunQW.k rfl rfl rfl rfl ?_ (t3) ?_ ?_ <;> simp (maxDischargeDepth := 120) [*] <;> refine ⟨?_⟩) | (refine RunQW.k rfl rfl rfl rfl ?_ (t4) ?_ ?_ <;> simp (maxDischargeDepth := 120) [*] <;> refine ⟨?_⟩) | (refine RunQW.k rfl rfl rfl rfl ?_ (t5) ?_ ?_ <;> simp (maxDischargeDepth := 120) [*] <;> refine ⟨?_⟩) | (refine RunQW.k rfl rfl rfl rfl ?_ (t6) ?_ ?_ <;> simp (maxDischargeDepth := 120) [*] <;> refine ⟨?_⟩) | (refine RunQW.k rfl rfl rfl rfl ?_ (t7) ?_ ?_ <;> simp (maxDischargeDepth := 120) [*] <;> refine ⟨?_⟩) | (refine RunQW.k rfl rfl rfl rfl ?_ (t8) ?_ ?_ <;> simp (maxDischargeDepth := 120) [*] <;> refine ⟨?_⟩) | (refine RunQW.k rfl rfl rfl rfl ?_ (t9) ?_ ?_ <;> simp (maxDischargeDepth := 120) [*] <;> refine ⟨?_⟩) | (refine RunQW.k rfl rfl rfl rfl ?_ (ck) ?_ ?_ <;> simp (maxDischargeDepth := 120) [*] <;> refine ⟨?_⟩) | (refine WK.ret Tryz.func30 ?_ ?_ <;> simp (maxDischargeDepth := 120) [Tryz.results30, *]))
set_option maxHeartbeats 8000000 in
theorem rfmsame_c (a b : FlowMod) (ha : FmB a) : FnP Tryz.prog 35 [.agg a.enc, .agg b.enc] (.bool (FlowMod.same a b)) := by
 have ms := rsame_oxm a.mat b.mat (by have := ha.mat; omega)
 have is := rsame_inst a.insts b.insts (by have := ha.insts; omega) ha.acts
 have e : FlowMod.same a b = ((fmNums a == fmNums b) && (a.cookie == b.cookie && (a.cookieMask == b.cookieMask && (eqBy (fun x y : Oxm => x == y) a.mat b.mat && eqBy Inst.same a.insts b.insts)))) := rfl
 obtain ⟨z1, hz1⟩ : ∃ z, eqBy (fun x y : Oxm => x == y) a.mat b.mat = z := ⟨_, rfl⟩
 obtain ⟨z2, hz2⟩ : ∃ z, eqBy Inst.same a.insts b.insts = z := ⟨_, rfl⟩
 rw [hz1] at ms e
 rw [hz2] at is e
 rw [fmNums_eq] at e
 unfold oxmS instS at *
 unfold FlowMod.enc at *
 clear hz1 hz2
 refine FnP.intro Tryz.func35 rfl rfl fun G w => ?_
 repeat' (first | apply WK.seq | (refine hQ.h _ _ ?_; clear hQ hA) | (refine Fork.mk (fun h => ?_) (fun h => ?_) <;> (first | (simp [*] at h; done) | (have h2 := h; simp at h2; exfalso; omega) | (have h2 := h; simp at h2; try simp only [Bool.not_eq_true', Bool.not_eq_false'] at h) | skip)) | (refine WK.rH Tryz.ntmps35 (by kernel_rfl) ?_; intro A hA Q hQ; simp [*]) | (refine RunQ.gd rfl (by rw [hA.h]; rfl) ?_; simp [*]) | (refine RunQW.k rfl rfl rfl rfl ?_ (ms) ?_ ?_ <;> simp (maxDischargeDepth := 120) [*] <;> refine ⟨?_⟩) | (refine RunQW.k rfl rfl rfl rfl ?_ (is) ?_ ?_ <;> simp (maxDischargeDepth := 120) [*] <;> refine ⟨?_⟩) | (refine WK.ret Tryz.func35 ?_ ?_ <;> simp (maxDischargeDepth := 120) [Tryz.results35, *]))
set_option maxHeartbeats 4000000 in
theorem rfmenc_c (m : FlowMod) (hm : FmB m) : FnT Tryz.prog 25 [.agg m.enc] (fmEnc m).1.length 1 (byL (fmEnc m).1) [.int .i64 (fmEnc m).2] := by
 have r := rfmright_c m hm
 cases hr : fmRight m
 · have e := fmEnc_bad hr
   rw [hr] at r
   rw [e]
   unfold FlowMod.enc at *
   clear e hr
   refine FnT.intro Tryz.func25 rfl rfl fun G w => ?_
   repeat' (first | apply WK.seq | refine WK.cT rfl ?_ | (refine hQ.h _ _ ?_; clear hQ hA) | (refine WK.rH Tryz.ntmps25 (by kernel_rfl) ?_; intro A hA Q hQ; simp [*]) | (refine RunQ.k rfl rfl rfl rfl rfl ?_ (r) ?_ ?_ <;> simp (maxDischargeDepth := 120) [*] <;> refine ⟨?_⟩))
   refine WK.ghost (Ghost.own 2 900 1 rfl rfl) ?_
   refine WK.retT2 Tryz.func25 ?_ ?_ ?_ <;> simp (maxDischargeDepth := 120) [Tryz.results25, b0_]
 obtain ⟨hn, hM, hI, _⟩ := fmRight_facts hr
 have e : (fmEnc m) = (fmHead m ++ ((mEnc m.mat).1 ++ (inEnc m.insts).1), 0) := by unfold fmEnc; rw [if_pos hr]
 rw [hr] at r
 have me := rmencP_c m.mat hm.mat
 have ie := riencP_c m.insts hm.insts hm.acts
 have hMl := mEnc_len m.mat
 have hIl := inEnc_len m.insts
 rw [hM] at me
 rw [hI] at ie
 have w1 := rwput_c [] ⟨0#64, m.cookie⟩ 8 (by omega) (by simp)
 rw [wPut_beN _ _ _ (by omega), wN_lo, List.nil_append] at w1
 have w2 := rwput_c (beN m.cookie.toNat 8) ⟨0#64, m.cookieMask⟩ 8 (by omega) (by simp [beN_len])
 rw [wPut_beN _ _ _ (by omega), wN_lo] at w2
 have hA0 : fmAcc m 0 = beN m.cookie.toNat 8 ++ beN m.cookieMask.toNat 8 := by unfold fmAcc fmFront nsEnc; simp
 rw [← hA0] at w2
 have h0l : (fmAcc m 0).length = 16 := by rw [hA0, List.length_append, beN_len, beN_len]
 have hcl : (beN m.cookie.toNat 8).length = 8 := beN_len _ _
 have hok : ∀ i, i < 9 → numOk (nth (fmNums m) i) (nth fmSizes i) = true := fun i hi => by
   have := hn _ (nth_mem (l := fmZip m) (i := i) hi)
   rw [fmZip_at m hi] at this; exact this
 have step : ∀ i, i < 9 → ∀ n : Int, n = nth (fmNums m) i → ∀ s : Nat, s = nth fmSizes i → Sz s → FnO Tryz.prog 24 [byS (fmAcc m i), .int .i64 n, .int .i64 s] (fmAcc m (i + 1)).length 1 (byL (fmAcc m (i + 1))) := fun i hi n hn s hs hz => by
   subst hn hs
   have hl := fmAcc_len m i
   have c := rput_c (fmAcc m i) (nth (fmNums m) i) (nth fmSizes i) hz (by omega)
   rwa [putN_beN (hok i hi), ← fmAcc_succ m hi] at c
 have len : ∀ i, i < 9 → ∀ k, (fmAcc m i).length = k → (fmAcc m (i + 1)).length = k + nth fmSizes i := fun i hi k hk => by rw [fmAcc_succ m hi, List.length_append, beN_len, hk]
 have l1 : (fmAcc m 1).length = 17 := len 0 (by omega) 16 h0l
 have l2 : (fmAcc m 2).length = 18 := len 1 (by omega) 17 l1
 have l3 : (fmAcc m 3).length = 20 := len 2 (by omega) 18 l2
 have l4 : (fmAcc m 4).length = 22 := len 3 (by omega) 20 l3
 have l5 : (fmAcc m 5).length = 24 := len 4 (by omega) 22 l4
 have l6 : (fmAcc m 6).length = 28 := len 5 (by omega) 24 l5
 have l7 : (fmAcc m 7).length = 32 := len 6 (by omega) 28 l6
 have l8 : (fmAcc m 8).length = 36 := len 7 (by omega) 32 l7
 have c1 := step 0 (by omega) m.table rfl 1 rfl Sz1
 have c2 := step 1 (by omega) m.command rfl 1 rfl Sz1
 have c3 := step 2 (by omega) m.idle rfl 2 rfl Sz2
 have c4 := step 3 (by omega) m.hard rfl 2 rfl Sz2
 have c5 := step 4 (by omega) m.prio rfl 2 rfl Sz2
 have c6 := step 5 (by omega) m.buffer rfl 4 rfl Sz4
 have c7 := step 6 (by omega) m.outPort rfl 4 rfl Sz4
 have c8 := step 7 (by omega) m.outGroup rfl 4 rfl Sz4
 have c9 := step 8 (by omega) m.flags rfl 2 rfl Sz2
 obtain ⟨hAll, hAl⟩ := fmAcc_all m
 simp only [Nat.zero_add, Nat.reduceAdd] at c1 c2 c3 c4 c5 c6 c7 c8 c9
 obtain ⟨C8, hC8⟩ : ∃ C, beN m.cookie.toNat 8 = C := ⟨_, rfl⟩
 rw [hC8] at w1 w2 hcl
 have hcf : (byL C8).take 8 = byL C8 := by_full _ _ hcl.symm
 simp only [byS, oxmS, instS, Wide.enc, uZ_, hcl, h0l, l1, l2, l3, l4, l5, l6, l7, l8, hAl, b0_, List.length_nil] at w1 w2 me ie c1 c2 c3 c4 c5 c6 c7 c8 c9
 have f0 : (byL (fmAcc m 0)).take 16 = byL (fmAcc m 0) := by_full _ _ h0l.symm
 have f1 : (byL (fmAcc m 1)).take 17 = byL (fmAcc m 1) := by_full _ _ l1.symm
 have f2 : (byL (fmAcc m 2)).take 18 = byL (fmAcc m 2) := by_full _ _ l2.symm
 have f3 : (byL (fmAcc m 3)).take 20 = byL (fmAcc m 3) := by_full _ _ l3.symm
 have f4 : (byL (fmAcc m 4)).take 22 = byL (fmAcc m 4) := by_full _ _ l4.symm
 have f5 : (byL (fmAcc m 5)).take 24 = byL (fmAcc m 5) := by_full _ _ l5.symm
 have f6 : (byL (fmAcc m 6)).take 28 = byL (fmAcc m 6) := by_full _ _ l6.symm
 have f7 : (byL (fmAcc m 7)).take 32 = byL (fmAcc m 7) := by_full _ _ l7.symm
 have f8 : (byL (fmAcc m 8)).take 36 = byL (fmAcc m 8) := by_full _ _ l8.symm
 obtain ⟨F0, h0⟩ : ∃ F, fmAcc m 0 = F := ⟨_, rfl⟩
 obtain ⟨F1, h1⟩ : ∃ F, fmAcc m 1 = F := ⟨_, rfl⟩
 obtain ⟨F2, h2⟩ : ∃ F, fmAcc m 2 = F := ⟨_, rfl⟩
 obtain ⟨F3, h3⟩ : ∃ F, fmAcc m 3 = F := ⟨_, rfl⟩
 obtain ⟨F4, h4⟩ : ∃ F, fmAcc m 4 = F := ⟨_, rfl⟩
 obtain ⟨F5, h5⟩ : ∃ F, fmAcc m 5 = F := ⟨_, rfl⟩
 obtain ⟨F6, h6⟩ : ∃ F, fmAcc m 6 = F := ⟨_, rfl⟩
 obtain ⟨F7, h7⟩ : ∃ F, fmAcc m 7 = F := ⟨_, rfl⟩
 obtain ⟨F8, h8⟩ : ∃ F, fmAcc m 8 = F := ⟨_, rfl⟩
 obtain ⟨F, h9⟩ : ∃ F, fmAcc m 9 = F := ⟨_, rfl⟩
 rw [h0] at w2 c1 f0
 rw [h1] at c1 c2 f1
 rw [h2] at c2 c3 f2
 rw [h3] at c3 c4 f3
 rw [h4] at c4 c5 f4
 rw [h5] at c5 c6 f5
 rw [h6] at c6 c7 f6
 rw [h7] at c7 c8 f7
 rw [h8] at c8 c9 f8
 rw [h9] at c9 hAl hAll
 obtain ⟨M, hMM⟩ : ∃ M, (mEnc m.mat).1 = M := ⟨_, rfl⟩
 obtain ⟨I, hII⟩ : ∃ I, (inEnc m.insts).1 = I := ⟨_, rfl⟩
 rw [hMM] at me e hMl
 rw [hII] at ie e hIl
 rw [← hAll] at e
 rw [e]
 have hA2 : byL F ++ [AV.int .u8 0, AV.int .u8 0] = byL (F ++ [0#8, 0#8]) := by rw [byL_app, z2L]
 have hA2l : (F ++ [0#8, 0#8]).length = 40 := by rw [List.length_append, hAl]; rfl
 obtain ⟨H, hH⟩ : ∃ H, F ++ [0#8, 0#8] = H := ⟨_, rfl⟩
 rw [hH] at hA2 hA2l ⊢
 have hA3 : byL H ++ byL M = byL (H ++ M) := (byL_app _ _).symm
 have hA3l : (H ++ M).length = 40 + M.length := by rw [List.length_append, hA2l]
 have hE : H ++ (M ++ I) = (H ++ M) ++ I := (List.append_assoc _ _ _).symm
 rw [hE]
 obtain ⟨K, hK⟩ : ∃ K, H ++ M = K := ⟨_, rfl⟩
 rw [hK] at hA3 hA3l ⊢
 have hA4 : byL K ++ byL I = byL (K ++ I) := (byL_app _ _).symm
 have hA4l : (K ++ I).length = 40 + M.length + I.length := by rw [List.length_append, hA3l]
 obtain ⟨E, hEE⟩ : ∃ E, K ++ I = E := ⟨_, rfl⟩
 rw [hEE] at hA4 hA4l ⊢
 have hfM := by_full M M.length rfl
 have hfI := by_full I I.length rfl
 have hb1 : 40 + M.length ≤ 140737488355328 := by omega
 have hb2 : 40 + M.length + I.length ≤ 140737488355328 := by omega
 simp only
 rw [hA4l]
 clear e hm hr hn hM hI hA0 hC8 hAll hMM hII hok step len l1 l2 l3 l4 l5 l6 l7 l8 h0l h0 h1 h2 h3 h4 h5 h6 h7 h8 h9 hH hE hK hEE hMl hIl hA4l
 unfold FlowMod.enc at *
 refine FnT.intro Tryz.func25 rfl rfl fun G w => ?_
 repeat' (first | apply WK.seq | apply WK.skip | refine WK.cF rfl ?_ | (refine hQ.h _ _ ?_; clear hQ hA) | (refine WK.rH (id := 0) Tryz.ntmps25 (by kernel_rfl) ?_; intro A hA Q hQ; simp [*]) | (refine WK.rH (id := 1) Tryz.ntmps25 (by kernel_rfl) ?_; intro A hA Q hQ; simp [*]) | (refine WK.rH (id := 2) Tryz.ntmps25 (by kernel_rfl) ?_; intro A hA Q hQ; simp [*]) | (refine WK.rH (id := 3) Tryz.ntmps25 (by kernel_rfl) ?_; intro A hA Q hQ; simp [*]) | (refine WK.rX (id := 0) (by kernel_rfl) Tryz.ntmps25 (by kernel_rfl) ?_; intro A hA Q hQ; simp [*]) | (refine WK.rX (id := 1) (by kernel_rfl) Tryz.ntmps25 (by kernel_rfl) ?_; intro A hA Q hQ; simp [*]) | (refine WK.rX (id := 2) (by kernel_rfl) Tryz.ntmps25 (by kernel_rfl) ?_; intro A hA Q hQ; simp [*]) | (refine WK.rX (id := 3) (by kernel_rfl) Tryz.ntmps25 (by kernel_rfl) ?_; intro A hA Q hQ; simp [*]) | (refine hQ.h _ _ _ (by decide +kernel) ?_; clear hQ hA) | (refine RunX.callO 900 rfl rfl rfl rfl ?_ (w1) ?_ ?_ ?_ ?_; (focus (simp (maxDischargeDepth := 120) [*]; done)); (focus (simp [*]; done)); (focus (simp [*]; done)); (focus (simp [*]; done)); refine RunX.e ?_; simp [*]) | (refine RunX.callOz 901 15 1 rfl rfl rfl rfl rfl rfl ?_ (w2) ?_ ?_ (by simp) (by decide) ?_; (focus (simp (maxDischargeDepth := 120) [*]; done)); (focus (simp [*]; done)); (focus (simp [*]; done)); refine RunX.e ?_; simp [*]) | (refine RunQ.k rfl rfl rfl rfl rfl ?_ (r) ?_ ?_ <;> simp (maxDischargeDepth := 120) [*] <;> refine ⟨?_⟩))
 repeat' (first | apply WK.seq | (refine WK.rX (id := 0) (by kernel_rfl) Tryz.ntmps25 (by kernel_rfl) ?_; intro A hA Q hQ; simp [*]) | (refine WK.rX (id := 1) (by kernel_rfl) Tryz.ntmps25 (by kernel_rfl) ?_; intro A hA Q hQ; simp [*]) | (refine WK.rX (id := 2) (by kernel_rfl) Tryz.ntmps25 (by kernel_rfl) ?_; intro A hA Q hQ; simp [*]) | (refine WK.rX (id := 3) (by kernel_rfl) Tryz.ntmps25 (by kernel_rfl) ?_; intro A hA Q hQ; simp [*]) | (refine WK.rX (id := 4) (by kernel_rfl) Tryz.ntmps25 (by kernel_rfl) ?_; intro A hA Q hQ; simp [*]) | (refine hQ.h _ _ _ (by decide +kernel) ?_; clear hQ hA) | (refine RunX.callOz 902 20 1 rfl rfl rfl rfl rfl rfl ?_ (c1) ?_ ?_ (by simp) (by decide) ?_; (focus (simp (maxDischargeDepth := 120) [*]; done)); (focus (simp [*]; done)); (focus (simp [*]; done)); refine RunX.e ?_; simp [*]) | (refine RunX.callOz 903 23 1 rfl rfl rfl rfl rfl rfl ?_ (c2) ?_ ?_ (by simp) (by decide) ?_; (focus (simp (maxDischargeDepth := 120) [*]; done)); (focus (simp [*]; done)); (focus (simp [*]; done)); refine RunX.e ?_; simp [*]))
 repeat' (first | apply WK.seq | (refine WK.rX (id := 0) (by kernel_rfl) Tryz.ntmps25 (by kernel_rfl) ?_; intro A hA Q hQ; simp [*]) | (refine WK.rX (id := 1) (by kernel_rfl) Tryz.ntmps25 (by kernel_rfl) ?_; intro A hA Q hQ; simp [*]) | (refine WK.rX (id := 2) (by kernel_rfl) Tryz.ntmps25 (by kernel_rfl) ?_; intro A hA Q hQ; simp [*]) | (refine WK.rX (id := 3) (by kernel_rfl) Tryz.ntmps25 (by kernel_rfl) ?_; intro A hA Q hQ; simp [*]) | (refine WK.rX (id := 4) (by kernel_rfl) Tryz.ntmps25 (by kernel_rfl) ?_; intro A hA Q hQ; simp [*]) | (refine WK.rX (id := 5) (by kernel_rfl) Tryz.ntmps25 (by kernel_rfl) ?_; intro A hA Q hQ; simp [*]) | (refine hQ.h _ _ _ (by decide +kernel) ?_; clear hQ hA) | (refine RunX.callOz 904 27 1 rfl rfl rfl rfl rfl rfl ?_ (c3) ?_ ?_ (by simp) (by decide) ?_; (focus (simp (maxDischargeDepth := 120) [*]; done)); (focus (simp [*]; done)); (focus (simp [*]; done)); refine RunX.e ?_; simp [*]) | (refine RunX.callOz 905 30 1 rfl rfl rfl rfl rfl rfl ?_ (c4) ?_ ?_ (by simp) (by decide) ?_; (focus (simp (maxDischargeDepth := 120) [*]; done)); (focus (simp [*]; done)); (focus (simp [*]; done)); refine RunX.e ?_; simp [*]) | (refine RunX.callOz 906 33 1 rfl rfl rfl rfl rfl rfl ?_ (c5) ?_ ?_ (by simp) (by decide) ?_; (focus (simp (maxDischargeDepth := 120) [*]; done)); (focus (simp [*]; done)); (focus (simp [*]; done)); refine RunX.e ?_; simp [*]))
 repeat' (first | apply WK.seq | (refine WK.rX (id := 0) (by kernel_rfl) Tryz.ntmps25 (by kernel_rfl) ?_; intro A hA Q hQ; simp [*]) | (refine WK.rX (id := 1) (by kernel_rfl) Tryz.ntmps25 (by kernel_rfl) ?_; intro A hA Q hQ; simp [*]) | (refine WK.rX (id := 2) (by kernel_rfl) Tryz.ntmps25 (by kernel_rfl) ?_; intro A hA Q hQ; simp [*]) | (refine WK.rX (id := 3) (by kernel_rfl) Tryz.ntmps25 (by kernel_rfl) ?_; intro A hA Q hQ; simp [*]) | (refine WK.rX (id := 4) (by kernel_rfl) Tryz.ntmps25 (by kernel_rfl) ?_; intro A hA Q hQ; simp [*]) | (refine WK.rX (id := 5) (by kernel_rfl) Tryz.ntmps25 (by kernel_rfl) ?_; intro A hA Q hQ; simp [*]) | (refine WK.rX (id := 6) (by kernel_rfl) Tryz.ntmps25 (by kernel_rfl) ?_; intro A hA Q hQ; simp [*]) | (refine hQ.h _ _ _ (by decide +kernel) ?_; clear hQ hA) | (refine RunX.callOz 907 37 1 rfl rfl rfl rfl rfl rfl ?_ (c6) ?_ ?_ (by simp) (by decide) ?_; (focus (simp (maxDischargeDepth := 120) [*]; done)); (focus (simp [*]; done)); (focus (simp [*]; done)); refine RunX.e ?_; simp [*]) | (refine RunX.callOz 908 40 1 rfl rfl rfl rfl rfl rfl ?_ (c7) ?_ ?_ (by simp) (by decide) ?_; (focus (simp (maxDischargeDepth := 120) [*]; done)); (focus (simp [*]; done)); (focus (simp [*]; done)); refine RunX.e ?_; simp [*]) | (refine RunX.callOz 909 43 1 rfl rfl rfl rfl rfl rfl ?_ (c8) ?_ ?_ (by simp) (by decide) ?_; (focus (simp (maxDischargeDepth := 120) [*]; done)); (focus (simp [*]; done)); (focus (simp [*]; done)); refine RunX.e ?_; simp [*]))
 repeat' (first | apply WK.seq | (refine hQ.h _ _ ?_; clear hQ hA) | (refine WK.rH Tryz.ntmps25 (by kernel_rfl) ?_; intro A hA Q hQ; simp [*]) | (refine RunQ.callOz 910 47 1 rfl rfl rfl rfl rfl rfl rfl ?_ (c9) ?_ ?_ (by simp) (by decide) ?_; (focus (simp (maxDischargeDepth := 120) [*]; done)); (focus (simp [*]; done)); (focus (simp [*]; done)); refine RunQ.e ?_; simp [*]) | (refine RunQ.append 911 appByte rfl rfl rfl rfl rfl rfl rfl rfl rfl ?_ ?_ ?_ ?_ ?_; (focus (first | omega | (simp [*]; done); done)); (focus (first | omega | (simp [*]; done); done)); (focus (first | omega | (simp [*]; done); done)); (focus (first | omega | (simp [*]; done); done)); refine RunQ.e ?_; simp [*]) | (refine RunQ.append 912 appByte rfl rfl rfl rfl rfl rfl rfl rfl rfl ?_ ?_ ?_ ?_ ?_; (focus (first | omega | (simp [*]; done); done)); (focus (first | omega | (simp [*]; done); done)); (focus (first | omega | (simp [*]; done); done)); (focus (first | omega | (simp [*]; done); done)); refine RunQ.e ?_; simp [*]) | (refine RunQ.append 913 appByte rfl rfl rfl rfl rfl rfl rfl rfl rfl ?_ ?_ ?_ ?_ ?_; (focus (first | omega | (simp [*]; done); done)); (focus (first | omega | (simp [*]; done); done)); (focus (first | omega | (simp [*]; done); done)); (focus (first | omega | (simp [*]; done); done)); refine RunQ.e ?_; simp [*]) | (refine RunQ.k rfl rfl rfl rfl rfl ?_ (me) ?_ ?_ <;> simp (maxDischargeDepth := 120) [*] <;> refine ⟨?_⟩) | (refine RunQ.k rfl rfl rfl rfl rfl ?_ (ie) ?_ ?_ <;> simp (maxDischargeDepth := 120) [*] <;> refine ⟨?_⟩) | (refine WK.retT2 Tryz.func25 ?_ ?_ ?_ <;> simp (maxDischargeDepth := 120) [Tryz.results25, *]))
theorem rfmencP_c (m : FlowMod) (hm : FmB m) : FnP Tryz.prog 25 [.agg m.enc] (.tup [byS (fmEnc m).1, .int .i64 (fmEnc m).2]) := by
 have h := (rfmenc_c m hm).toP (by simp [byL_take]) (by rfl)
 rwa [Nat.mul_one, by_full _ _ rfl] at h

set_option maxHeartbeats 4000000 in
theorem rhead_c (k x : Int) (b : List (BitVec 8)) (hb : b.length ≤ 1000000) : FnT Tryz.prog 27 [.int .i64 k, .int .i64 x, byS b] (frHead k x b).1.length 1 (byL (frHead k x b).1) [.int .i64 (frHead k x b).2] := by
 have r1 := rright_c k 1 Sz1
 have r4 := rright_c x 4 Sz4
 unfold byS
 by_cases hh : (numOk k 1 && numOk x 4) = true ∧ b.length ≤ 65527
 case neg =>
   have e : frHead k x b = ([], 1) := by unfold frHead; rw [if_neg hh]
   rw [e]
   cases h1 : numOk k 1
   · rw [h1] at r1
     clear r4 hh e
     refine FnT.intro Tryz.func27 rfl rfl fun G w => ?_
     repeat' (first | apply WK.seq | refine WK.cT rfl ?_ | (refine hQ.h _ _ ?_; clear hQ hA) | (refine WK.rH Tryz.ntmps27 (by kernel_rfl) ?_; intro A hA Q hQ; simp [*]) | (refine RunQ.gd rfl (by rw [hA.h]; rfl) ?_; simp [*]) | (refine RunQ.k rfl rfl rfl rfl rfl ?_ (r1) ?_ ?_ <;> simp (maxDischargeDepth := 120) [*] <;> refine ⟨?_⟩))
     refine WK.ghost (Ghost.own 6 900 1 rfl rfl) ?_
     refine WK.retT2 Tryz.func27 ?_ ?_ ?_ <;> simp (maxDischargeDepth := 120) [Tryz.results27, b0_]
   cases h2 : numOk x 4
   · rw [h1] at r1
     rw [h2] at r4
     clear hh e
     refine FnT.intro Tryz.func27 rfl rfl fun G w => ?_
     repeat' (first | apply WK.seq | refine WK.cT rfl ?_ | (refine hQ.h _ _ ?_; clear hQ hA) | (refine WK.rH Tryz.ntmps27 (by kernel_rfl) ?_; intro A hA Q hQ; simp [*]) | (refine RunQ.gd rfl (by rw [hA.h]; rfl) ?_; simp [*]) | (refine RunQ.k rfl rfl rfl rfl rfl ?_ (r1) ?_ ?_ <;> simp (maxDischargeDepth := 120) [*] <;> refine ⟨?_⟩) | (refine RunQ.k rfl rfl rfl rfl rfl ?_ (r4) ?_ ?_ <;> simp (maxDischargeDepth := 120) [*] <;> refine ⟨?_⟩) | (refine RunQW.k rfl rfl rfl rfl ?_ (r1) ?_ ?_ <;> simp (maxDischargeDepth := 120) [*] <;> refine ⟨?_⟩) | (refine RunQW.k rfl rfl rfl rfl ?_ (r4) ?_ ?_ <;> simp (maxDischargeDepth := 120) [*] <;> refine ⟨?_⟩))
     refine WK.ghost (Ghost.own 6 900 1 rfl rfl) ?_
     refine WK.retT2 Tryz.func27 ?_ ?_ ?_ <;> simp (maxDischargeDepth := 120) [Tryz.results27, b0_]
   have h3 : 65527 < b.length := by
     rcases Nat.lt_or_ge 65527 b.length with h | h
     · exact h
     · exact absurd ⟨by rw [h1, h2]; rfl, h⟩ hh
   have h3' : (65527 : Int) < b.length := by omega
   rw [h1] at r1
   rw [h2] at r4
   clear hh e
   refine FnT.intro Tryz.func27 rfl rfl fun G w => ?_
   repeat' (first | apply WK.seq | refine WK.cT rfl ?_ | (refine hQ.h _ _ ?_; clear hQ hA) | (refine WK.rH Tryz.ntmps27 (by kernel_rfl) ?_; intro A hA Q hQ; simp [*]) | (refine RunQ.gd rfl (by rw [hA.h]; rfl) ?_; simp [*]) | (refine RunQ.k rfl rfl rfl rfl rfl ?_ (r1) ?_ ?_ <;> simp (maxDischargeDepth := 120) [*] <;> refine ⟨?_⟩) | (refine RunQ.k rfl rfl rfl rfl rfl ?_ (r4) ?_ ?_ <;> simp (maxDischargeDepth := 120) [*] <;> refine ⟨?_⟩) | (refine RunQW.k rfl rfl rfl rfl ?_ (r1) ?_ ?_ <;> simp (maxDischargeDepth := 120) [*] <;> refine ⟨?_⟩) | (refine RunQW.k rfl rfl rfl rfl ?_ (r4) ?_ ?_ <;> simp (maxDischargeDepth := 120) [*] <;> refine ⟨?_⟩))
   refine WK.ghost (Ghost.own 6 900 1 rfl rfl) ?_
   refine WK.retT2 Tryz.func27 ?_ ?_ ?_ <;> simp (maxDischargeDepth := 120) [Tryz.results27, b0_]
 have e : frHead k x b = (beN 4 1 ++ (beN k 1 ++ (beN (8 + b.length : Nat) 2 ++ (beN x 4 ++ b))), 0) := by unfold frHead; rw [if_pos hh]
 obtain ⟨h12, h3⟩ := hh
 rw [Bool.and_eq_true] at h12
 obtain ⟨h1, h2⟩ := h12
 rw [h1] at r1
 rw [h2] at r4
 have c1 := rput_c [] 4 1 Sz1 (by simp)
 rw [putN_beN (n := 4) (s := 1) (by decide), List.nil_append] at c1
 have c2 := rput_c (beN 4 1) k 1 Sz1 (by simp [beN_len])
 rw [putN_beN h1] at c2
 have c3 := rput_c (beN 4 1 ++ beN k 1) ((8 + b.length : Nat) : Int) 2 Sz2 (by simp [beN_len])
 rw [putN_beN (numOk2 (by omega))] at c3
 have c4 := rput_c (beN 4 1 ++ beN k 1 ++ beN ((8 + b.length : Nat) : Int) 2) x 4 Sz4 (by simp [beN_len])
 rw [putN_beN h2] at c4
 have l1 : (beN 4 1).length = 1 := beN_len _ _
 have l2 : (beN 4 1 ++ beN k 1).length = 2 := by simp [beN_len]
 have l3 : (beN 4 1 ++ beN k 1 ++ beN ((8 + b.length : Nat) : Int) 2).length = 4 := by simp [beN_len]
 have l4 : (beN 4 1 ++ beN k 1 ++ beN ((8 + b.length : Nat) : Int) 2 ++ beN x 4).length = 8 := by simp [beN_len]
 have hE : beN 4 1 ++ (beN k 1 ++ (beN (8 + b.length : Nat) 2 ++ (beN x 4 ++ b))) = beN 4 1 ++ beN k 1 ++ beN ((8 + b.length : Nat) : Int) 2 ++ beN x 4 ++ b := by simp only [List.append_assoc]
 rw [e, hE]
 obtain ⟨F1, hF1⟩ : ∃ F, beN 4 1 = F := ⟨_, rfl⟩
 rw [hF1] at c1 c2 c3 c4 l1 l2 l3 l4 ⊢
 obtain ⟨F2, hF2⟩ : ∃ F, F1 ++ beN k 1 = F := ⟨_, rfl⟩
 rw [hF2] at c2 c3 c4 l2 l3 l4 ⊢
 obtain ⟨F3, hF3⟩ : ∃ F, F2 ++ beN ((8 + b.length : Nat) : Int) 2 = F := ⟨_, rfl⟩
 rw [hF3] at c3 c4 l3 l4 ⊢
 obtain ⟨F4, hF4⟩ : ∃ F, F3 ++ beN x 4 = F := ⟨_, rfl⟩
 rw [hF4] at c4 l4 ⊢
 have f1 : (byL F1).take 1 = byL F1 := by_full _ _ l1.symm
 have f2 : (byL F2).take 2 = byL F2 := by_full _ _ l2.symm
 have f3 : (byL F3).take 4 = byL F3 := by_full _ _ l3.symm
 have hfb := by_full b b.length rfl
 have hG : byL F4 ++ byL b = byL (F4 ++ b) := (byL_app _ _).symm
 have hGl : (F4 ++ b).length = 8 + b.length := by rw [List.length_append, l4]
 obtain ⟨H, hH⟩ : ∃ H, F4 ++ b = H := ⟨_, rfl⟩
 rw [hH] at hG hGl ⊢
 have w8 : IntKind.i64.wrap (8 + (b.length : Int)) = 8 + (b.length : Int) := wrap_i64 (by omega) (by omega)
 have h3' : ¬ (65527 : Int) < b.length := by omega
 have hbd : 8 + b.length ≤ 140737488355328 := by omega
 unfold byS at c1 c2 c3 c4
 simp only [l1, l2, l3, b0_, List.length_nil] at c1 c2 c3 c4
 rw [hGl]
 simp only
 clear e hE hF1 hF2 hF3 hF4 hH hGl l1 l2 l3 h1 h2
 refine FnT.intro Tryz.func27 rfl rfl fun G w => ?_
 repeat' (first | apply WK.seq | apply WK.skip | refine WK.cF rfl ?_ | (refine hQ.h _ _ ?_; clear hQ hA) | (refine WK.rH Tryz.ntmps27 (by kernel_rfl) ?_; intro A hA Q hQ; simp [*]) | (refine RunQ.gd rfl (by rw [hA.h]; rfl) ?_; simp [*]) | (refine RunQ.callO 900 rfl rfl rfl rfl rfl ?_ (c1) ?_ ?_ ?_ ?_; (focus (simp (maxDischargeDepth := 120) [*]; done)); (focus (simp [*]; done)); (focus (simp [*]; done)); (focus (simp [*]; done)); refine RunQ.e ?_; simp [*]) | (refine RunQ.callOz 901 22 1 rfl rfl rfl rfl rfl rfl rfl ?_ (c2) ?_ ?_ (by simp) (by decide) ?_; (focus (simp (maxDischargeDepth := 120) [*]; done)); (focus (simp [*]; done)); (focus (simp [*]; done)); refine RunQ.e ?_; simp [*]) | (refine RunQ.callOz 902 25 1 rfl rfl rfl rfl rfl rfl rfl ?_ (c3) ?_ ?_ (by simp) (by decide) ?_; (focus (simp (maxDischargeDepth := 120) [*]; done)); (focus (simp [*]; done)); (focus (simp [*]; done)); refine RunQ.e ?_; simp [*]) | (refine RunQ.callOz 903 29 1 rfl rfl rfl rfl rfl rfl rfl ?_ (c4) ?_ ?_ (by simp) (by decide) ?_; (focus (simp (maxDischargeDepth := 120) [*]; done)); (focus (simp [*]; done)); (focus (simp [*]; done)); refine RunQ.e ?_; simp [*]) | (refine RunQ.append 904 appByte rfl rfl rfl rfl rfl rfl rfl rfl rfl ?_ ?_ ?_ ?_ ?_; (focus (first | omega | (simp [*]; done); done)); (focus (first | omega | (simp [*]; done); done)); (focus (first | omega | (simp [*]; done); done)); (focus (first | omega | (simp [*]; done); done)); refine RunQ.e ?_; simp [*]) | (refine RunQ.k rfl rfl rfl rfl rfl ?_ (r1) ?_ ?_ <;> simp (maxDischargeDepth := 120) [*] <;> refine ⟨?_⟩) | (refine RunQ.k rfl rfl rfl rfl rfl ?_ (r4) ?_ ?_ <;> simp (maxDischargeDepth := 120) [*] <;> refine ⟨?_⟩) | (refine RunQW.k rfl rfl rfl rfl ?_ (r1) ?_ ?_ <;> simp (maxDischargeDepth := 120) [*] <;> refine ⟨?_⟩) | (refine RunQW.k rfl rfl rfl rfl ?_ (r4) ?_ ?_ <;> simp (maxDischargeDepth := 120) [*] <;> refine ⟨?_⟩) | (refine WK.retT2 Tryz.func27 ?_ ?_ ?_ <;> simp (maxDischargeDepth := 120) [Tryz.results27, *]))
theorem rbytesEq_c (l m : List (BitVec 8)) : FnP Tryz.prog 34 [byS l, byS m] (.bool (l == m)) := by
 have e := bStr_eq l m
 unfold byS
 refine FnP.intro Tryz.func34 rfl rfl fun G w => ?_
 repeat' (first | apply WK.seq | (refine hQ.h _ _ ?_; clear hQ hA) | (refine WK.rH Tryz.ntmps34 (by kernel_rfl) ?_; intro A hA Q hQ; simp [*]) | (refine RunQ.bytesStr (l.map bI) bsOk rfl rfl rfl rfl ?_ ?_ ?_; (focus (simp [byL]; done)); (focus (simp; done)); refine RunQ.e ?_; simp [*]) | (refine RunQ.bytesStr (m.map bI) bsOk rfl rfl rfl rfl ?_ ?_ ?_; (focus (simp [byL]; done)); (focus (simp; done)); refine RunQ.e ?_; simp [*]) | (refine WK.ret Tryz.func34 ?_ ?_ <;> simp (maxDischargeDepth := 120) [Tryz.results34, *]))
set_option maxHeartbeats 8000000 in
theorem rmgsame_c (a b : Msg) (ha : MsB a) : FnP Tryz.prog 15 [.agg a.enc, .agg b.enc] (.bool (Msg.same a b)) := by
 have fs := rfmsame_c a.flow b.flow ha.flow
 have gs := rgsame_c a.group b.group ha.group
 have bs := rbytesEq_c a.data b.data
 have e : Msg.same a b = (a.kind == b.kind && (a.xid == b.xid && (a.fault == b.fault && (a.data == b.data && (FlowMod.same a.flow b.flow && GroupMod.same a.group b.group))))) := rfl
 rw [flt_eq] at e
 obtain ⟨S, hS⟩ : ∃ S, Msg.same a b = S := ⟨_, rfl⟩
 rw [hS] at e ⊢
 clear hS
 obtain ⟨k, x, fl, gr, fa, d⟩ := a
 obtain ⟨k', x', fl', gr', fa', d'⟩ := b
 simp only at fs gs bs e
 obtain ⟨z1, hz1⟩ : ∃ z, FlowMod.same fl fl' = z := ⟨_, rfl⟩
 obtain ⟨z2, hz2⟩ : ∃ z, GroupMod.same gr gr' = z := ⟨_, rfl⟩
 obtain ⟨z3, hz3⟩ : ∃ z, (d == d') = z := ⟨_, rfl⟩
 rw [hz1] at fs e
 rw [hz2] at gs e
 rw [hz3] at bs e
 unfold byS at bs
 unfold FlowMod.enc at fs
 unfold GroupMod.enc at gs
 clear hz1 hz2 hz3 ha
 refine FnP.intro Tryz.func15 rfl rfl fun G w => ?_
 repeat' (first | apply WK.seq | (refine hQ.h _ _ ?_; clear hQ hA) | (refine Fork.mk (fun h => ?_) (fun h => ?_) <;> (first | (simp [*] at h; done) | (have h2 := h; simp at h2; exfalso; omega) | (have h2 := h; simp at h2; try simp only [Bool.not_eq_true', Bool.not_eq_false'] at h) | skip)) | (refine WK.rH Tryz.ntmps15 (by kernel_rfl) ?_; intro A hA Q hQ; simp [Msg.enc, FlowMod.enc, GroupMod.enc, Flt.enc, *]) | (refine RunQ.gd rfl (by rw [hA.h]; rfl) ?_; simp [Msg.enc, FlowMod.enc, GroupMod.enc, Flt.enc, *]) | (refine RunQW.k rfl rfl rfl rfl ?_ (fs) ?_ ?_ <;> simp (maxDischargeDepth := 120) [Msg.enc, FlowMod.enc, GroupMod.enc, Flt.enc, *] <;> refine ⟨?_⟩) | (refine RunQW.k rfl rfl rfl rfl ?_ (gs) ?_ ?_ <;> simp (maxDischargeDepth := 120) [Msg.enc, FlowMod.enc, GroupMod.enc, Flt.enc, *] <;> refine ⟨?_⟩) | (refine RunQW.k rfl rfl rfl rfl ?_ (bs) ?_ ?_ <;> simp (maxDischargeDepth := 120) [Msg.enc, FlowMod.enc, GroupMod.enc, Flt.enc, *] <;> refine ⟨?_⟩) | (refine WK.ret Tryz.func15 ?_ ?_ <;> simp (maxDischargeDepth := 120) [Tryz.results15, Msg.enc, FlowMod.enc, GroupMod.enc, Flt.enc, *]))
theorem mgRight_long {m : Msg} (h : 60000 < m.data.length) : mgRight m = false := by
 cases hr : mgRight m
 · rfl
 obtain ⟨h1, _, h3⟩ := mgRight_facts hr
 exfalso
 have hk := mgKind_of h1
 unfold mgOk at h1
 by_cases k0 : mgData m.kind = true
 · rw [if_pos k0] at h1
   have := of_decide_eq_true h1; omega
 rw [if_neg k0] at h1
 by_cases k1 : m.kind = 1
 · rw [if_pos k1] at h1
   simp only [Bool.and_eq_true, decide_eq_true_eq] at h1
   omega
 have hd : m.data = [] := by
   rw [h3]
   unfold mgBare
   rw [if_neg k0, if_neg k1]
   split
   · rfl
   split <;> rfl
 rw [hd] at h; simp at h
set_option maxHeartbeats 16000000 in
theorem rmgright_c (m : Msg) (hm : MsB m) : FnP Tryz.prog 13 [.agg m.enc] (.bool (mgRight m)) := by
 have n := rright_c m.xid 4 Sz4
 have s := rmgsame_c m (mgBare m) hm
 have e : mgRight m = (mgOk m && (numOk m.xid 4 && Msg.same m (mgBare m))) := rfl
 obtain ⟨S, hS⟩ : ∃ S, Msg.same m (mgBare m) = S := ⟨_, rfl⟩
 obtain ⟨N, hN⟩ : ∃ S, numOk m.xid 4 = S := ⟨_, rfl⟩
 rw [hS] at s e
 rw [hN] at n e
 clear hS hN
 by_cases hl : 60000 < m.data.length
 · have hl' : (60000 : Int) < m.data.length := by omega
   rw [mgRight_long hl]
   clear e s hm
   unfold Msg.enc
   unfold FlowMod.enc GroupMod.enc Flt.enc
   cases N <;>
   · refine FnP.intro Tryz.func13 rfl rfl fun G w => ?_
     repeat' (first | apply WK.seq | refine WK.cT rfl ?_ | (refine hQ.h _ _ ?_; clear hQ hA) | (refine WK.rH Tryz.ntmps13 (by kernel_rfl) ?_; intro A hA Q hQ; simp [*]) | (refine RunQ.gd rfl (by rw [hA.h]; rfl) ?_; simp [*]) | (refine RunQ.k rfl rfl rfl rfl rfl ?_ (n) ?_ ?_ <;> simp (maxDischargeDepth := 120) [*] <;> refine ⟨?_⟩) | (refine WK.ret Tryz.func13 ?_ ?_ <;> simp (maxDischargeDepth := 120) [Tryz.results13, *]))
 have hl' : ¬ (60000 : Int) < m.data.length := by omega
 cases N
 · rw [Bool.false_and, Bool.and_false] at e
   rw [e]
   clear e s hm
   unfold Msg.enc
   unfold FlowMod.enc GroupMod.enc Flt.enc
   refine FnP.intro Tryz.func13 rfl rfl fun G w => ?_
   repeat' (first | apply WK.seq | refine WK.cT rfl ?_ | (refine hQ.h _ _ ?_; clear hQ hA) | (refine WK.rH Tryz.ntmps13 (by kernel_rfl) ?_; intro A hA Q hQ; simp [*]) | (refine RunQ.gd rfl (by rw [hA.h]; rfl) ?_; simp [*]) | (refine RunQ.k rfl rfl rfl rfl rfl ?_ (n) ?_ ?_ <;> simp (maxDischargeDepth := 120) [*] <;> refine ⟨?_⟩) | (refine WK.ret Tryz.func13 ?_ ?_ <;> simp (maxDischargeDepth := 120) [Tryz.results13, *]))
 rw [Bool.true_and] at e
 have w1 := rright_c m.fault.kind 2 Sz2
 have w2 := rright_c m.fault.code 2 Sz2
 have r3 := rfmright_c m.flow hm.flow
 have r4 := rgright_c m.group hm.group
 obtain ⟨R, hR⟩ : ∃ S, mgRight m = S := ⟨_, rfl⟩
 rw [hR] at e ⊢
 clear hR hm
 obtain ⟨k, x, fl, gr, fa, d⟩ := m
 have hO : mgOk ⟨k, x, fl, gr, fa, d⟩ = if mgData k = true then decide (d.length ≤ 60000) else if k = 1 then fa.is && (numOk fa.kind 2 && (numOk fa.code 2 && decide (d.length ≤ 60000))) else if k = 14 then fmRight fl else if k = 15 then gmRight gr else false := rfl
 have hB : mgBare ⟨k, x, fl, gr, fa, d⟩ = if mgData k = true then { msg0 with kind := k, xid := x, data := d } else if k = 1 then { msg0 with kind := k, xid := x, fault := fa, data := d } else if k = 14 then { msg0 with kind := k, xid := x, flow := fl } else if k = 15 then { msg0 with kind := k, xid := x, group := gr } else { msg0 with kind := k, xid := x } := rfl
 simp only at n w1 w2 r3 r4 hl hl'
 have hd60 : decide (d.length ≤ 60000) = true := by rw [decide_eq_true_eq]; omega
 rw [hd60] at hO
 by_cases k0 : k = 0 ∨ k = 2 ∨ k = 3
 · rw [if_pos (mgData_iff.2 k0)] at hO hB
   rw [hO, Bool.true_and] at e
   rw [hB] at s
   simp only [zM] at s
   clear hO hB w1 w2 r3 r4 hd60 hl
   rcases k0 with rfl | rfl | rfl
   all_goals
     · refine FnP.intro Tryz.func13 rfl rfl fun G w => ?_
       repeat' (first | apply WK.seq | apply WK.block | apply WK.skip | refine WK.cT rfl ?_ | refine WK.cF rfl ?_ | (refine hQ.h _ _ ?_; clear hQ hA) | (refine WK.rH Tryz.ntmps13 (by kernel_rfl) ?_; intro A hA Q hQ; simp [zM, *]) | (refine RunQ.gd rfl (by rw [hA.h]; rfl) ?_; simp [zM, *]) | (refine RunQ.k rfl rfl rfl rfl rfl ?_ (n) ?_ ?_ <;> simp (maxDischargeDepth := 120) [zM, *] <;> refine ⟨?_⟩) | (refine RunQ.k rfl rfl rfl rfl rfl ?_ (s) ?_ ?_ <;> simp (maxDischargeDepth := 120) [zM, *] <;> refine ⟨?_⟩) | (refine WK.ret Tryz.func13 ?_ ?_ <;> simp (maxDischargeDepth := 120) [Tryz.results13, zM, *]))
 have hd : mgData k = false := by cases h : mgData k; rfl; exact absurd (mgData_iff.1 h) k0
 rw [hd, if_neg (by simp)] at hO hB
 by_cases k1 : k = 1
 · subst k1
   rw [if_pos rfl] at hO hB
   rw [hO, Bool.and_true] at e
   rw [hB] at s
   simp only [zM] at s
   obtain ⟨z1, hz1⟩ : ∃ z, numOk fa.kind 2 = z := ⟨_, rfl⟩
   obtain ⟨z2, hz2⟩ : ∃ z, numOk fa.code 2 = z := ⟨_, rfl⟩
   rw [hz1] at w1 e
   rw [hz2] at w2 e
   clear hO hB r3 r4 hd60 hl hz1 hz2
   refine FnP.intro Tryz.func13 rfl rfl fun G w => ?_
   repeat' (first | apply WK.seq | apply WK.block | apply WK.skip | refine WK.cT rfl ?_ | refine WK.cF rfl ?_ | (refine hQ.h _ _ ?_; clear hQ hA) | (refine Fork.mk (fun h => ?_) (fun h => ?_) <;> (first | (simp [*] at h; done) | (have h2 := h; simp at h2; exfalso; omega) | (have h2 := h; simp at h2; try simp only [Bool.not_eq_true', Bool.not_eq_false'] at h) | skip)) | (refine WK.rH Tryz.ntmps13 (by kernel_rfl) ?_; intro A hA Q hQ; simp [zM, *]) | (refine RunQ.gd rfl (by rw [hA.h]; rfl) ?_; simp [zM, *]) | (refine RunQ.k rfl rfl rfl rfl rfl ?_ (n) ?_ ?_ <;> simp (maxDischargeDepth := 120) [zM, *] <;> refine ⟨?_⟩) | (refine RunQW.k rfl rfl rfl rfl ?_ (w1) ?_ ?_ <;> simp (maxDischargeDepth := 120) [zM, *] <;> refine ⟨?_⟩) | (refine RunQW.k rfl rfl rfl rfl ?_ (w2) ?_ ?_ <;> simp (maxDischargeDepth := 120) [zM, *] <;> refine ⟨?_⟩) | (refine RunQW.k rfl rfl rfl rfl ?_ (s) ?_ ?_ <;> simp (maxDischargeDepth := 120) [zM, *] <;> refine ⟨?_⟩) | (refine WK.ret Tryz.func13 ?_ ?_ <;> simp (maxDischargeDepth := 120) [Tryz.results13, zM, *]))
 rw [if_neg k1] at hO hB
 by_cases k14 : k = 14
 · subst k14
   rw [if_pos rfl] at hO hB
   rw [hO] at e
   rw [hB] at s
   simp only [zM] at s
   obtain ⟨z1, hz1⟩ : ∃ z, fmRight fl = z := ⟨_, rfl⟩
   rw [hz1] at r3 e
   unfold FlowMod.enc at r3
   clear hO hB w1 w2 r4 hd60 hl hz1
   refine FnP.intro Tryz.func13 rfl rfl fun G w => ?_
   repeat' (first | apply WK.seq | apply WK.block | apply WK.skip | refine WK.cT rfl ?_ | refine WK.cF rfl ?_ | (refine hQ.h _ _ ?_; clear hQ hA) | (refine Fork.mk (fun h => ?_) (fun h => ?_) <;> (first | (simp [*] at h; done) | (have h2 := h; simp at h2; exfalso; omega) | (have h2 := h; simp at h2; try simp only [Bool.not_eq_true', Bool.not_eq_false'] at h) | skip)) | (refine WK.rH Tryz.ntmps13 (by kernel_rfl) ?_; intro A hA Q hQ; simp [zM, *]) | (refine RunQ.gd rfl (by rw [hA.h]; rfl) ?_; simp [zM, *]) | (refine RunQ.k rfl rfl rfl rfl rfl ?_ (n) ?_ ?_ <;> simp (maxDischargeDepth := 120) [zM, *] <;> refine ⟨?_⟩) | (refine RunQ.k rfl rfl rfl rfl rfl ?_ (r3) ?_ ?_ <;> simp (maxDischargeDepth := 120) [zM, *] <;> refine ⟨?_⟩) | (refine RunQW.k rfl rfl rfl rfl ?_ (s) ?_ ?_ <;> simp (maxDischargeDepth := 120) [zM, *] <;> refine ⟨?_⟩) | (refine WK.ret Tryz.func13 ?_ ?_ <;> simp (maxDischargeDepth := 120) [Tryz.results13, zM, *]))
 rw [if_neg k14] at hO hB
 by_cases k15 : k = 15
 · subst k15
   rw [if_pos rfl] at hO hB
   rw [hO] at e
   rw [hB] at s
   simp only [zM] at s
   obtain ⟨z1, hz1⟩ : ∃ z, gmRight gr = z := ⟨_, rfl⟩
   rw [hz1] at r4 e
   unfold GroupMod.enc at r4
   clear hO hB w1 w2 r3 hd60 hl hz1
   refine FnP.intro Tryz.func13 rfl rfl fun G w => ?_
   repeat' (first | apply WK.seq | apply WK.block | apply WK.skip | refine WK.cT rfl ?_ | refine WK.cF rfl ?_ | (refine hQ.h _ _ ?_; clear hQ hA) | (refine Fork.mk (fun h => ?_) (fun h => ?_) <;> (first | (simp [*] at h; done) | (have h2 := h; simp at h2; exfalso; omega) | (have h2 := h; simp at h2; try simp only [Bool.not_eq_true', Bool.not_eq_false'] at h) | skip)) | (refine WK.rH Tryz.ntmps13 (by kernel_rfl) ?_; intro A hA Q hQ; simp [zM, *]) | (refine RunQ.gd rfl (by rw [hA.h]; rfl) ?_; simp [zM, *]) | (refine RunQ.k rfl rfl rfl rfl rfl ?_ (n) ?_ ?_ <;> simp (maxDischargeDepth := 120) [zM, *] <;> refine ⟨?_⟩) | (refine RunQ.k rfl rfl rfl rfl rfl ?_ (r4) ?_ ?_ <;> simp (maxDischargeDepth := 120) [zM, *] <;> refine ⟨?_⟩) | (refine RunQW.k rfl rfl rfl rfl ?_ (s) ?_ ?_ <;> simp (maxDischargeDepth := 120) [zM, *] <;> refine ⟨?_⟩) | (refine WK.ret Tryz.func13 ?_ ?_ <;> simp (maxDischargeDepth := 120) [Tryz.results13, zM, *]))
 rw [if_neg k15] at hO
 rw [hO, Bool.false_and] at e
 rw [e]
 have j0 : (k == 0) = false := by rw [beq_eq_false_iff_ne]; omega
 have j2 : (k == 2) = false := by rw [beq_eq_false_iff_ne]; omega
 have j3 : (k == 3) = false := by rw [beq_eq_false_iff_ne]; omega
 have j1 : (k == 1) = false := by rw [beq_eq_false_iff_ne]; omega
 have j14 : (k == 14) = false := by rw [beq_eq_false_iff_ne]; omega
 have j15 : (k == 15) = false := by rw [beq_eq_false_iff_ne]; omega
 clear hO hB w1 w2 r3 r4 hd60 hl s e k0 k1 k14 k15 hd
 refine FnP.intro Tryz.func13 rfl rfl fun G w => ?_
 repeat' (first | apply WK.seq | apply WK.block | apply WK.inBlock | apply WK.skip | refine WK.cF rfl ?_ | (refine hQ.h _ _ ?_; clear hQ hA) | (refine WK.rH Tryz.ntmps13 (by kernel_rfl) ?_; intro A hA Q hQ; simp [zM, *]) | (refine RunQ.gd rfl (by rw [hA.h]; rfl) ?_; simp [zM, *]) | (refine RunQ.k rfl rfl rfl rfl rfl ?_ (n) ?_ ?_ <;> simp (maxDischargeDepth := 120) [zM, *] <;> refine ⟨?_⟩) | (refine WK.ret Tryz.func13 ?_ ?_ <;> simp (maxDischargeDepth := 120) [Tryz.results13, zM, *]))
set_option maxHeartbeats 8000000 in
theorem rmgenc_c (m : Msg) (hm : MsB m) : FnT Tryz.prog 10 [.agg m.enc] (mgEnc m).1.length 1 (byL (mgEnc m).1) [.int .i64 (mgEnc m).2] := by
 have r := rmgright_c m hm
 cases hr : mgRight m
 · rw [mgEnc_bad hr]
   rw [hr] at r
   clear hr
   unfold Msg.enc Flt.enc FlowMod.enc GroupMod.enc at *
   refine FnT.intro Tryz.func10 rfl rfl fun G w => ?_
   repeat' (first | apply WK.seq | refine WK.cT rfl ?_ | (refine hQ.h _ _ ?_; clear hQ hA) | (refine WK.rH Tryz.ntmps10 (by kernel_rfl) ?_; intro A hA Q hQ; simp [*]) | (refine RunQ.k rfl rfl rfl rfl rfl ?_ (r) ?_ ?_ <;> simp (maxDischargeDepth := 120) [*] <;> refine ⟨?_⟩))
   refine WK.ghost (Ghost.own 2 900 1 rfl rfl) ?_
   refine WK.retT2 Tryz.func10 ?_ ?_ ?_ <;> simp (maxDischargeDepth := 120) [Tryz.results10, b0_]
 have hok := (mgRight_facts hr).ok
 have hk := mgKind_of hok
 have hbl := mgBody_len hok
 have hd := rhead_c m.kind m.xid (mgBody m) (by omega)
 have eH : mgEnc m = frHead m.kind m.xid (mgBody m) := by unfold mgEnc; rw [if_pos hr]
 rw [eH]
 rw [hr] at r
 have hG : mgBody m = if mgData m.kind = true then m.data else if m.kind = 1 then putN (putN [] m.fault.kind 2) m.fault.code 2 ++ m.data else if m.kind = 14 then (fmEnc m.flow).1 else (gmEnc m.group).1 := rfl
 have b3 := rfmencP_c m.flow hm.flow
 have b4 := rgencP_c m.group hm.group
 have hdl := hm.data
 obtain ⟨R, hR⟩ : ∃ R, frHead m.kind m.xid (mgBody m) = R := ⟨_, rfl⟩
 rw [hR] at hd ⊢
 obtain ⟨R1, R2⟩ := R
 simp only at hd ⊢
 have hfR := by_full R1 R1.length rfl
 clear hR hm hr hok hbl eH
 obtain ⟨k, x, fl, gr, fa, d⟩ := m
 simp only at hd hG b3 b4 hk r hdl
 obtain ⟨G1, hG1⟩ : ∃ G, fmEnc fl = G := ⟨_, rfl⟩
 obtain ⟨G2, hG2⟩ : ∃ G, gmEnc gr = G := ⟨_, rfl⟩
 rw [hG1] at b3 hG
 rw [hG2] at b4 hG
 clear hG1 hG2
 by_cases k0 : mgData k = true
 · rw [if_pos k0] at hG
   rw [hG] at hd
   rw [mgData_iff] at k0
   unfold byS at *
   clear b3 b4 hk hG
   rcases k0 with rfl | rfl | rfl
   all_goals
     · unfold Msg.enc Flt.enc FlowMod.enc GroupMod.enc at *
       refine FnT.intro Tryz.func10 rfl rfl fun G w => ?_
       repeat' (first | apply WK.seq | apply WK.block | apply WK.inBlock | apply WK.skip | refine WK.cF rfl ?_ | (refine hQ.h _ _ ?_; clear hQ hA) | (refine WK.rH Tryz.ntmps10 (by kernel_rfl) ?_; intro A hA Q hQ; simp [*]) | (refine RunQ.callT 900 rfl rfl rfl rfl rfl ?_ (hd) ?_ ?_ ?_ ?_ ?_; (focus (simp (maxDischargeDepth := 120) [*]; done)); (focus (simp [*]; done)); (focus (simp [*]; done)); (focus (simp [*]; done)); (focus (simp [*]; done)); refine RunQ.e ?_; simp [*]) | (refine RunQ.k rfl rfl rfl rfl rfl ?_ (r) ?_ ?_ <;> simp (maxDischargeDepth := 120) [*] <;> refine ⟨?_⟩) | (refine WK.retT2 Tryz.func10 ?_ ?_ ?_ <;> simp (maxDischargeDepth := 120) [Tryz.results10, *]))
 rw [if_neg k0] at hG
 by_cases k1 : k = 1
 · subst k1
   rw [if_pos rfl] at hG
   have c1 := rput_c [] fa.kind 2 Sz2 (by simp)
   have p1 := putN_len [] fa.kind 2
   simp only [List.length_nil] at p1
   have c2 := rput_c (putN [] fa.kind 2) fa.code 2 Sz2 (by omega)
   have p2 := putN_len (putN [] fa.kind 2) fa.code 2
   obtain ⟨F1, hF1⟩ : ∃ F, putN [] fa.kind 2 = F := ⟨_, rfl⟩
   rw [hF1] at c1 c2 p1 p2 hG
   obtain ⟨F2, hF2⟩ : ∃ F, putN F1 fa.code 2 = F := ⟨_, rfl⟩
   rw [hF2] at c2 p2 hG
   have f1 := by_full F1 F1.length rfl
   have fd := by_full d d.length rfl
   have hE : byL F2 ++ byL d = byL (F2 ++ d) := (byL_app _ _).symm
   have hEl : (F2 ++ d).length = F2.length + d.length := List.length_append
   have hbd : F2.length + d.length ≤ 140737488355328 := by omega
   rw [hG] at hd
   obtain ⟨E, hEE⟩ : ∃ E, F2 ++ d = E := ⟨_, rfl⟩
   rw [hEE] at hE hEl hd
   have hfE : (byL E).take (F2.length + d.length) = byL E := by_full _ _ hEl.symm
   unfold byS at *
   rw [hEl] at hd
   rw [b0_] at c1
   simp only [List.length_nil] at c1
   clear hF1 hF2 hEE p1 p2 hEl hG b3 b4 hk k0
   unfold Msg.enc Flt.enc FlowMod.enc GroupMod.enc at *
   refine FnT.intro Tryz.func10 rfl rfl fun G w => ?_
   repeat' (first | apply WK.seq | apply WK.block | apply WK.inBlock | apply WK.skip | refine WK.cT rfl ?_ | refine WK.cF rfl ?_ | (refine hQ.h _ _ ?_; clear hQ hA) | (refine WK.rH Tryz.ntmps10 (by kernel_rfl) ?_; intro A hA Q hQ; simp [*]) | (refine WK.rX (by kernel_rfl) Tryz.ntmps10 (by kernel_rfl) ?_; intro A hA Q hQ; simp [*]) | (refine hQ.h _ _ _ (by decide +kernel) ?_; clear hQ hA) | (refine RunX.callO 900 rfl rfl rfl rfl ?_ (c1) ?_ ?_ ?_ ?_; (focus (simp (maxDischargeDepth := 120) [*]; done)); (focus (simp [*]; done)); (focus (simp [*]; done)); (focus (simp [*]; done)); refine RunX.e ?_; simp [*]) | (refine RunX.callOz 901 17 1 rfl rfl rfl rfl rfl rfl ?_ (c2) ?_ ?_ (by simp) (by decide) ?_; (focus (simp (maxDischargeDepth := 120) [*]; done)); (focus (simp [*]; done)); (focus (simp [*]; done)); refine RunX.e ?_; simp [*]) | (refine RunX.append 902 appByte rfl rfl rfl rfl rfl rfl rfl rfl ?_ ?_ ?_ ?_ ?_; (focus (first | omega | (simp [*]; done); done)); (focus (first | omega | (simp [*]; done); done)); (focus (first | omega | (simp [*]; done); done)); (focus (first | omega | (simp [*]; done); done)); refine RunX.e ?_; simp [*]) | (refine RunQ.callTz 903 45 1 rfl rfl rfl rfl rfl rfl rfl ?_ (hd) ?_ ?_ ?_ ?_ ?_ ?_; (focus (simp (maxDischargeDepth := 120) [*]; done)); (focus (simp [*]; done)); (focus (simp [*]; done)); (focus (simp [*]; done)); (focus (simp [*]; done)); (focus (simp [*]; done)); refine RunQ.e ?_; simp [*]) | (refine RunQ.k rfl rfl rfl rfl rfl ?_ (r) ?_ ?_ <;> simp (maxDischargeDepth := 120) [*] <;> refine ⟨?_⟩) | (refine WK.retT2 Tryz.func10 ?_ ?_ ?_ <;> simp (maxDischargeDepth := 120) [Tryz.results10, *]))
 rw [if_neg k1] at hG
 by_cases k2 : k = 14
 · subst k2
   rw [if_pos rfl] at hG
   rw [← hG] at b3
   unfold byS at *
   clear b4 hk k0 hG k1
   unfold Msg.enc Flt.enc FlowMod.enc GroupMod.enc at *
   refine FnT.intro Tryz.func10 rfl rfl fun G w => ?_
   repeat' (first | apply WK.seq | apply WK.block | apply WK.inBlock | apply WK.skip | refine WK.cT rfl ?_ | refine WK.cF rfl ?_ | (refine hQ.h _ _ ?_; clear hQ hA) | (refine WK.rH Tryz.ntmps10 (by kernel_rfl) ?_; intro A hA Q hQ; simp [*]) | (refine RunQ.callT 900 rfl rfl rfl rfl rfl ?_ (hd) ?_ ?_ ?_ ?_ ?_; (focus (simp (maxDischargeDepth := 120) [*]; done)); (focus (simp [*]; done)); (focus (simp [*]; done)); (focus (simp [*]; done)); (focus (simp [*]; done)); refine RunQ.e ?_; simp [*]) | (refine RunQ.k rfl rfl rfl rfl rfl ?_ (r) ?_ ?_ <;> simp (maxDischargeDepth := 120) [*] <;> refine ⟨?_⟩) | (refine RunQ.k rfl rfl rfl rfl rfl ?_ (b3) ?_ ?_ <;> simp (maxDischargeDepth := 120) [*] <;> refine ⟨?_⟩) | (refine WK.retT2 Tryz.func10 ?_ ?_ ?_ <;> simp (maxDischargeDepth := 120) [Tryz.results10, *]))
 rw [if_neg k2] at hG
 have k3 : k = 15 := by
   rcases hk with h | h | h | h
   · exact absurd h k0
   · exact absurd h k1
   · exact absurd h k2
   · exact h
 subst k3
 rw [← hG] at b4
 unfold byS at *
 clear b3 hk k0 hG k1 k2
 unfold Msg.enc Flt.enc FlowMod.enc GroupMod.enc at *
 refine FnT.intro Tryz.func10 rfl rfl fun G w => ?_
 repeat' (first | apply WK.seq | apply WK.block | apply WK.inBlock | apply WK.skip | refine WK.cT rfl ?_ | refine WK.cF rfl ?_ | (refine hQ.h _ _ ?_; clear hQ hA) | (refine WK.rH Tryz.ntmps10 (by kernel_rfl) ?_; intro A hA Q hQ; simp [*]) | (refine RunQ.callT 900 rfl rfl rfl rfl rfl ?_ (hd) ?_ ?_ ?_ ?_ ?_; (focus (simp (maxDischargeDepth := 120) [*]; done)); (focus (simp [*]; done)); (focus (simp [*]; done)); (focus (simp [*]; done)); (focus (simp [*]; done)); refine RunQ.e ?_; simp [*]) | (refine RunQ.k rfl rfl rfl rfl rfl ?_ (r) ?_ ?_ <;> simp (maxDischargeDepth := 120) [*] <;> refine ⟨?_⟩) | (refine RunQ.k rfl rfl rfl rfl rfl ?_ (b4) ?_ ?_ <;> simp (maxDischargeDepth := 120) [*] <;> refine ⟨?_⟩) | (refine WK.retT2 Tryz.func10 ?_ ?_ ?_ <;> simp (maxDischargeDepth := 120) [Tryz.results10, *]))
theorem rmgencP_c (m : Msg) (hm : MsB m) : FnP Tryz.prog 10 [.agg m.enc] (.tup [byS (mgEnc m).1, .int .i64 (mgEnc m).2]) := by
 have h := (rmgenc_c m hm).toP (by simp [byL_take]) (by rfl)
 rwa [Nat.mul_one, by_full _ _ rfl] at h
end Go.Proofs.YtcccfbjkcahgfaaGreat
