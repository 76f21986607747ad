/- Messages: their bytes, and read: the program. -/
import Derived.Test.YtcccfbjkcahgfaaGreatWk11
import Derived.Test.YtcccfbjkcahgfaaGreatWk10
import Derived.Test.YtcccfbjkcahgfaaGreatWk8
import Derived.Test.YtcccfbjkcahgfaaGreatAf
set_option linter.all false
set_option linter.unnecessarySimpa false
section
set_option linter.unusedVariables false
set_option linter.unusedSimpArgs false
namespace Go.Proofs.YtcccfbjkcahgfaaGreat
open Go Go.AI Go.Proofs
attribute [local irreducible] FnP FnO FnB FnT FnSeq WK RunQ RunQW RunX RunXW

set_option maxHeartbeats 8000000 in
theorem mgenc_c (m : Msg) (hm : MsB m) : FnT Tryz.prog 9 [.agg m.enc] (mgEnc m).1.length 1 (byL (mgEnc m).1) [.int .i64 (mgEnc m).2] := by
  have r := mgright_c m hm
  have o := mof_c m
  cases hr : mgRight m
  · rw [mgEnc_bad hr]
    rw [hr] at r
    clear hr o
    unfold Msg.enc Flt.enc FlowMod.enc GroupMod.enc at *
    refine FnT.intro Tryz.func9 rfl rfl fun G w => ?_
    repeat' (first
     | refine WK.seq ?_
     | refine WK.condT rfl ?_
     | (refine Hid.h hQ _ _ ?_; clear hQ hA)
     | (refine WK.regH Tryz.ntmps9 (by kernel_rfl) ?_; intro A hA Q hQ; simp [*])
     | (refine RunQ.call rfl rfl rfl rfl rfl ?_ (r) ?_ ?_; (focus (simp (maxDischargeDepth := 120) [*]; done)); (focus (simp [*]; done)); refine RunQ.evalH ?_; simp [*])
     | fail)
    refine WK.ghost (Ghost.own 2 900 1 rfl rfl) ?_
    refine WK.retT2 Tryz.func9 ?_ ?_ ?_ <;> simp (maxDischargeDepth := 120) [Tryz.results9, byL_nil]
  have hok := (mgRight_facts hr).ok
  have hk := mgKind_of hok
  have hbl := mgBody_len hok
  have hd := head_c m.kind m.xid (mgBody m) (by omega)
  have eH : mgEnc m = frHead m.kind m.xid (mgBody m) := by unfold mgEnc; rw [if_pos hr]
  rw [eH]
  rw [hr] at r
  have hG : mgBody m = if mgData m.kind = true then m.data else if m.kind = 1 then putN (putN [] m.fault.kind 2) m.fault.code 2 ++ m.data else if m.kind = 14 then (fmEnc m.flow).1 else (gmEnc m.group).1 := rfl
  have b1 := dbytes_c m.data
  have b2 := wbytes_c m.data m.fault hm.data
  have b3 := flbytes_c m.flow hm.flow
  have b4 := grbytes_c m.group hm.group
  obtain ⟨B, hB⟩ : ∃ B, mgBare m = B := ⟨_, rfl⟩
  rw [hB] at o
  have hc : ClL B.enc = true := by unfold Msg.enc; simp [ClL, Cl, Flt.enc]
  unfold mgI at o
  obtain ⟨R, hR⟩ : ∃ R, frHead m.kind m.xid (mgBody m) = R := ⟨_, rfl⟩
  rw [hR] at hd ⊢
  obtain ⟨R1, R2⟩ := R
  simp only at hd ⊢
  have hfR := by_full R1 R1.length rfl
  clear hR hB hm hr hok hbl eH
  by_cases k0 : mgData m.kind = true
  · rw [if_pos k0] at o hG
    rw [hG] at hd
    unfold byS at *
    clear b2 b3 b4 hk k0 hG
    unfold Msg.enc Flt.enc FlowMod.enc GroupMod.enc at *
    refine FnT.intro Tryz.func9 rfl rfl fun G w => ?_
    repeat' (first
     | refine WK.seq ?_
     | refine WK.skip ?_
     | refine WK.condF rfl ?_
     | (refine Hid.h hQ _ _ ?_; clear hQ hA)
     | (refine WK.regH Tryz.ntmps9 (by kernel_rfl) ?_; intro A hA Q hQ; simp [*])
     | (refine WK.regX (by kernel_rfl) Tryz.ntmps9 (by kernel_rfl) ?_; intro A hA Q hQ; simp [*])
     | (refine Hid.h hQ _ _ _ (by decide +kernel) ?_; clear hQ hA)
     | (refine RunX.invoke (mI_b1) (b1) rfl rfl rfl rfl rfl ?_ ?_; (focus (simp [*]; done)); refine RunX.evalY ?_; simp [*])
     | (refine RunX.callT 900 rfl rfl rfl rfl ?_ (hd) ?_ ?_ ?_ ?_ ?_; (focus (simp (maxDischargeDepth := 120) [*]; done)); (focus (simp [*]; done)); (focus (simp [*]; done)); (focus (simp [*]; done)); (focus (simp [*]; done)); refine RunX.evalY ?_; simp [*])
     | (refine RunQ.call rfl rfl rfl rfl rfl ?_ (r) ?_ ?_; (focus (simp (maxDischargeDepth := 120) [*]; done)); (focus (simp [*]; done)); refine RunQ.evalH ?_; simp [*])
     | (refine RunQ.call rfl rfl rfl rfl rfl ?_ (o) ?_ ?_; (focus (simp (maxDischargeDepth := 120) [*]; done)); (focus (simp [*]; done)); refine RunQ.evalH ?_; simp [*])
     | (refine WK.retT2 Tryz.func9 ?_ ?_ ?_ <;> simp (maxDischargeDepth := 120) [Tryz.results9, *])
     | fail)
  rw [if_neg k0] at o hG
  by_cases k1 : m.kind = 1
  · rw [if_pos k1] at o hG
    rw [← hG] at b2
    unfold byS at *
    clear b1 b3 b4 hk k0 hG k1
    unfold Msg.enc Flt.enc FlowMod.enc GroupMod.enc at *
    refine FnT.intro Tryz.func9 rfl rfl fun G w => ?_
    repeat' (first
     | refine WK.seq ?_
     | refine WK.skip ?_
     | refine WK.condF rfl ?_
     | (refine Hid.h hQ _ _ ?_; clear hQ hA)
     | (refine WK.regH Tryz.ntmps9 (by kernel_rfl) ?_; intro A hA Q hQ; simp [*])
     | (refine WK.regX (by kernel_rfl) Tryz.ntmps9 (by kernel_rfl) ?_; intro A hA Q hQ; simp [*])
     | (refine Hid.h hQ _ _ _ (by decide +kernel) ?_; clear hQ hA)
     | (refine RunX.invoke (mI_b2) (b2) rfl rfl rfl rfl rfl ?_ ?_; (focus (simp [*]; done)); refine RunX.evalY ?_; simp [*])
     | (refine RunX.callT 900 rfl rfl rfl rfl ?_ (hd) ?_ ?_ ?_ ?_ ?_; (focus (simp (maxDischargeDepth := 120) [*]; done)); (focus (simp [*]; done)); (focus (simp [*]; done)); (focus (simp [*]; done)); (focus (simp [*]; done)); refine RunX.evalY ?_; simp [*])
     | (refine RunQ.call rfl rfl rfl rfl rfl ?_ (r) ?_ ?_; (focus (simp (maxDischargeDepth := 120) [*]; done)); (focus (simp [*]; done)); refine RunQ.evalH ?_; simp [*])
     | (refine RunQ.call rfl rfl rfl rfl rfl ?_ (o) ?_ ?_; (focus (simp (maxDischargeDepth := 120) [*]; done)); (focus (simp [*]; done)); refine RunQ.evalH ?_; simp [*])
     | (refine WK.retT2 Tryz.func9 ?_ ?_ ?_ <;> simp (maxDischargeDepth := 120) [Tryz.results9, *])
     | fail)
  rw [if_neg k1] at o hG
  by_cases k2 : m.kind = 14
  · rw [if_pos k2] at o hG
    rw [← hG] at b3
    unfold byS at *
    clear b1 b2 b4 hk k0 hG k1 k2
    unfold Msg.enc Flt.enc FlowMod.enc GroupMod.enc at *
    refine FnT.intro Tryz.func9 rfl rfl fun G w => ?_
    repeat' (first
     | refine WK.seq ?_
     | refine WK.skip ?_
     | refine WK.condF rfl ?_
     | (refine Hid.h hQ _ _ ?_; clear hQ hA)
     | (refine WK.regH Tryz.ntmps9 (by kernel_rfl) ?_; intro A hA Q hQ; simp [*])
     | (refine WK.regX (by kernel_rfl) Tryz.ntmps9 (by kernel_rfl) ?_; intro A hA Q hQ; simp [*])
     | (refine Hid.h hQ _ _ _ (by decide +kernel) ?_; clear hQ hA)
     | (refine RunX.invoke (mI_b3) (b3) rfl rfl rfl rfl rfl ?_ ?_; (focus (simp [*]; done)); refine RunX.evalY ?_; simp [*])
     | (refine RunX.callT 900 rfl rfl rfl rfl ?_ (hd) ?_ ?_ ?_ ?_ ?_; (focus (simp (maxDischargeDepth := 120) [*]; done)); (focus (simp [*]; done)); (focus (simp [*]; done)); (focus (simp [*]; done)); (focus (simp [*]; done)); refine RunX.evalY ?_; simp [*])
     | (refine RunQ.call rfl rfl rfl rfl rfl ?_ (r) ?_ ?_; (focus (simp (maxDischargeDepth := 120) [*]; done)); (focus (simp [*]; done)); refine RunQ.evalH ?_; simp [*])
     | (refine RunQ.call rfl rfl rfl rfl rfl ?_ (o) ?_ ?_; (focus (simp (maxDischargeDepth := 120) [*]; done)); (focus (simp [*]; done)); refine RunQ.evalH ?_; simp [*])
     | (refine WK.retT2 Tryz.func9 ?_ ?_ ?_ <;> simp (maxDischargeDepth := 120) [Tryz.results9, *])
     | fail)
  rw [if_neg k2] at o hG
  have k3 : m.kind = 15 := by
    rcases hk with h | h | h | h
    · exact absurd h k0
    · exact absurd h k1
    · exact absurd h k2
    · exact h
  rw [if_pos k3] at o
  rw [← hG] at b4
  unfold byS at *
  clear b1 b2 b3 hk k0 hG k1 k2 k3
  unfold Msg.enc Flt.enc FlowMod.enc GroupMod.enc at *
  refine FnT.intro Tryz.func9 rfl rfl fun G w => ?_
  repeat' (first
   | refine WK.seq ?_
   | refine WK.skip ?_
   | refine WK.condF rfl ?_
   | (refine Hid.h hQ _ _ ?_; clear hQ hA)
   | (refine WK.regH Tryz.ntmps9 (by kernel_rfl) ?_; intro A hA Q hQ; simp [*])
   | (refine WK.regX (by kernel_rfl) Tryz.ntmps9 (by kernel_rfl) ?_; intro A hA Q hQ; simp [*])
   | (refine Hid.h hQ _ _ _ (by decide +kernel) ?_; clear hQ hA)
   | (refine RunX.invoke (mI_b4) (b4) rfl rfl rfl rfl rfl ?_ ?_; (focus (simp [*]; done)); refine RunX.evalY ?_; simp [*])
   | (refine RunX.callT 900 rfl rfl rfl rfl ?_ (hd) ?_ ?_ ?_ ?_ ?_; (focus (simp (maxDischargeDepth := 120) [*]; done)); (focus (simp [*]; done)); (focus (simp [*]; done)); (focus (simp [*]; done)); (focus (simp [*]; done)); refine RunX.evalY ?_; simp [*])
   | (refine RunQ.call rfl rfl rfl rfl rfl ?_ (r) ?_ ?_; (focus (simp (maxDischargeDepth := 120) [*]; done)); (focus (simp [*]; done)); refine RunQ.evalH ?_; simp [*])
   | (refine RunQ.call rfl rfl rfl rfl rfl ?_ (o) ?_ ?_; (focus (simp (maxDischargeDepth := 120) [*]; done)); (focus (simp [*]; done)); refine RunQ.evalH ?_; simp [*])
   | (refine WK.retT2 Tryz.func9 ?_ ?_ ?_ <;> simp (maxDischargeDepth := 120) [Tryz.results9, *])
   | fail)
theorem mgencP_c (m : Msg) (hm : MsB m) : FnP Tryz.prog 9 [.agg m.enc] (.tup [byS (mgEnc m).1, .int .i64 (mgEnc m).2]) := by
  have h := (mgenc_c m hm).toP (by simp [byL_take]) (by rfl)
  rwa [Nat.mul_one, by_full _ _ rfl] at h
def msg0E : List AV := [.int .i64 0, .int .i64 0, .int .u64 0, .int .u64 0, .int .i64 0, .int .i64 0, .int .i64 0, .int .i64 0, .int .i64 0, .int .i64 0, .int .i64 0, .int .i64 0, .int .i64 0, .sl false 0 [], .sl false 0 [], .int .i64 0, .int .i64 0, .int .i64 0, .sl false 0 [], .bool false, .int .i64 0, .int .i64 0, .sl false 0 []]
theorem msg0_enc : msg0.enc = msg0E := rfl
theorem mgbad_c (n : Int) : FnP Tryz.prog 37 [.int .i64 n] (.tup [.agg msg0.enc, .agg (gFault (some (1, n)))]) := by
  have f := fof_c 1 n
  rw [msg0_enc]
  refine FnP.intro Tryz.func37 rfl rfl fun G w => ?_
  repeat' (first
   | refine WK.seq ?_
   | (refine Hid.h hQ _ _ ?_; clear hQ hA)
   | (refine WK.regH Tryz.ntmps37 (by kernel_rfl) ?_; intro A hA Q hQ; simp [gFault, msg0E, *])
   | (refine RunQ.call rfl rfl rfl rfl rfl ?_ (f) ?_ ?_; (focus (simp (maxDischargeDepth := 120) [gFault, msg0E, *]; done)); (focus (simp [gFault, msg0E, *]; done)); refine RunQ.evalH ?_; simp [gFault, msg0E, *])
   | (refine WK.ret Tryz.func37 ?_ ?_ <;> simp (maxDischargeDepth := 120) [Tryz.results37, gFault, msg0E, *])
   | fail)
/-- a message that has a kind and a number alone -/
def mgBase (k x : Int) : Msg := { msg0 with kind := k, xid := x }
set_option maxHeartbeats 16000000 in
theorem mgfill_c (k x : Int) (b : List (BitVec 8)) (hb : b.length ≤ 80000) : FnP Tryz.prog 39 [.agg (mgBase k x).enc, byS b] (.tup [.agg (mgFill k x b).1.enc, .agg (gFault (mgFill k x b).2)]) := by
  have b6 := mgbad_c 6
  have b1 := mgbad_c 1
  rw [msg0_enc] at b6 b1
  have hF : mgFill k x b = if mgData k = true then (if 60000 < b.length then (msg0, some (1, 6)) else ({ msg0 with kind := k, xid := x, data := b }, none))
    else if k = 1 then (if b.length < 4 then (msg0, some (1, 6)) else if 60000 < b.length - 4 then (msg0, some (1, 6)) else ({ msg0 with kind := k, xid := x, fault := ⟨true, (getN b 0 2).1, (getN b 2 2).1⟩, data := b.drop 4 }, none))
    else if k = 14 then (match (fmDec b).2 with | some c => (msg0, some c) | none => ({ msg0 with kind := k, xid := x, flow := (fmDec b).1 }, none))
    else if k = 15 then (match (gmDec b).2 with | some c => (msg0, some c) | none => ({ msg0 with kind := k, xid := x, group := (gmDec b).1 }, none))
    else (msg0, some (1, 1)) := rfl
  by_cases k0 : k = 0 ∨ k = 2 ∨ k = 3
  · rw [if_pos (mgData_iff.2 k0)] at hF
    have c := bytesClone_c b (by omega)
    unfold byS at *
    by_cases g : 60000 < b.length
    · have g' : (60000 : Int) < b.length := by omega
      rw [if_pos g] at hF
      rw [hF, msg0_enc]
      clear hF b1
      rcases k0 with rfl | rfl | rfl
      all_goals
        · refine FnP.intro Tryz.func39 rfl rfl fun G w => ?_
          repeat' (first
           | refine WK.seq ?_
           | refine WK.block ?_
           | refine WK.inBlock ?_
           | refine WK.skip ?_
           | refine WK.condT rfl ?_
           | refine WK.condF rfl ?_
           | (refine Hid.h hQ _ _ ?_; clear hQ hA)
           | (refine WK.regH Tryz.ntmps39 (by kernel_rfl) ?_; intro A hA Q hQ; simp [mgBase, Msg.enc, FlowMod.enc, GroupMod.enc, Flt.enc, msg0, flowMod0, gm0, flt0, uI_zero, byL_nil, oxmL_nil, instL_nil, gFault, msg0E, *])
           | (refine RunQ.call rfl rfl rfl rfl rfl ?_ (c) ?_ ?_; (focus (simp (maxDischargeDepth := 120) [mgBase, Msg.enc, FlowMod.enc, GroupMod.enc, Flt.enc, msg0, flowMod0, gm0, flt0, uI_zero, byL_nil, oxmL_nil, instL_nil, gFault, msg0E, *]; done)); (focus (simp [mgBase, Msg.enc, FlowMod.enc, GroupMod.enc, Flt.enc, msg0, flowMod0, gm0, flt0, uI_zero, byL_nil, oxmL_nil, instL_nil, gFault, msg0E, *]; done)); refine RunQ.evalH ?_; simp [mgBase, Msg.enc, FlowMod.enc, GroupMod.enc, Flt.enc, msg0, flowMod0, gm0, flt0, uI_zero, byL_nil, oxmL_nil, instL_nil, gFault, msg0E, *])
           | (refine RunQ.call rfl rfl rfl rfl rfl ?_ (b6) ?_ ?_; (focus (simp (maxDischargeDepth := 120) [mgBase, Msg.enc, FlowMod.enc, GroupMod.enc, Flt.enc, msg0, flowMod0, gm0, flt0, uI_zero, byL_nil, oxmL_nil, instL_nil, gFault, msg0E, *]; done)); (focus (simp [mgBase, Msg.enc, FlowMod.enc, GroupMod.enc, Flt.enc, msg0, flowMod0, gm0, flt0, uI_zero, byL_nil, oxmL_nil, instL_nil, gFault, msg0E, *]; done)); refine RunQ.evalH ?_; simp [mgBase, Msg.enc, FlowMod.enc, GroupMod.enc, Flt.enc, msg0, flowMod0, gm0, flt0, uI_zero, byL_nil, oxmL_nil, instL_nil, gFault, msg0E, *])
           | (refine WK.ret Tryz.func39 ?_ ?_ <;> simp (maxDischargeDepth := 120) [Tryz.results39, mgBase, Msg.enc, FlowMod.enc, GroupMod.enc, Flt.enc, msg0, flowMod0, gm0, flt0, uI_zero, byL_nil, oxmL_nil, instL_nil, gFault, msg0E, *])
           | fail)
    · have g' : ¬ (60000 : Int) < b.length := by omega
      rw [if_neg g] at hF
      rw [hF]
      clear hF b1 b6
      rcases k0 with rfl | rfl | rfl
      all_goals
        · refine FnP.intro Tryz.func39 rfl rfl fun G w => ?_
          repeat' (first
           | refine WK.seq ?_
           | refine WK.block ?_
           | refine WK.inBlock ?_
           | refine WK.skip ?_
           | refine WK.condT rfl ?_
           | refine WK.condF rfl ?_
           | (refine Hid.h hQ _ _ ?_; clear hQ hA)
           | (refine WK.regH Tryz.ntmps39 (by kernel_rfl) ?_; intro A hA Q hQ; simp [mgBase, Msg.enc, FlowMod.enc, GroupMod.enc, Flt.enc, msg0, flowMod0, gm0, flt0, uI_zero, byL_nil, oxmL_nil, instL_nil, gFault, *])
           | (refine RunQ.call rfl rfl rfl rfl rfl ?_ (c) ?_ ?_; (focus (simp (maxDischargeDepth := 120) [mgBase, Msg.enc, FlowMod.enc, GroupMod.enc, Flt.enc, msg0, flowMod0, gm0, flt0, uI_zero, byL_nil, oxmL_nil, instL_nil, gFault, *]; done)); (focus (simp [mgBase, Msg.enc, FlowMod.enc, GroupMod.enc, Flt.enc, msg0, flowMod0, gm0, flt0, uI_zero, byL_nil, oxmL_nil, instL_nil, gFault, *]; done)); refine RunQ.evalH ?_; simp [mgBase, Msg.enc, FlowMod.enc, GroupMod.enc, Flt.enc, msg0, flowMod0, gm0, flt0, uI_zero, byL_nil, oxmL_nil, instL_nil, gFault, *])
           | (refine WK.ret Tryz.func39 ?_ ?_ <;> simp (maxDischargeDepth := 120) [Tryz.results39, mgBase, Msg.enc, FlowMod.enc, GroupMod.enc, Flt.enc, msg0, flowMod0, gm0, flt0, uI_zero, byL_nil, oxmL_nil, instL_nil, gFault, *])
           | fail)
  have hd : mgData k = false := by cases h : mgData k; rfl; exact absurd (mgData_iff.1 h) k0
  rw [hd, if_neg (by simp)] at hF
  by_cases k1 : k = 1
  · subst k1
    rw [if_pos rfl] at hF
    by_cases g4 : b.length < 4
    · rw [if_pos g4] at hF
      have p := fparse_short b g4
      rw [hF, msg0_enc]
      unfold byS at *
      clear hF b1
      refine FnP.intro Tryz.func39 rfl rfl fun G w => ?_
      repeat' (first
       | refine WK.seq ?_
       | refine WK.block ?_
       | refine WK.condT rfl ?_
       | refine WK.condF rfl ?_
       | (refine Hid.h hQ _ _ ?_; clear hQ hA)
       | (refine WK.regH Tryz.ntmps39 (by kernel_rfl) ?_; intro A hA Q hQ; simp [mgBase, Msg.enc, FlowMod.enc, GroupMod.enc, Flt.enc, msg0, flowMod0, gm0, flt0, uI_zero, byL_nil, oxmL_nil, instL_nil, gFault, msg0E, *])
       | (refine RunQ.call rfl rfl rfl rfl rfl ?_ (p) ?_ ?_; (focus (simp (maxDischargeDepth := 120) [mgBase, Msg.enc, FlowMod.enc, GroupMod.enc, Flt.enc, msg0, flowMod0, gm0, flt0, uI_zero, byL_nil, oxmL_nil, instL_nil, gFault, msg0E, *]; done)); (focus (simp [mgBase, Msg.enc, FlowMod.enc, GroupMod.enc, Flt.enc, msg0, flowMod0, gm0, flt0, uI_zero, byL_nil, oxmL_nil, instL_nil, gFault, msg0E, *]; done)); refine RunQ.evalH ?_; simp [mgBase, Msg.enc, FlowMod.enc, GroupMod.enc, Flt.enc, msg0, flowMod0, gm0, flt0, uI_zero, byL_nil, oxmL_nil, instL_nil, gFault, msg0E, *])
       | (refine RunQ.call rfl rfl rfl rfl rfl ?_ (b6) ?_ ?_; (focus (simp (maxDischargeDepth := 120) [mgBase, Msg.enc, FlowMod.enc, GroupMod.enc, Flt.enc, msg0, flowMod0, gm0, flt0, uI_zero, byL_nil, oxmL_nil, instL_nil, gFault, msg0E, *]; done)); (focus (simp [mgBase, Msg.enc, FlowMod.enc, GroupMod.enc, Flt.enc, msg0, flowMod0, gm0, flt0, uI_zero, byL_nil, oxmL_nil, instL_nil, gFault, msg0E, *]; done)); refine RunQ.evalH ?_; simp [mgBase, Msg.enc, FlowMod.enc, GroupMod.enc, Flt.enc, msg0, flowMod0, gm0, flt0, uI_zero, byL_nil, oxmL_nil, instL_nil, gFault, msg0E, *])
       | (refine WK.ret Tryz.func39 ?_ ?_ <;> simp (maxDischargeDepth := 120) [Tryz.results39, mgBase, Msg.enc, FlowMod.enc, GroupMod.enc, Flt.enc, msg0, flowMod0, gm0, flt0, uI_zero, byL_nil, oxmL_nil, instL_nil, gFault, msg0E, *])
       | fail)
    rw [if_neg g4] at hF
    have p := fparse_c b g4 (by omega)
    obtain ⟨n0, h0⟩ : ∃ n, (getN b 0 2).1 = n := ⟨_, rfl⟩
    obtain ⟨n1, h1⟩ : ∃ n, (getN b 2 2).1 = n := ⟨_, rfl⟩
    rw [h0, h1] at p hF
    have hdl : (b.drop 4).length = b.length - 4 := by rw [List.length_drop]
    rw [← hdl] at hF
    obtain ⟨D, hD⟩ : ∃ D, b.drop 4 = D := ⟨_, rfl⟩
    rw [hD] at p hF
    unfold byS at *
    by_cases g : 60000 < D.length
    · have g' : (60000 : Int) < D.length := by omega
      rw [if_pos g] at hF
      rw [hF, msg0_enc]
      clear hF b1 hD hdl h0 h1
      refine FnP.intro Tryz.func39 rfl rfl fun G w => ?_
      repeat' (first
       | refine WK.seq ?_
       | refine WK.block ?_
       | refine WK.inBlock ?_
       | refine WK.skip ?_
       | refine WK.condT rfl ?_
       | refine WK.condF rfl ?_
       | (refine Hid.h hQ _ _ ?_; clear hQ hA)
       | (refine WK.regH Tryz.ntmps39 (by kernel_rfl) ?_; intro A hA Q hQ; simp [mgBase, Msg.enc, FlowMod.enc, GroupMod.enc, Flt.enc, msg0, flowMod0, gm0, flt0, uI_zero, byL_nil, oxmL_nil, instL_nil, gFault, msg0E, *])
       | (refine RunQ.call rfl rfl rfl rfl rfl ?_ (p) ?_ ?_; (focus (simp (maxDischargeDepth := 120) [mgBase, Msg.enc, FlowMod.enc, GroupMod.enc, Flt.enc, msg0, flowMod0, gm0, flt0, uI_zero, byL_nil, oxmL_nil, instL_nil, gFault, msg0E, *]; done)); (focus (simp [mgBase, Msg.enc, FlowMod.enc, GroupMod.enc, Flt.enc, msg0, flowMod0, gm0, flt0, uI_zero, byL_nil, oxmL_nil, instL_nil, gFault, msg0E, *]; done)); refine RunQ.evalH ?_; simp [mgBase, Msg.enc, FlowMod.enc, GroupMod.enc, Flt.enc, msg0, flowMod0, gm0, flt0, uI_zero, byL_nil, oxmL_nil, instL_nil, gFault, msg0E, *])
       | (refine RunQ.call rfl rfl rfl rfl rfl ?_ (b6) ?_ ?_; (focus (simp (maxDischargeDepth := 120) [mgBase, Msg.enc, FlowMod.enc, GroupMod.enc, Flt.enc, msg0, flowMod0, gm0, flt0, uI_zero, byL_nil, oxmL_nil, instL_nil, gFault, msg0E, *]; done)); (focus (simp [mgBase, Msg.enc, FlowMod.enc, GroupMod.enc, Flt.enc, msg0, flowMod0, gm0, flt0, uI_zero, byL_nil, oxmL_nil, instL_nil, gFault, msg0E, *]; done)); refine RunQ.evalH ?_; simp [mgBase, Msg.enc, FlowMod.enc, GroupMod.enc, Flt.enc, msg0, flowMod0, gm0, flt0, uI_zero, byL_nil, oxmL_nil, instL_nil, gFault, msg0E, *])
       | (refine WK.ret Tryz.func39 ?_ ?_ <;> simp (maxDischargeDepth := 120) [Tryz.results39, mgBase, Msg.enc, FlowMod.enc, GroupMod.enc, Flt.enc, msg0, flowMod0, gm0, flt0, uI_zero, byL_nil, oxmL_nil, instL_nil, gFault, msg0E, *])
       | fail)
    · have g' : ¬ (60000 : Int) < D.length := by omega
      rw [if_neg g] at hF
      rw [hF]
      clear hF b1 b6 hD hdl h0 h1
      refine FnP.intro Tryz.func39 rfl rfl fun G w => ?_
      repeat' (first
       | refine WK.seq ?_
       | refine WK.block ?_
       | refine WK.inBlock ?_
       | refine WK.skip ?_
       | refine WK.condT rfl ?_
       | refine WK.condF rfl ?_
       | (refine Hid.h hQ _ _ ?_; clear hQ hA)
       | (refine WK.regH Tryz.ntmps39 (by kernel_rfl) ?_; intro A hA Q hQ; simp [mgBase, Msg.enc, FlowMod.enc, GroupMod.enc, Flt.enc, msg0, flowMod0, gm0, flt0, uI_zero, byL_nil, oxmL_nil, instL_nil, gFault, *])
       | (refine RunQ.call rfl rfl rfl rfl rfl ?_ (p) ?_ ?_; (focus (simp (maxDischargeDepth := 120) [mgBase, Msg.enc, FlowMod.enc, GroupMod.enc, Flt.enc, msg0, flowMod0, gm0, flt0, uI_zero, byL_nil, oxmL_nil, instL_nil, gFault, *]; done)); (focus (simp [mgBase, Msg.enc, FlowMod.enc, GroupMod.enc, Flt.enc, msg0, flowMod0, gm0, flt0, uI_zero, byL_nil, oxmL_nil, instL_nil, gFault, *]; done)); refine RunQ.evalH ?_; simp [mgBase, Msg.enc, FlowMod.enc, GroupMod.enc, Flt.enc, msg0, flowMod0, gm0, flt0, uI_zero, byL_nil, oxmL_nil, instL_nil, gFault, *])
       | (refine WK.ret Tryz.func39 ?_ ?_ <;> simp (maxDischargeDepth := 120) [Tryz.results39, mgBase, Msg.enc, FlowMod.enc, GroupMod.enc, Flt.enc, msg0, flowMod0, gm0, flt0, uI_zero, byL_nil, oxmL_nil, instL_nil, gFault, *])
       | fail)
  rw [if_neg k1] at hF
  by_cases k14 : k = 14
  · subst k14
    rw [if_pos rfl] at hF
    have d := fmdec_c b hb
    obtain ⟨R, hR⟩ : ∃ R, fmDec b = R := ⟨_, rfl⟩
    rw [hR] at d hF
    obtain ⟨y, c⟩ := R
    unfold byS at *
    cases c with
    | some c =>
      simp only at hF
      rw [hF, msg0_enc]
      clear hF b1 b6 hR
      refine FnP.intro Tryz.func39 rfl rfl fun G w => ?_
      repeat' (first
       | refine WK.seq ?_
       | refine WK.block ?_
       | refine WK.inBlock ?_
       | refine WK.condT rfl ?_
       | refine WK.condF rfl ?_
       | (refine Hid.h hQ _ _ ?_; clear hQ hA)
       | (refine WK.regH Tryz.ntmps39 (by kernel_rfl) ?_; intro A hA Q hQ; simp [mgBase, Msg.enc, FlowMod.enc, GroupMod.enc, Flt.enc, msg0, flowMod0, gm0, flt0, uI_zero, byL_nil, oxmL_nil, instL_nil, gFault, msg0E, *])
       | (refine WK.regX (by kernel_rfl) Tryz.ntmps39 (by kernel_rfl) ?_; intro A hA Q hQ; simp [mgBase, Msg.enc, FlowMod.enc, GroupMod.enc, Flt.enc, msg0, flowMod0, gm0, flt0, uI_zero, byL_nil, oxmL_nil, instL_nil, gFault, msg0E, *])
       | (refine Hid.h hQ _ _ _ (by decide +kernel) ?_; clear hQ hA)
       | (refine RunQ.call rfl rfl rfl rfl rfl ?_ (d) ?_ ?_; (focus (simp (maxDischargeDepth := 120) [mgBase, Msg.enc, FlowMod.enc, GroupMod.enc, Flt.enc, msg0, flowMod0, gm0, flt0, uI_zero, byL_nil, oxmL_nil, instL_nil, gFault, msg0E, *]; done)); (focus (simp [mgBase, Msg.enc, FlowMod.enc, GroupMod.enc, Flt.enc, msg0, flowMod0, gm0, flt0, uI_zero, byL_nil, oxmL_nil, instL_nil, gFault, msg0E, *]; done)); refine RunQ.evalH ?_; simp [mgBase, Msg.enc, FlowMod.enc, GroupMod.enc, Flt.enc, msg0, flowMod0, gm0, flt0, uI_zero, byL_nil, oxmL_nil, instL_nil, gFault, msg0E, *])
       | (refine WK.ret Tryz.func39 ?_ ?_ <;> simp (maxDischargeDepth := 120) [Tryz.results39, mgBase, Msg.enc, FlowMod.enc, GroupMod.enc, Flt.enc, msg0, flowMod0, gm0, flt0, uI_zero, byL_nil, oxmL_nil, instL_nil, gFault, msg0E, *])
       | fail)
    | none =>
      simp only at hF
      rw [hF]
      clear hF b1 b6 hR
      refine FnP.intro Tryz.func39 rfl rfl fun G w => ?_
      repeat' (first
       | refine WK.seq ?_
       | refine WK.block ?_
       | refine WK.inBlock ?_
       | refine WK.skip ?_
       | refine WK.condT rfl ?_
       | refine WK.condF rfl ?_
       | (refine Hid.h hQ _ _ ?_; clear hQ hA)
       | (refine WK.regH Tryz.ntmps39 (by kernel_rfl) ?_; intro A hA Q hQ; simp [mgBase, Msg.enc, FlowMod.enc, GroupMod.enc, Flt.enc, msg0, flowMod0, gm0, flt0, uI_zero, byL_nil, oxmL_nil, instL_nil, gFault, *])
       | (refine RunQ.call rfl rfl rfl rfl rfl ?_ (d) ?_ ?_; (focus (simp (maxDischargeDepth := 120) [mgBase, Msg.enc, FlowMod.enc, GroupMod.enc, Flt.enc, msg0, flowMod0, gm0, flt0, uI_zero, byL_nil, oxmL_nil, instL_nil, gFault, *]; done)); (focus (simp [mgBase, Msg.enc, FlowMod.enc, GroupMod.enc, Flt.enc, msg0, flowMod0, gm0, flt0, uI_zero, byL_nil, oxmL_nil, instL_nil, gFault, *]; done)); refine RunQ.evalH ?_; simp [mgBase, Msg.enc, FlowMod.enc, GroupMod.enc, Flt.enc, msg0, flowMod0, gm0, flt0, uI_zero, byL_nil, oxmL_nil, instL_nil, gFault, *])
       | (refine WK.ret Tryz.func39 ?_ ?_ <;> simp (maxDischargeDepth := 120) [Tryz.results39, mgBase, Msg.enc, FlowMod.enc, GroupMod.enc, Flt.enc, msg0, flowMod0, gm0, flt0, uI_zero, byL_nil, oxmL_nil, instL_nil, gFault, *])
       | fail)
  rw [if_neg k14] at hF
  by_cases k15 : k = 15
  · subst k15
    rw [if_pos rfl] at hF
    have d := gdec_c b (by omega)
    obtain ⟨R, hR⟩ : ∃ R, gmDec b = R := ⟨_, rfl⟩
    rw [hR] at d hF
    obtain ⟨y, c⟩ := R
    unfold byS at *
    cases c with
    | some c =>
      simp only at hF
      rw [hF, msg0_enc]
      clear hF b1 b6 hR
      refine FnP.intro Tryz.func39 rfl rfl fun G w => ?_
      repeat' (first
       | refine WK.seq ?_
       | refine WK.block ?_
       | refine WK.inBlock ?_
       | refine WK.condT rfl ?_
       | refine WK.condF rfl ?_
       | (refine Hid.h hQ _ _ ?_; clear hQ hA)
       | (refine WK.regH Tryz.ntmps39 (by kernel_rfl) ?_; intro A hA Q hQ; simp [mgBase, Msg.enc, FlowMod.enc, GroupMod.enc, Flt.enc, msg0, flowMod0, gm0, flt0, uI_zero, byL_nil, oxmL_nil, instL_nil, gFault, msg0E, *])
       | (refine WK.regX (by kernel_rfl) Tryz.ntmps39 (by kernel_rfl) ?_; intro A hA Q hQ; simp [mgBase, Msg.enc, FlowMod.enc, GroupMod.enc, Flt.enc, msg0, flowMod0, gm0, flt0, uI_zero, byL_nil, oxmL_nil, instL_nil, gFault, msg0E, *])
       | (refine Hid.h hQ _ _ _ (by decide +kernel) ?_; clear hQ hA)
       | (refine RunQ.call rfl rfl rfl rfl rfl ?_ (d) ?_ ?_; (focus (simp (maxDischargeDepth := 120) [mgBase, Msg.enc, FlowMod.enc, GroupMod.enc, Flt.enc, msg0, flowMod0, gm0, flt0, uI_zero, byL_nil, oxmL_nil, instL_nil, gFault, msg0E, *]; done)); (focus (simp [mgBase, Msg.enc, FlowMod.enc, GroupMod.enc, Flt.enc, msg0, flowMod0, gm0, flt0, uI_zero, byL_nil, oxmL_nil, instL_nil, gFault, msg0E, *]; done)); refine RunQ.evalH ?_; simp [mgBase, Msg.enc, FlowMod.enc, GroupMod.enc, Flt.enc, msg0, flowMod0, gm0, flt0, uI_zero, byL_nil, oxmL_nil, instL_nil, gFault, msg0E, *])
       | (refine WK.ret Tryz.func39 ?_ ?_ <;> simp (maxDischargeDepth := 120) [Tryz.results39, mgBase, Msg.enc, FlowMod.enc, GroupMod.enc, Flt.enc, msg0, flowMod0, gm0, flt0, uI_zero, byL_nil, oxmL_nil, instL_nil, gFault, msg0E, *])
       | fail)
    | none =>
      simp only at hF
      rw [hF]
      clear hF b1 b6 hR
      refine FnP.intro Tryz.func39 rfl rfl fun G w => ?_
      repeat' (first
       | refine WK.seq ?_
       | refine WK.block ?_
       | refine WK.inBlock ?_
       | refine WK.skip ?_
       | refine WK.condT rfl ?_
       | refine WK.condF rfl ?_
       | (refine Hid.h hQ _ _ ?_; clear hQ hA)
       | (refine WK.regH Tryz.ntmps39 (by kernel_rfl) ?_; intro A hA Q hQ; simp [mgBase, Msg.enc, FlowMod.enc, GroupMod.enc, Flt.enc, msg0, flowMod0, gm0, flt0, uI_zero, byL_nil, oxmL_nil, instL_nil, gFault, *])
       | (refine RunQ.call rfl rfl rfl rfl rfl ?_ (d) ?_ ?_; (focus (simp (maxDischargeDepth := 120) [mgBase, Msg.enc, FlowMod.enc, GroupMod.enc, Flt.enc, msg0, flowMod0, gm0, flt0, uI_zero, byL_nil, oxmL_nil, instL_nil, gFault, *]; done)); (focus (simp [mgBase, Msg.enc, FlowMod.enc, GroupMod.enc, Flt.enc, msg0, flowMod0, gm0, flt0, uI_zero, byL_nil, oxmL_nil, instL_nil, gFault, *]; done)); refine RunQ.evalH ?_; simp [mgBase, Msg.enc, FlowMod.enc, GroupMod.enc, Flt.enc, msg0, flowMod0, gm0, flt0, uI_zero, byL_nil, oxmL_nil, instL_nil, gFault, *])
       | (refine WK.ret Tryz.func39 ?_ ?_ <;> simp (maxDischargeDepth := 120) [Tryz.results39, mgBase, Msg.enc, FlowMod.enc, GroupMod.enc, Flt.enc, msg0, flowMod0, gm0, flt0, uI_zero, byL_nil, oxmL_nil, instL_nil, gFault, *])
       | fail)
  rw [if_neg k15] at hF
  rw [hF, msg0_enc]
  have j0 : (k == 0) = false := by rw [beq_eq_false_iff_ne]; omega
  have j2 : (k == 2) = false := by rw [beq_eq_false_iff_ne]; omega
  have j3 : (k == 3) = false := by rw [beq_eq_false_iff_ne]; omega
  have j1 : (k == 1) = false := by rw [beq_eq_false_iff_ne]; omega
  have j14 : (k == 14) = false := by rw [beq_eq_false_iff_ne]; omega
  have j15 : (k == 15) = false := by rw [beq_eq_false_iff_ne]; omega
  unfold byS at *
  clear hF b6 k0 k1 k14 k15 hd
  refine FnP.intro Tryz.func39 rfl rfl fun G w => ?_
  repeat' (first
   | refine WK.seq ?_
   | refine WK.block ?_
   | refine WK.condF rfl ?_
   | (refine Hid.h hQ _ _ ?_; clear hQ hA)
   | (refine WK.regH Tryz.ntmps39 (by kernel_rfl) ?_; intro A hA Q hQ; simp [mgBase, Msg.enc, FlowMod.enc, GroupMod.enc, Flt.enc, msg0, flowMod0, gm0, flt0, uI_zero, byL_nil, oxmL_nil, instL_nil, gFault, msg0E, *])
   | (refine RunQ.call rfl rfl rfl rfl rfl ?_ (b1) ?_ ?_; (focus (simp (maxDischargeDepth := 120) [mgBase, Msg.enc, FlowMod.enc, GroupMod.enc, Flt.enc, msg0, flowMod0, gm0, flt0, uI_zero, byL_nil, oxmL_nil, instL_nil, gFault, msg0E, *]; done)); (focus (simp [mgBase, Msg.enc, FlowMod.enc, GroupMod.enc, Flt.enc, msg0, flowMod0, gm0, flt0, uI_zero, byL_nil, oxmL_nil, instL_nil, gFault, msg0E, *]; done)); refine RunQ.evalH ?_; simp [mgBase, Msg.enc, FlowMod.enc, GroupMod.enc, Flt.enc, msg0, flowMod0, gm0, flt0, uI_zero, byL_nil, oxmL_nil, instL_nil, gFault, msg0E, *])
   | (refine WK.ret Tryz.func39 ?_ ?_ <;> simp (maxDischargeDepth := 120) [Tryz.results39, mgBase, Msg.enc, FlowMod.enc, GroupMod.enc, Flt.enc, msg0, flowMod0, gm0, flt0, uI_zero, byL_nil, oxmL_nil, instL_nil, gFault, msg0E, *])
   | fail)
theorem bI_four (x : BitVec 8) : (bI x == 4) = (x == 4#8) := by
  rw [Bool.eq_iff_iff, beq_iff_eq, beq_iff_eq]
  unfold bI
  constructor
  · intro h; exact BitVec.eq_of_toNat_eq (by simp; omega)
  · intro h; subst h; rfl
theorem mgDec_short {b : List (BitVec 8)} (h : b.length < 8) : mgDec b = (msg0, some (1, 6)) := by unfold mgDec; rw [if_pos h]
set_option maxHeartbeats 8000000 in
theorem mgdec_c (b : List (BitVec 8)) (hb : b.length ≤ 80000) : FnP Tryz.prog 16 [byS b] (.tup [.agg (mgDec b).1.enc, .agg (gFault (mgDec b).2)]) := by
  have b6 := mgbad_c 6
  have b0 := mgbad_c 0
  rw [msg0_enc] at b6 b0
  by_cases c0 : b.length < 8
  · have c0' : (b.length : Int) < 8 := by omega
    rw [mgDec_short c0, msg0_enc]
    unfold byS
    clear b0
    refine FnP.intro Tryz.func16 rfl rfl fun G w => ?_
    repeat' (first
     | refine WK.seq ?_
     | refine WK.condT rfl ?_
     | (refine Hid.h hQ _ _ ?_; clear hQ hA)
     | (refine WK.regH Tryz.ntmps16 (by kernel_rfl) ?_; intro A hA Q hQ; simp [gFault, msg0E, *])
     | (refine RunQ.call rfl rfl rfl rfl rfl ?_ (b6) ?_ ?_; (focus (simp (maxDischargeDepth := 120) [gFault, msg0E, *]; done)); (focus (simp [gFault, msg0E, *]; done)); refine RunQ.evalH ?_; simp [gFault, msg0E, *])
     | (refine WK.ret Tryz.func16 ?_ ?_ <;> simp (maxDischargeDepth := 120) [Tryz.results16, gFault, msg0E, *])
     | fail)
  have c0' : ¬ (b.length : Int) < 8 := by omega
  have hD : mgDec b = if (nth b 0 == 4#8) = false then (msg0, some (1, 0)) else if ¬ valN ((b.drop 2).take 2) = b.length then (msg0, some (1, 6)) else mgFill (bI (nth b 1)) (getN b 4 4).1 (b.drop 8) := by unfold mgDec; rw [if_neg c0]
  have g2 := nget_c b 2 2 Sz2 (by omega) (by omega)
  have g4 := nget_c b 4 4 Sz4 (by omega) (by omega)
  have e2 := getN_val (b := b) (p := 2) (s := 2) (by omega)
  have e4 := getN_val (b := b) (p := 4) (s := 4) (by omega)
  rw [e2] at g2
  have x0 := by_get b 0 (by omega)
  have x1 := by_get b 1 (by omega)
  have u0 : (0 : Int) < b.length := by omega
  have u1 : (1 : Int) < b.length := by omega
  have v0 : 0 < b.length := by omega
  have v1 : 1 < b.length := by omega
  have y0 := bI_four (nth b 0)
  have w1 := u8_i64' (nth b 1)
  obtain ⟨z, hz⟩ : ∃ z, (nth b 0 == 4#8) = z := ⟨_, rfl⟩
  rw [hz] at y0 hD
  obtain ⟨X0, h0⟩ : ∃ X, bI (nth b 0) = X := ⟨_, rfl⟩
  rw [h0] at x0 y0
  obtain ⟨X1, h1⟩ : ∃ X, bI (nth b 1) = X := ⟨_, rfl⟩
  rw [h1] at x1 hD w1
  obtain ⟨v, hv⟩ : ∃ v, valN ((b.drop 2).take 2) = v := ⟨_, rfl⟩
  rw [hv] at g2 hD
  have fl := mgfill_c X1 (getN b 4 4).1 (b.drop 8) (by rw [List.length_drop]; omega)
  rw [e4] at g4 hD fl
  simp only at hD fl
  obtain ⟨q, hq⟩ : ∃ q : Int, ((valN ((b.drop 4).take 4) : Nat) : Int) = q := ⟨_, rfl⟩
  rw [hq] at g4 hD fl
  have hs8 : ((byL b).drop 8).take (b.length - 8) = byL (b.drop 8) := by rw [byL_drop]; exact by_full _ _ (by rw [List.length_drop])
  have u8 : (8 : Int) ≤ b.length := by omega
  have hz7 : ((v : Int) == (b.length : Int)) = (v == b.length) := by rw [Bool.eq_iff_iff, beq_iff_eq, beq_iff_eq]; omega
  simp only [byS, List.length_drop] at g2 g4 fl ⊢
  obtain ⟨B8, hB8⟩ : ∃ B, b.drop 8 = B := ⟨_, rfl⟩
  rw [hB8] at fl hs8 hD
  clear hz h0 h1 hv e2 e4 hq hB8 c0
  cases z
  · rw [if_pos rfl] at hD
    rw [hD, msg0_enc]
    clear hD b6 fl
    refine FnP.intro Tryz.func16 rfl rfl fun G w => ?_
    repeat' (first
     | refine WK.seq ?_
     | refine WK.block ?_
     | refine WK.skip ?_
     | refine WK.condT rfl ?_
     | refine WK.condF rfl ?_
     | (refine Hid.h hQ _ _ ?_; clear hQ hA)
     | (refine WK.regH Tryz.ntmps16 (by kernel_rfl) ?_; intro A hA Q hQ; simp [gFault, msg0E, bne, *])
     | (refine RunQ.call rfl rfl rfl rfl rfl ?_ (g2) ?_ ?_; (focus (simp (maxDischargeDepth := 120) [gFault, msg0E, bne, *]; done)); (focus (simp [gFault, msg0E, bne, *]; done)); refine RunQ.evalH ?_; simp [gFault, msg0E, bne, *])
     | (refine RunQ.call rfl rfl rfl rfl rfl ?_ (g4) ?_ ?_; (focus (simp (maxDischargeDepth := 120) [gFault, msg0E, bne, *]; done)); (focus (simp [gFault, msg0E, bne, *]; done)); refine RunQ.evalH ?_; simp [gFault, msg0E, bne, *])
     | (refine RunQ.call rfl rfl rfl rfl rfl ?_ (b0) ?_ ?_; (focus (simp (maxDischargeDepth := 120) [gFault, msg0E, bne, *]; done)); (focus (simp [gFault, msg0E, bne, *]; done)); refine RunQ.evalH ?_; simp [gFault, msg0E, bne, *])
     | (refine WK.ret Tryz.func16 ?_ ?_ <;> simp (maxDischargeDepth := 120) [Tryz.results16, gFault, msg0E, bne, *])
     | fail)
  rw [if_neg (by simp)] at hD
  by_cases hl : v = b.length
  case neg =>
    have hl' : (v == b.length) = false := by simpa using hl
    rw [if_pos hl] at hD
    rw [hD, msg0_enc]
    rw [hl'] at hz7
    clear hD b0 fl hl'
    refine FnP.intro Tryz.func16 rfl rfl fun G w => ?_
    repeat' (first
     | refine WK.seq ?_
     | refine WK.block ?_
     | refine WK.skip ?_
     | refine WK.condT rfl ?_
     | refine WK.condF rfl ?_
     | (refine Hid.h hQ _ _ ?_; clear hQ hA)
     | (refine WK.regH Tryz.ntmps16 (by kernel_rfl) ?_; intro A hA Q hQ; simp [gFault, msg0E, bne, *])
     | (refine RunQ.call rfl rfl rfl rfl rfl ?_ (g2) ?_ ?_; (focus (simp (maxDischargeDepth := 120) [gFault, msg0E, bne, *]; done)); (focus (simp [gFault, msg0E, bne, *]; done)); refine RunQ.evalH ?_; simp [gFault, msg0E, bne, *])
     | (refine RunQ.call rfl rfl rfl rfl rfl ?_ (g4) ?_ ?_; (focus (simp (maxDischargeDepth := 120) [gFault, msg0E, bne, *]; done)); (focus (simp [gFault, msg0E, bne, *]; done)); refine RunQ.evalH ?_; simp [gFault, msg0E, bne, *])
     | (refine RunQ.call rfl rfl rfl rfl rfl ?_ (b6) ?_ ?_; (focus (simp (maxDischargeDepth := 120) [gFault, msg0E, bne, *]; done)); (focus (simp [gFault, msg0E, bne, *]; done)); refine RunQ.evalH ?_; simp [gFault, msg0E, bne, *])
     | (refine WK.ret Tryz.func16 ?_ ?_ <;> simp (maxDischargeDepth := 120) [Tryz.results16, gFault, msg0E, bne, *])
     | fail)
  have hl' : (v == b.length) = true := by simpa using hl
  rw [if_neg (by simpa using hl)] at hD
  rw [hl'] at hz7
  rw [hD]
  have hbase : (mgBase X1 q).enc = [.int .i64 X1, .int .i64 q, .int .u64 0, .int .u64 0, .int .i64 0, .int .i64 0, .int .i64 0, .int .i64 0, .int .i64 0, .int .i64 0, .int .i64 0, .int .i64 0, .int .i64 0, .sl false 0 [], .sl false 0 [], .int .i64 0, .int .i64 0, .int .i64 0, .sl false 0 [], .bool false, .int .i64 0, .int .i64 0, .sl false 0 []] := rfl
  rw [hbase] at fl
  obtain ⟨R, hR⟩ : ∃ R, mgFill X1 q B8 = R := ⟨_, rfl⟩
  rw [hR] at fl ⊢
  obtain ⟨y, c⟩ := R
  obtain ⟨f0, f1, f2, hg⟩ : ∃ f0 f1 f2, gFault c = [.bool f0, .int .i64 f1, .int .i64 f2] := by cases c <;> exact ⟨_, _, _, rfl⟩
  simp only at fl ⊢
  rw [hg] at fl ⊢
  clear hD b0 b6 hbase hl' hR hg
  unfold Msg.enc Flt.enc FlowMod.enc GroupMod.enc at *
  refine FnP.intro Tryz.func16 rfl rfl fun G w => ?_
  repeat' (first
   | refine WK.seq ?_
   | refine WK.block ?_
   | refine WK.inBlock ?_
   | refine WK.skip ?_
   | refine WK.condF rfl ?_
   | (refine Hid.h hQ _ _ ?_; clear hQ hA)
   | (refine WK.regH Tryz.ntmps16 (by kernel_rfl) ?_; intro A hA Q hQ; simp [bne, *])
   | (refine WK.regX (by kernel_rfl) Tryz.ntmps16 (by kernel_rfl) ?_; intro A hA Q hQ; simp [bne, *])
   | (refine Hid.h hQ _ _ _ (by decide +kernel) ?_; clear hQ hA)
   | (refine RunQ.call rfl rfl rfl rfl rfl ?_ (g2) ?_ ?_; (focus (simp (maxDischargeDepth := 120) [bne, *]; done)); (focus (simp [bne, *]; done)); refine RunQ.evalH ?_; simp [bne, *])
   | (refine RunQ.call rfl rfl rfl rfl rfl ?_ (g4) ?_ ?_; (focus (simp (maxDischargeDepth := 120) [bne, *]; done)); (focus (simp [bne, *]; done)); refine RunQ.evalH ?_; simp [bne, *])
   | (refine RunX.call rfl rfl rfl rfl ?_ (fl) ?_ ?_; (focus (simp (maxDischargeDepth := 120) [bne, *]; done)); (focus (simp [bne, *]; done)); refine RunX.evalY ?_; simp [bne, *])
   | (refine WK.ret Tryz.func16 ?_ ?_ <;> simp (maxDischargeDepth := 120) [Tryz.results16, bne, *])
   | fail)
end Go.Proofs.YtcccfbjkcahgfaaGreat
end

section
set_option linter.unusedVariables false
set_option linter.unusedSimpArgs false
namespace Go.Proofs.YtcccfbjkcahgfaaGreat
open Go Go.AI Go.Proofs
attribute [local irreducible] FnP FnO FnB FnT FnSeq WK RunQ RunQW RunX RunXW

def msgPlain (m : Msg) : Bool := decide (m.data.length ≤ 2000) && (FlowMod.plain m.flow && bucketsPlain m.group.buckets 8)
theorem pMsg_c (m : Msg) : FnP Tryz.prog 7 [.agg m.enc] (.bool (msgPlain m)) := by
  have p1 := pMod_c m.flow
  have p2 := pbuckets_c m.group.buckets 8 (by omega)
  have e : msgPlain m = (decide (m.data.length ≤ 2000) && (FlowMod.plain m.flow && bucketsPlain m.group.buckets 8)) := rfl
  obtain ⟨S, hS⟩ : ∃ S, msgPlain m = S := ⟨_, rfl⟩
  rw [hS] at e ⊢
  obtain ⟨z1, hz1⟩ : ∃ z, FlowMod.plain m.flow = z := ⟨_, rfl⟩
  obtain ⟨z2, hz2⟩ : ∃ z, bucketsPlain m.group.buckets 8 = z := ⟨_, rfl⟩
  rw [hz1] at p1 e
  rw [hz2] at p2 e
  clear hS hz1 hz2
  unfold Msg.enc Flt.enc
  unfold FlowMod.enc at *
  unfold GroupMod.enc
  unfold bukS at p2
  by_cases h : m.data.length ≤ 2000
  · have h' : (m.data.length : Int) ≤ 2000 := by omega
    refine FnP.intro Tryz.func7 rfl rfl fun G w => ?_
    repeat' (first
     | refine WK.seq ?_
     | (refine Hid.h hQ _ _ ?_; clear hQ hA)
     | (refine Fork.mk (fun h => ?_) (fun h => ?_) <;> (first | (simp [*] at h; done) | (have h2 := h; simp at h2; exfalso; omega) | (have h2 := h; simp at h2; try simp only [Bool.not_eq_true', Bool.not_eq_false'] at h) | skip))
     | (refine WK.regH Tryz.ntmps7 (by kernel_rfl) ?_; intro A hA Q hQ; simp [*])
     | (refine RunQ.gd rfl (by rw [hA.h]; rfl) ?_; simp [*])
     | (refine RunQW.call rfl rfl rfl rfl ?_ (p1) ?_ ?_; (focus (simp (maxDischargeDepth := 120) [*]; done)); (focus (simp [*]; done)); refine RunQ.evalH ?_; simp [*])
     | (refine RunQW.call rfl rfl rfl rfl ?_ (p2) ?_ ?_; (focus (simp (maxDischargeDepth := 120) [*]; done)); (focus (simp [*]; done)); refine RunQ.evalH ?_; simp [*])
     | (refine WK.ret Tryz.func7 ?_ ?_ <;> simp (maxDischargeDepth := 120) [Tryz.results7, *])
     | fail)
  · have h' : ¬ (m.data.length : Int) ≤ 2000 := by omega
    refine FnP.intro Tryz.func7 rfl rfl fun G w => ?_
    repeat' (first
     | refine WK.seq ?_
     | (refine Hid.h hQ _ _ ?_; clear hQ hA)
     | (refine WK.regH Tryz.ntmps7 (by kernel_rfl) ?_; intro A hA Q hQ; simp [*])
     | (refine RunQ.gd rfl (by rw [hA.h]; rfl) ?_; simp [*])
     | (refine WK.ret Tryz.func7 ?_ ?_ <;> simp (maxDischargeDepth := 120) [Tryz.results7, *])
     | fail)
theorem msgPlain_B {m : Msg} (h : msgPlain m = true) : MsB m := by
  unfold msgPlain at h
  rw [Bool.and_eq_true, Bool.and_eq_true, decide_eq_true_eq] at h
  obtain ⟨h1, h2, h3⟩ := h
  obtain ⟨hl, ha0⟩ := bucketsPlain_facts h3
  exact ⟨fmB_plain h2, ⟨by omega, fun x hx => by have := ha0 x hx; omega⟩, by omega⟩
def L20 : Msg := ⟨15, 8, flowMod0, ⟨0, 0, 5, []⟩, flt0, []⟩
def B20a : List (BitVec 8) := [4#8, 0#8, 0#8, 8#8, 0#8, 0#8, 0#8, 7#8]
def B20b : List (BitVec 8) := [4#8, 99#8, 0#8, 8#8, 0#8, 0#8, 0#8, 7#8]
def M20 : Msg := ⟨0, 7, flowMod0, gm0, flt0, []⟩
theorem fL20a : (mgEnc L20).1.length = 16 := by kernel_rfl
theorem fL20b : (mgEnc L20).2 = 0 := by kernel_rfl
theorem fL20c : mgDec (mgEnc L20).1 = (L20, none) := by kernel_rfl
theorem fL20d : mgRight L20 = true := by kernel_rfl
theorem fL20e : mgDec B20a = (M20, none) := by kernel_rfl
theorem fL20f : mgDec B20b = (msg0, some (1, 1)) := by kernel_rfl
set_option maxHeartbeats 8000000 in
theorem awake20_c : FnP Tryz.prog 8 [] (.bool true) := by
  have hB : MsB L20 := ⟨flowMod0_B, ⟨by simp [L20], by simp [L20]⟩, by simp [L20]⟩
  have p := mgencP_c L20 hB
  have d := mgdec_c (mgEnc L20).1 (by rw [fL20a]; omega)
  have d1 := mgdec_c B20a (by decide)
  have d2 := mgdec_c B20b (by decide)
  have s := mgsame_c L20 L20 hB
  have r := mgright_c L20 hB
  rw [fL20c] at d
  rw [fL20b] at p
  rw [fL20d] at r
  rw [fL20e] at d1
  rw [fL20f] at d2
  rw [mgSame_self] at s
  have hl := fL20a
  obtain ⟨B, hBB⟩ : ∃ B, (mgEnc L20).1 = B := ⟨_, rfl⟩
  rw [hBB] at p d hl
  clear hBB hB
  have e0 : L20.enc = [.int .i64 15, .int .i64 8, .int .u64 0, .int .u64 0, .int .i64 0, .int .i64 0, .int .i64 0, .int .i64 0, .int .i64 0, .int .i64 0, .int .i64 0, .int .i64 0, .int .i64 0, .sl false 0 [], .sl false 0 [], .int .i64 0, .int .i64 0, .int .i64 5, .sl false 0 [], .bool false, .int .i64 0, .int .i64 0, .sl false 0 []] := rfl
  have e1 : M20.enc = [.int .i64 0, .int .i64 7, .int .u64 0, .int .u64 0, .int .i64 0, .int .i64 0, .int .i64 0, .int .i64 0, .int .i64 0, .int .i64 0, .int .i64 0, .int .i64 0, .int .i64 0, .sl false 0 [], .sl false 0 [], .int .i64 0, .int .i64 0, .int .i64 0, .sl false 0 [], .bool false, .int .i64 0, .int .i64 0, .sl false 0 []] := rfl
  have ea : byS B20a = .sl false 8 [.int .u8 4, .int .u8 0, .int .u8 0, .int .u8 8, .int .u8 0, .int .u8 0, .int .u8 0, .int .u8 7] := rfl
  have eb : byS B20b = .sl false 8 [.int .u8 4, .int .u8 99, .int .u8 0, .int .u8 8, .int .u8 0, .int .u8 0, .int .u8 0, .int .u8 7] := rfl
  rw [ea, e1] at d1
  rw [eb, msg0_enc] at d2
  unfold byS at p d
  rw [hl] at p d
  simp only [e0, gFault, msg0E] at p d d1 d2 s r
  refine FnP.intro Tryz.func8 rfl rfl fun G w => ?_
  repeat' (first
   | refine WK.seq ?_
   | (refine Hid.h hQ _ _ ?_; clear hQ hA)
   | (refine WK.regH Tryz.ntmps8 (by kernel_rfl) ?_; intro A hA Q hQ; simp [*])
   | (refine RunQ.gd rfl (by rw [hA.h]; rfl) ?_; simp [*])
   | (refine RunQ.call rfl rfl rfl rfl rfl ?_ (p) ?_ ?_; (focus (simp (maxDischargeDepth := 120) [*]; done)); (focus (simp [*]; done)); refine RunQ.evalH ?_; simp [*])
   | (refine RunQ.call rfl rfl rfl rfl rfl ?_ (d) ?_ ?_; (focus (simp (maxDischargeDepth := 120) [*]; done)); (focus (simp [*]; done)); refine RunQ.evalH ?_; simp [*])
   | (refine RunQ.call rfl rfl rfl rfl rfl ?_ (d1) ?_ ?_; (focus (simp (maxDischargeDepth := 120) [*]; done)); (focus (simp [*]; done)); refine RunQ.evalH ?_; simp [*])
   | (refine RunQ.call rfl rfl rfl rfl rfl ?_ (d2) ?_ ?_; (focus (simp (maxDischargeDepth := 120) [*]; done)); (focus (simp [*]; done)); refine RunQ.evalH ?_; simp [*])
   | (refine RunQW.call rfl rfl rfl rfl ?_ (s) ?_ ?_; (focus (simp (maxDischargeDepth := 120) [*]; done)); (focus (simp [*]; done)); refine RunQ.evalH ?_; simp [*])
   | (refine RunQW.call rfl rfl rfl rfl ?_ (r) ?_ ?_; (focus (simp (maxDischargeDepth := 120) [*]; done)); (focus (simp [*]; done)); refine RunQ.evalH ?_; simp [*])
   | (refine WK.ret Tryz.func8 ?_ ?_ <;> simp (maxDischargeDepth := 120) [Tryz.results8, *])
   | fail)
end Go.Proofs.YtcccfbjkcahgfaaGreat
end

section
set_option linter.unusedVariables false
set_option linter.unusedSimpArgs false
namespace Go.Proofs.YtcccfbjkcahgfaaGreat
open Go Go.AI Go.Proofs

def frVal (b : List (BitVec 8)) : Nat := valN ((b.drop 2).take 2)
/-- how many bytes the first message has; whether it is whole -/
def frSays (b : List (BitVec 8)) : Nat × Bool := if b.length < 8 then (0, false) else if frVal b < 8 then (b.length, true) else (frVal b, decide (frVal b ≤ b.length))
def frCut : Nat → List (BitVec 8) → List (List (BitVec 8)) × List (BitVec 8)
  | 0, b => ([], b)
  | f + 1, b => if (frSays b).2 = true then (b.take (frSays b).1 :: (frCut f (b.drop (frSays b).1)).1, (frCut f (b.drop (frSays b).1)).2) else ([], b)
def frList (b : List (BitVec 8)) : List (List (BitVec 8)) := (frCut b.length b).1
def frRest (b : List (BitVec 8)) : List (BitVec 8) := (frCut b.length b).2
theorem frSays_len {b : List (BitVec 8)} (h : (frSays b).2 = true) : 8 ≤ (frSays b).1 ∧ (frSays b).1 ≤ b.length ∧ 8 ≤ b.length := by
  unfold frSays at *
  by_cases h1 : b.length < 8
  · rw [if_pos h1] at h; cases h
  rw [if_neg h1] at h ⊢
  by_cases h2 : frVal b < 8
  · rw [if_pos h2]; simp only; omega
  · rw [if_neg h2] at h ⊢
    have := of_decide_eq_true h
    simp only; omega
theorem frCut_fuel : ∀ (f g : Nat) (b : List (BitVec 8)), b.length ≤ f → b.length ≤ g → frCut f b = frCut g b
  | 0, 0, b, _, _ => rfl
  | 0, g + 1, b, h, _ => by
    have hb : (frSays b).2 = false := by
      cases hs : (frSays b).2
      · rfl
      · have := frSays_len hs; omega
    rw [frCut, frCut, if_neg (by rw [hb]; simp)]
  | f + 1, 0, b, _, h => by
    have hb : (frSays b).2 = false := by
      cases hs : (frSays b).2
      · rfl
      · have := frSays_len hs; omega
    rw [frCut, frCut, if_neg (by rw [hb]; simp)]
  | f + 1, g + 1, b, h1, h2 => by
    rw [frCut, frCut]
    cases hs : (frSays b).2
    · rw [if_neg (by simp), if_neg (by simp)]
    · have := frSays_len hs
      rw [if_pos rfl, if_pos rfl, frCut_fuel f g (b.drop (frSays b).1) (by rw [List.length_drop]; omega) (by rw [List.length_drop]; omega)]
theorem frCut_at {f : Nat} {b : List (BitVec 8)} (h : b.length ≤ f) : frCut f b = (frList b, frRest b) := by unfold frList frRest; rw [frCut_fuel f b.length b h (Nat.le_refl _)]
theorem frList_some {b : List (BitVec 8)} (h : (frSays b).2 = true) : frList b = b.take (frSays b).1 :: frList (b.drop (frSays b).1) ∧ frRest b = frRest (b.drop (frSays b).1) := by
  have hl := frSays_len h
  obtain ⟨f, hf⟩ : ∃ f, b.length = f + 1 := ⟨b.length - 1, by omega⟩
  have e : frCut (f + 1) b = (b.take (frSays b).1 :: frList (b.drop (frSays b).1), frRest (b.drop (frSays b).1)) := by
    rw [frCut, if_pos h, frCut_at (by rw [List.length_drop]; omega)]
  unfold frList frRest
  rw [hf, e]
  exact ⟨rfl, rfl⟩
theorem frList_none {b : List (BitVec 8)} (h : (frSays b).2 = false) : frList b = [] ∧ frRest b = b := by
  unfold frList frRest
  cases hb : b.length with
  | zero => exact ⟨rfl, rfl⟩
  | succ f => rw [frCut, if_neg (by rw [h]; simp)]; exact ⟨rfl, rfl⟩
theorem frVal_app {a b : List (BitVec 8)} (h : 4 ≤ a.length) : frVal (a ++ b) = frVal a := by
  unfold frVal
  rw [List.drop_append_of_le_length (by omega), List.take_append_of_le_length (by rw [List.length_drop]; omega)]
/-- a whole message ahead of others -/
theorem frList_cons {m b : List (BitVec 8)} (h8 : 8 ≤ m.length) (hv : frVal m = m.length) : frList (m ++ b) = m :: frList b ∧ frRest (m ++ b) = frRest b := by
  have hs : frSays (m ++ b) = (m.length, true) := by
    unfold frSays
    rw [frVal_app (by omega), if_neg (by rw [List.length_append]; omega), if_neg (by omega), hv]
    refine Prod.ext rfl ?_
    simp only [List.length_append]
    exact decide_eq_true (by omega)
  obtain ⟨e1, e2⟩ := frList_some (b := m ++ b) (by rw [hs])
  rw [hs] at e1 e2
  rw [e1, e2]
  simp only [List.take_left, List.drop_left]
  exact ⟨trivial, trivial⟩
theorem frHead_val {k x : Int} {b : List (BitVec 8)} (h : (frHead k x b).2 = 0) : (frHead k x b).1.length = 8 + b.length ∧ frVal (frHead k x b).1 = 8 + b.length ∧ b.length ≤ 65527 := by
  unfold frHead at *
  split at h
  · rename_i hh
    rw [if_pos hh]
    simp only
    obtain ⟨B, hB⟩ : ∃ B, beN 4 1 ++ (beN k 1 ++ (beN (8 + b.length : Nat) 2 ++ (beN x 4 ++ b))) = B := ⟨_, rfl⟩
    have hBl : B.length = 8 + b.length := by rw [← hB]; simp [beN_len]; omega
    have g2 : getN B 2 2 = (((8 + b.length : Nat) : Int), 0) := getN_at (x := beN 4 1 ++ beN k 1) (z := beN x 4 ++ b) (by rw [← hB]; simp only [List.append_assoc]) (by simp [beN_len]) (numOk2 (by omega))
    rw [getN_val (by omega)] at g2
    rw [hB]
    refine ⟨hBl, ?_, hh.2⟩
    simp only [Prod.mk.injEq, and_true] at g2
    unfold frVal
    omega
  · cases h
theorem mgEnc_head {m : Msg} (h : mgRight m = true) : mgEnc m = frHead m.kind m.xid (mgBody m) ∧ (mgEnc m).2 = 0 := by
  have e : mgEnc m = frHead m.kind m.xid (mgBody m) := by unfold mgEnc; rw [if_pos h]
  exact ⟨e, by rw [mgEnc_good h]⟩
theorem mgEnc_val {m : Msg} (h : mgRight m = true) : 8 ≤ (mgEnc m).1.length ∧ frVal (mgEnc m).1 = (mgEnc m).1.length := by
  obtain ⟨h1, h2⟩ := mgEnc_head h
  rw [h1] at h2 ⊢
  obtain ⟨h3, h4, _⟩ := frHead_val h2
  omega
/-- what is left when i messages have been taken -/
def frAt (b : List (BitVec 8)) : Nat → List (BitVec 8)
  | 0 => b
  | i + 1 => (frAt b i).drop (frSays (frAt b i)).1
theorem frAt_drop (b : List (BitVec 8)) : ∀ i, frAt (b.drop (frSays b).1) i = frAt b (i + 1)
  | 0 => rfl
  | i + 1 => by
    show (frAt (b.drop (frSays b).1) i).drop (frSays (frAt (b.drop (frSays b).1) i)).1 = _
    rw [frAt_drop b i]; rfl
theorem frAt_len (b : List (BitVec 8)) : ∀ i, (frAt b i).length ≤ b.length
  | 0 => Nat.le_refl _
  | i + 1 => by
    have := frAt_len b i
    rw [frAt, List.length_drop]; omega
theorem frList_at : ∀ (i : Nat) (b : List (BitVec 8)), (i < (frList b).length → (frSays (frAt b i)).2 = true ∧ (frList b)[i]? = some ((frAt b i).take (frSays (frAt b i)).1)) ∧ (i = (frList b).length → (frSays (frAt b i)).2 = false ∧ frAt b i = frRest b)
  | 0, b => by
    cases hs : (frSays b).2
    · obtain ⟨e1, e2⟩ := frList_none hs
      rw [e1, e2]
      exact ⟨fun h => by simp at h, fun _ => ⟨hs, rfl⟩⟩
    · obtain ⟨e1, e2⟩ := frList_some hs
      rw [e1]
      exact ⟨fun _ => ⟨hs, rfl⟩, fun h => by simp at h⟩
  | i + 1, b => by
    cases hs : (frSays b).2
    · obtain ⟨e1, e2⟩ := frList_none hs
      rw [e1]
      exact ⟨fun h => by simp at h, fun h => by simp at h⟩
    · obtain ⟨e1, e2⟩ := frList_some hs
      obtain ⟨h1, h2⟩ := frList_at i (b.drop (frSays b).1)
      rw [frAt_drop] at h1 h2
      rw [e1, e2, List.length_cons, List.getElem?_cons_succ]
      exact ⟨fun h => h1 (by omega), fun h => h2 (by omega)⟩
end Go.Proofs.YtcccfbjkcahgfaaGreat
end

section
set_option linter.unusedVariables false
set_option linter.unusedSimpArgs false
namespace Go.Proofs.YtcccfbjkcahgfaaGreat
open Go Go.AI Go.Proofs
attribute [local irreducible] FnP FnO FnB FnT FnSeq FnV FnSeqV WK RunQ RunQW RunX RunXW

theorem says_c (b : List (BitVec 8)) (hb : b.length ≤ 1000000) : FnP Tryz.prog 80 [byS b] (.tup [.int .i64 ((frSays b).1 : Nat), .bool (frSays b).2]) := by
  by_cases h1 : b.length < 8
  · have e : frSays b = (0, false) := by unfold frSays; rw [if_pos h1]
    rw [e]
    unfold byS
    have h1' : (b.length : Int) < 8 := by omega
    refine FnP.intro Tryz.func80 rfl rfl fun G w => ?_
    repeat' (first
     | refine WK.seq ?_
     | refine WK.block ?_
     | refine WK.inBlock ?_
     | refine WK.skip ?_
     | refine WK.label ?_
     | refine WK.scope ?_
     | refine WK.inScope ?_
     | refine WK.exit rfl ?_
     | refine WK.condT rfl ?_
     | refine WK.condF rfl ?_
     | (refine Hid.h hQ _ _ ?_; clear hQ hA)
     | refine WK.condAny rfl ?_ ?_
     | (refine WK.cond2 rfl (fun h => ?_) (fun h => ?_) <;> (first | (simp [*] at h; done) | (have h2 := h; simp at h2; exfalso; omega) | (have h2 := h; simp at h2; try simp only [Bool.not_eq_true', Bool.not_eq_false'] at h) | skip))
     | (refine WK.regH Tryz.ntmps80 (by kernel_rfl) ?_; intro A hA Q hQ; simp [*])
     | (refine WK.ret Tryz.func80 ?_ ?_ <;> simp (maxDischargeDepth := 120) [Tryz.results80, *])
     | fail)
  have g := nget_c b 2 2 Sz2 (by omega) (by omega)
  rw [getN_val (by omega)] at g
  have h1' : ¬ (b.length : Int) < 8 := by omega
  have e : frSays b = if frVal b < 8 then (b.length, true) else (frVal b, decide (frVal b ≤ b.length)) := by unfold frSays; rw [if_neg h1]
  rw [e]
  clear e
  obtain ⟨v, hv⟩ : ∃ v, frVal b = v := ⟨_, rfl⟩
  have hv' : valN (List.take 2 (List.drop 2 b)) = v := hv
  rw [hv'] at g
  rw [hv]
  clear hv hv'
  unfold byS at *
  by_cases h2 : v < 8
  · have h2' : (v : Int) < 8 := by omega
    rw [if_pos h2]
    refine FnP.intro Tryz.func80 rfl rfl fun G w => ?_
    repeat' (first
     | refine WK.seq ?_
     | refine WK.block ?_
     | refine WK.inBlock ?_
     | refine WK.skip ?_
     | refine WK.label ?_
     | refine WK.scope ?_
     | refine WK.inScope ?_
     | refine WK.exit rfl ?_
     | refine WK.condT rfl ?_
     | refine WK.condF rfl ?_
     | (refine Hid.h hQ _ _ ?_; clear hQ hA)
     | refine WK.condAny rfl ?_ ?_
     | (refine WK.cond2 rfl (fun h => ?_) (fun h => ?_) <;> (first | (simp [*] at h; done) | (have h2 := h; simp at h2; exfalso; omega) | (have h2 := h; simp at h2; try simp only [Bool.not_eq_true', Bool.not_eq_false'] at h) | skip))
     | (refine WK.regH Tryz.ntmps80 (by kernel_rfl) ?_; intro A hA Q hQ; simp [*])
     | (refine RunQ.call rfl rfl rfl rfl rfl ?_ (g) ?_ ?_; (focus (simp (maxDischargeDepth := 120) [*]; done)); (focus (simp [*]; done)); refine RunQ.evalH ?_; simp [*])
     | (refine WK.ret Tryz.func80 ?_ ?_ <;> simp (maxDischargeDepth := 120) [Tryz.results80, *])
     | fail)
  · have h2' : ¬ (v : Int) < 8 := by omega
    rw [if_neg h2]
    by_cases h3 : v ≤ b.length
    · have h3' : (v : Int) ≤ b.length := by omega
      rw [decide_eq_true h3]
      refine FnP.intro Tryz.func80 rfl rfl fun G w => ?_
      repeat' (first
       | refine WK.seq ?_
       | refine WK.block ?_
       | refine WK.inBlock ?_
       | refine WK.skip ?_
       | refine WK.label ?_
       | refine WK.scope ?_
       | refine WK.inScope ?_
       | refine WK.exit rfl ?_
       | refine WK.condT rfl ?_
       | refine WK.condF rfl ?_
       | (refine Hid.h hQ _ _ ?_; clear hQ hA)
       | refine WK.condAny rfl ?_ ?_
       | (refine WK.cond2 rfl (fun h => ?_) (fun h => ?_) <;> (first | (simp [*] at h; done) | (have h2 := h; simp at h2; exfalso; omega) | (have h2 := h; simp at h2; try simp only [Bool.not_eq_true', Bool.not_eq_false'] at h) | skip))
       | (refine WK.regH Tryz.ntmps80 (by kernel_rfl) ?_; intro A hA Q hQ; simp [*])
       | (refine RunQ.call rfl rfl rfl rfl rfl ?_ (g) ?_ ?_; (focus (simp (maxDischargeDepth := 120) [*]; done)); (focus (simp [*]; done)); refine RunQ.evalH ?_; simp [*])
       | (refine WK.ret Tryz.func80 ?_ ?_ <;> simp (maxDischargeDepth := 120) [Tryz.results80, *])
       | fail)
    · have h3' : ¬ (v : Int) ≤ b.length := by omega
      rw [decide_eq_false h3]
      refine FnP.intro Tryz.func80 rfl rfl fun G w => ?_
      repeat' (first
       | refine WK.seq ?_
       | refine WK.block ?_
       | refine WK.inBlock ?_
       | refine WK.skip ?_
       | refine WK.label ?_
       | refine WK.scope ?_
       | refine WK.inScope ?_
       | refine WK.exit rfl ?_
       | refine WK.condT rfl ?_
       | refine WK.condF rfl ?_
       | (refine Hid.h hQ _ _ ?_; clear hQ hA)
       | refine WK.condAny rfl ?_ ?_
       | (refine WK.cond2 rfl (fun h => ?_) (fun h => ?_) <;> (first | (simp [*] at h; done) | (have h2 := h; simp at h2; exfalso; omega) | (have h2 := h; simp at h2; try simp only [Bool.not_eq_true', Bool.not_eq_false'] at h) | skip))
       | (refine WK.regH Tryz.ntmps80 (by kernel_rfl) ?_; intro A hA Q hQ; simp [*])
       | (refine RunQ.call rfl rfl rfl rfl rfl ?_ (g) ?_ ?_; (focus (simp (maxDischargeDepth := 120) [*]; done)); (focus (simp [*]; done)); refine RunQ.evalH ?_; simp [*])
       | (refine WK.ret Tryz.func80 ?_ ?_ <;> simp (maxDischargeDepth := 120) [Tryz.results80, *])
       | fail)
/-- the i-th message and what is behind it -/
def frX (b : List (BitVec 8)) (i : Nat) : List AV := [byS ((frAt b i).take (frSays (frAt b i)).1), byS (frAt b (i + 1))]
def frXs (b : List (BitVec 8)) : List (List AV) := (List.range (frList b).length).map (frX b)
def frB (b : List (BitVec 8)) (i : Nat) : Box := .var [.sl false (frAt b i).length (byL (frAt b i))]
theorem frXs_len (b : List (BitVec 8)) : (frXs b).length = (frList b).length := by simp [frXs]
theorem frXs_get {b : List (BitVec 8)} {i : Nat} (h : i < (frList b).length) : (frXs b)[i]? = some (frX b i) := by
  unfold frXs; simp [h]
theorem pseq_c (b : List (BitVec 8)) (hb : b.length ≤ 1000000) : FnSeqV Tryz.prog 79 (frXs b) (frB b) := by
  have hs0 := says_c b hb
  unfold byS at hs0
  refine FnSeqV.intro Tryz.func79 rfl rfl fun lp Y go hW G w own l1 => ?_
  have e0 : frB b 0 = .var [.sl false b.length (byL b)] := rfl
  rw [e0]
  repeat' (first
   | refine WK.seq ?_
   | refine WK.block ?_
   | refine WK.inBlock ?_
   | refine WK.skip ?_
   | refine WK.label ?_
   | refine WK.scope ?_
   | refine WK.inScope ?_
   | refine WK.exit rfl ?_
   | refine WK.condT rfl ?_
   | refine WK.condF rfl ?_
   | (refine Hid.h hQ _ _ ?_; clear hQ hA)
   | refine WK.condAny rfl ?_ ?_
   | (refine WK.cond2 rfl (fun h => ?_) (fun h => ?_) <;> (first | (simp [*] at h; done) | (have h2 := h; simp at h2; exfalso; omega) | (have h2 := h; simp at h2; try simp only [Bool.not_eq_true', Bool.not_eq_false'] at h) | skip))
   | (refine WK.regH Tryz.ntmps79 (by kernel_rfl) ?_; intro A hA Q hQ; simp [*])
   | (refine RunQ.call rfl rfl rfl rfl rfl ?_ (hs0) ?_ ?_; (focus (simp (maxDischargeDepth := 120) [*]; done)); (focus (simp [*]; done)); refine RunQ.evalH ?_; simp [*])
   | fail)
  repeat (first | refine WK.seq ?_ | refine WK.block ?_ | refine WK.inBlock ?_ | refine WK.skip ?_ | refine WK.label ?_ | refine WK.scope ?_ | refine WK.inScope ?_ | refine WK.exit rfl ?_)
  refine WK.loopI (fun n => n) (fun i : Nat => (⟨(upd (upd (upd (upd J 0 (.yv lp)) 1 (.ptr 1 0)) 3 (.int .i64 ((frSays (frAt b i)).1 : Nat))) 4 (.bool (frSays (frAt b i)).2)), (upd (upd B0 0 (.frn Y i)) 1 (.var [.sl false (frAt b i).length (byL (frAt b i))])), 0⟩ : St)) (fun i => i ≤ (frList b).length ∧ ∀ j, j < i → go j = true) (fun i => (frList b).length - i) (0) (by repeat (first | exact TmW.nil | refine TmW.upd ?_ (by simp (maxDischargeDepth := 120) [frAt]))) (by repeat (first | exact BxW.nil | refine BxW.upd ?_ (by simp (maxDischargeDepth := 120) [frAt]))) (by first | exact InjW.id | exact InjW.nil | exact InjW.one | exact InjW.two (by simp) | exact InjW.three (by simp) (by simp) (by simp)) (⟨by omega, by simp⟩) (fun i hi IH => ?_)
  obtain ⟨ha1, ha2⟩ := frList_at i b
  rcases Nat.lt_or_ge i (frList b).length with hi' | hi'
  · obtain ⟨h1, h2⟩ := ha1 hi'
    have hl := frSays_len h1
    have hn := frAt_len b i
    have hs := says_c (frAt b (i + 1)) (by have := frAt_len b (i + 1); omega)
    have hx := frXs_get hi'
    have hC : frAt b (i + 1) = (frAt b i).drop (frSays (frAt b i)).1 := rfl
    unfold frX at hx
    obtain ⟨c, hc⟩ : ∃ c, frAt b i = c := ⟨_, rfl⟩
    obtain ⟨d, hd⟩ : ∃ d, frAt b (i + 1) = d := ⟨_, rfl⟩
    obtain ⟨k, hk⟩ : ∃ k, (frSays c).1 = k := ⟨_, rfl⟩
    rw [hd] at hx hs
    rw [hc] at h1 hx hn hl hC ⊢
    rw [hd] at hC
    rw [h1]
    rw [hk] at hl hx hC ⊢
    obtain ⟨p, hp⟩ : ∃ p, c.take k = p := ⟨_, rfl⟩
    have hpl : p.length = k := by rw [← hp, List.length_take]; omega
    have hdl : d.length = c.length - k := by rw [hC, List.length_drop]
    have hpt : (byL c).take k = byL p := by rw [byL_take, hp]
    have hdt : (byL c).drop k = byL d := by rw [byL_drop, ← hC]
    have hdf : (byL d).take (c.length - k) = byL d := by rw [← hdl]; exact by_full d _ rfl
    have hB : frB b (i + 1) = .var [.sl false d.length (byL d)] := by unfold frB; rw [hd]
    rw [hp] at hx
    unfold byS at hx hs
    have hck : (k : Int) ≤ c.length := by omega
    clear h2 ha1 ha2 hp hC hs0
    cases hg : go i
    · have h8 := taken_stop (n := (frXs b).length) hi.2 hg (by rw [frXs_len]; exact hi')
      rw [h8, hB]
      clear IH
      repeat' (first
       | refine WK.seq ?_
       | refine WK.block ?_
       | refine WK.inBlock ?_
       | refine WK.skip ?_
       | refine WK.label ?_
       | refine WK.scope ?_
       | refine WK.inScope ?_
       | refine WK.exit rfl ?_
       | refine WK.condT rfl ?_
       | refine WK.condF rfl ?_
       | (refine Hid.h hQ _ _ ?_; clear hQ hA)
       | refine WK.condAny rfl ?_ ?_
       | (refine WK.cond2 rfl (fun h => ?_) (fun h => ?_) <;> (first | (simp [*] at h; done) | (have h2 := h; simp at h2; exfalso; omega) | (have h2 := h; simp at h2; try simp only [Bool.not_eq_true', Bool.not_eq_false'] at h) | skip))
       | (refine WK.regH Tryz.ntmps79 (by kernel_rfl) ?_; intro A hA Q hQ; simp [*])
       | (refine RunQ.yieldH 0 hW rfl rfl rfl rfl rfl rfl (hx) (hi.2) ?_ ?_ ?_; (focus (simp (maxDischargeDepth := 120) [*]; done)); (focus (simp [*]; done)); refine RunQ.evalH ?_; simp [*])
       | fail)
      repeat (first | refine WK.seq ?_ | refine WK.block ?_ | refine WK.inBlock ?_ | refine WK.skip ?_ | refine WK.label ?_ | refine WK.scope ?_ | refine WK.inScope ?_ | refine WK.exit rfl ?_)
      refine WK.retV Tryz.func79 (by simp (maxDischargeDepth := 120) [Tryz.results79, hdl]) (by simp [hdl]) (by simp [hdl]) rfl (.inr ⟨_, rfl⟩)
    · repeat' (first
       | refine WK.seq ?_
       | refine WK.block ?_
       | refine WK.inBlock ?_
       | refine WK.skip ?_
       | refine WK.label ?_
       | refine WK.scope ?_
       | refine WK.inScope ?_
       | refine WK.exit rfl ?_
       | refine WK.condT rfl ?_
       | refine WK.condF rfl ?_
       | (refine Hid.h hQ _ _ ?_; clear hQ hA)
       | refine WK.condAny rfl ?_ ?_
       | (refine WK.cond2 rfl (fun h => ?_) (fun h => ?_) <;> (first | (simp [*] at h; done) | (have h2 := h; simp at h2; exfalso; omega) | (have h2 := h; simp at h2; try simp only [Bool.not_eq_true', Bool.not_eq_false'] at h) | skip))
       | (refine WK.regH Tryz.ntmps79 (by kernel_rfl) ?_; intro A hA Q hQ; simp [*])
       | (refine RunQ.yieldH 0 hW rfl rfl rfl rfl rfl rfl (hx) (hi.2) ?_ ?_ ?_; (focus (simp (maxDischargeDepth := 120) [*]; done)); (focus (simp [*]; done)); refine RunQ.evalH ?_; simp [*])
       | (refine RunQ.call rfl rfl rfl rfl rfl ?_ (hs) ?_ ?_; (focus (simp (maxDischargeDepth := 120) [*]; done)); (focus (simp [*]; done)); refine RunQ.evalH ?_; simp [*])
       | fail)
      repeat (first | refine WK.seq ?_ | refine WK.block ?_ | refine WK.inBlock ?_ | refine WK.skip ?_ | refine WK.label ?_ | refine WK.scope ?_ | refine WK.inScope ?_ | refine WK.exit rfl ?_)
      refine WK.next (fun n => n) (IH (i + 1) (⟨by omega, fun j hj => by rcases Nat.lt_or_ge j i with h | h; (exact hi.2 j h); (rw [show j = i by omega]; exact hg)⟩) (by first | omega | (dsimp only; omega))) (by repeat (first | exact TmW.nil | refine TmW.upd ?_ (by simp (maxDischargeDepth := 120) [hd, hdl]))) (by repeat (first | exact BxW.nil | refine BxW.upd ?_ (by simp (maxDischargeDepth := 120) [hd, hdl]))) (by first | exact InjW.id | exact InjW.nil | exact InjW.one | exact InjW.two (by simp) | exact InjW.three (by simp) (by simp) (by simp))
  · have hi'' : i = (frList b).length := by omega
    obtain ⟨h1, h2⟩ := ha2 hi''
    have h8 : taken go (frXs b).length = i := by rw [taken_all (by rw [frXs_len, ← hi'']; exact hi.2), frXs_len, hi'']
    rw [h8, h1]
    have hB : frB b i = .var [.sl false (frAt b i).length (byL (frAt b i))] := rfl
    rw [hB]
    clear IH ha1 ha2 hs0 hi hi' hi'' h2
    repeat' (first
     | refine WK.seq ?_
     | refine WK.block ?_
     | refine WK.inBlock ?_
     | refine WK.skip ?_
     | refine WK.label ?_
     | refine WK.scope ?_
     | refine WK.inScope ?_
     | refine WK.exit rfl ?_
     | refine WK.condT rfl ?_
     | refine WK.condF rfl ?_
     | (refine Hid.h hQ _ _ ?_; clear hQ hA)
     | refine WK.condAny rfl ?_ ?_
     | (refine WK.cond2 rfl (fun h => ?_) (fun h => ?_) <;> (first | (simp [*] at h; done) | (have h2 := h; simp at h2; exfalso; omega) | (have h2 := h; simp at h2; try simp only [Bool.not_eq_true', Bool.not_eq_false'] at h) | skip))
     | (refine WK.regH Tryz.ntmps79 (by kernel_rfl) ?_; intro A hA Q hQ; simp [*])
     | fail)
    repeat (first | refine WK.seq ?_ | refine WK.block ?_ | refine WK.inBlock ?_ | refine WK.skip ?_ | refine WK.label ?_ | refine WK.scope ?_ | refine WK.inScope ?_ | refine WK.exit rfl ?_)
    refine WK.retV Tryz.func79 (by simp (maxDischargeDepth := 120) [Tryz.results79]) (by simp) (by simp) rfl (.inl rfl)
theorem pieces_c (b : List (BitVec 8)) : FnV Tryz.prog 46 [byS b] 79 (.var [byS b]) := by
  unfold byS
  refine FnV.intro Tryz.func46 rfl rfl fun G w => ?_
  repeat' (first
   | refine WK.seq ?_
   | refine WK.block ?_
   | refine WK.inBlock ?_
   | refine WK.skip ?_
   | refine WK.label ?_
   | refine WK.scope ?_
   | refine WK.inScope ?_
   | refine WK.exit rfl ?_
   | refine WK.condT rfl ?_
   | refine WK.condF rfl ?_
   | (refine Hid.h hQ _ _ ?_; clear hQ hA)
   | refine WK.condAny rfl ?_ ?_
   | (refine WK.cond2 rfl (fun h => ?_) (fun h => ?_) <;> (first | (simp [*] at h; done) | (have h2 := h; simp at h2; exfalso; omega) | (have h2 := h; simp at h2; try simp only [Bool.not_eq_true', Bool.not_eq_false'] at h) | skip))
   | (refine WK.regH Tryz.ntmps46 (by kernel_rfl) ?_; intro A hA Q hQ; simp [*])
   | fail)
  repeat (first | refine WK.seq ?_ | refine WK.block ?_ | refine WK.inBlock ?_ | refine WK.skip ?_ | refine WK.label ?_ | refine WK.scope ?_ | refine WK.inScope ?_ | refine WK.exit rfl ?_)
  refine WK.retF (m := 0) Tryz.func46 (by simp (maxDischargeDepth := 120) [Tryz.results46]) (by simp) rfl
/-- what Split yields -/
def frYs (b : List (BitVec 8)) : List (List AV) := (frList b).map fun m => [byS m]
theorem frYs_len (b : List (BitVec 8)) : (frYs b).length = (frList b).length := by simp [frYs]
theorem frYs_get {b m : List (BitVec 8)} {i : Nat} (h : (frList b)[i]? = some m) : (frYs b)[i]? = some [byS m] := by simp [frYs, h]
theorem frXs_all (b : List (BitVec 8)) : ∀ x, x ∈ frXs b → x.length = 2 ∧ ClL x = true := by
  intro x hx
  simp only [frXs, List.mem_map] at hx
  obtain ⟨i, _, rfl⟩ := hx
  exact ⟨rfl, by simp [frX, byS]⟩
theorem split_c (b : List (BitVec 8)) : FnP Tryz.prog 45 [byS b] (.fn 78 [.iptr [byS b]]) := by
  unfold byS
  refine FnP.intro Tryz.func45 rfl rfl fun G w => ?_
  repeat (first | refine WK.seq ?_ | refine WK.block ?_ | refine WK.inBlock ?_ | refine WK.skip ?_ | refine WK.label ?_ | refine WK.scope ?_ | refine WK.inScope ?_ | refine WK.exit rfl ?_)
  first | refine WK.reg 100 Tryz.ntmps45 (by kernel_rfl) ?_ | refine WK.regD 100 clsOf (by kernel_rfl) Tryz.ntmps45 (by kernel_rfl) (by kernel_rfl) ?_
  intro A hA Q hQ
  simp
  refine hQ _ _ ?_
  clear hQ hA
  repeat (first | refine WK.seq ?_ | refine WK.block ?_ | refine WK.inBlock ?_ | refine WK.skip ?_ | refine WK.label ?_ | refine WK.scope ?_ | refine WK.inScope ?_ | refine WK.exit rfl ?_)
  refine WK.ghost (Ghost.frzVar 1 rfl rfl) ?_
  repeat (first | refine WK.seq ?_ | refine WK.block ?_ | refine WK.inBlock ?_ | refine WK.skip ?_ | refine WK.label ?_ | refine WK.scope ?_ | refine WK.inScope ?_ | refine WK.exit rfl ?_)
  first | refine WK.reg 200 Tryz.ntmps45 (by kernel_rfl) ?_ | refine WK.regD 200 clsOf (by kernel_rfl) Tryz.ntmps45 (by kernel_rfl) (by kernel_rfl) ?_
  intro A hA Q hQ
  simp
  refine hQ _ _ ?_
  clear hQ hA
  repeat (first | refine WK.seq ?_ | refine WK.block ?_ | refine WK.inBlock ?_ | refine WK.skip ?_ | refine WK.label ?_ | refine WK.scope ?_ | refine WK.inScope ?_ | refine WK.exit rfl ?_)
  refine WK.ret Tryz.func45 (by simp (maxDischargeDepth := 120) [Tryz.results45]) (by simp)
theorem jump_ret (go : Nat → Bool) (n : Nat) : jumpAt go (fun _ => some Code.ret) n = none ∨ jumpAt go (fun _ => some Code.ret) n = some Code.ret := by
  cases n with
  | zero => exact .inl rfl
  | succ n =>
    simp only [jumpAt]
    split
    · exact .inl rfl
    · exact .inr rfl
theorem splitSeq_c (b : List (BitVec 8)) (hb : b.length ≤ 1000000) : FnSeq Tryz.prog 78 [.iptr [byS b]] (frYs b) := by
  have hp := pieces_c b
  have hq := pseq_c b hb
  have hy := frXs_all b
  have hlen := frXs_len b
  refine FnSeq.intro Tryz.func78 rfl rfl fun lp Y go hW G w own => ?_
  refine WK.anyNx (n := 100) ?_
  repeat' (first
   | refine WK.seq ?_
   | refine WK.block ?_
   | refine WK.inBlock ?_
   | refine WK.skip ?_
   | refine WK.label ?_
   | refine WK.scope ?_
   | refine WK.inScope ?_
   | refine WK.exit rfl ?_
   | refine WK.condT rfl ?_
   | refine WK.condF rfl ?_
   | (refine Hid.h hQ _ _ ?_; clear hQ hA)
   | refine WK.condAny rfl ?_ ?_
   | (refine WK.cond2 rfl (fun h => ?_) (fun h => ?_) <;> (first | (simp [*] at h; done) | (have h2 := h; simp at h2; exfalso; omega) | (have h2 := h; simp at h2; try simp only [Bool.not_eq_true', Bool.not_eq_false'] at h) | skip))
   | (refine WK.regH Tryz.ntmps78 (by kernel_rfl) ?_; intro A hA Q hQ; simp [*])
   | (refine WK.regX (by kernel_rfl) Tryz.ntmps78 (by kernel_rfl) ?_; intro A hA Q hQ; simp [*])
   | (refine Hid.h hQ _ _ _ (by decide +kernel) ?_; clear hQ hA)
   | (refine RunQ.callV 500 rfl rfl rfl rfl rfl ?_ (hp) ?_ rfl ?_ ?_ ?_; (focus (simp (maxDischargeDepth := 120) [*]; done)); (focus (simp [*]; done)); (focus (simp [*]; done)); (focus (simp [*]; done)); refine RunQ.evalH ?_; simp [*])
   | (refine RunX.callV 500 rfl rfl rfl rfl ?_ (hp) ?_ rfl ?_ ?_ ?_; (focus (simp (maxDischargeDepth := 120) [*]; done)); (focus (simp [*]; done)); (focus (simp [*]; done)); (focus (simp [*]; done)); refine RunX.evalY ?_; simp [*])
   | fail)
  have e0 : frB b 0 = .var [byS b] := rfl
  repeat (first | refine WK.seq ?_ | refine WK.block ?_ | refine WK.inBlock ?_ | refine WK.skip ?_ | refine WK.label ?_ | refine WK.scope ?_ | refine WK.inScope ?_ | refine WK.exit rfl ?_)
  refine WK.next (st' := ⟨upd ((upd (upd J 0 (.yv lp)) 2 (.ptr 100 0))) 5 (.fn 79 [.ptr 500 0]), upd ((fun i : Nat => (upd (upd B0 0 (.frn Y i)) 100 (.var [.yv lp]))) 0) 500 ((frB b) 0), 0⟩) (fun n => n) ?_ (by repeat (first | exact TmW.nil | refine TmW.upd ?_ (by simp (maxDischargeDepth := 120) [e0]))) (by repeat (first | exact BxW.nil | refine BxW.upd ?_ (by simp (maxDischargeDepth := 120) [e0]))) (by first | exact InjW.id | exact InjW.nil | exact InjW.one | exact InjW.two (by simp) | exact InjW.three (by simp) (by simp) (by simp))
  refine WK.rangeVX (tm := (upd (upd J 0 (.yv lp)) 2 (.ptr 100 0))) 500 (frB b) (frXs b) (go) (fun _ => some .ret) (fun i : Nat => (upd (upd B0 0 (.frn Y i)) 100 (.var [.yv lp]))) [100] rfl (by simp) (fun i => rfl) (by simp [e0]) rfl (by simp) (hq) (by repeat (first | exact TmW.nil | refine TmW.upd ?_ (by simp (maxDischargeDepth := 120) [e0]))) (by repeat (first | exact BxW.nil | refine BxW.upd ?_ (by simp (maxDischargeDepth := 120) [e0]))) (by kernel_rfl) (hy) (fun i => by simp) (by simp) (by repeat (first | exact TmN.nil | refine TmN.upd ?_ (by simp [e0]))) (fun i x hx hgo lp rc kp E own G w hR => ?_) (fun r => ?_)
  · have hi : i < (frList b).length := by
      rcases Nat.lt_or_ge i (frList b).length with h | h
      · exact h
      · rw [List.getElem?_eq_none (by rw [hlen]; exact h)] at hx; cases hx
    rw [frXs_get hi] at hx
    simp only [Option.some.injEq] at hx
    subst hx
    obtain ⟨h1, h2⟩ := (frList_at i b).1 hi
    have hl := frSays_len h1
    have hn := frAt_len b i
    have hx := frYs_get h2
    unfold frX
    obtain ⟨m, hm⟩ : ∃ m, (frAt b i).take (frSays (frAt b i)).1 = m := ⟨_, rfl⟩
    have hs := sclone_c m (by rw [← hm, List.length_take]; omega)
    rw [hm] at hx ⊢
    obtain ⟨c, hc⟩ : ∃ c, frAt b (i + 1) = c := ⟨_, rfl⟩
    rw [hc]
    clear hc hm h1 h2 hl hn hp hq hy hlen e0
    unfold byS at *
    repeat (first | refine WK.seq ?_ | refine WK.block ?_ | refine WK.inBlock ?_ | refine WK.skip ?_ | refine WK.label ?_ | refine WK.scope ?_ | refine WK.inScope ?_ | refine WK.exit rfl ?_)
    first | refine WK.reg 100 Tryz.ntmps78 (by kernel_rfl) ?_ | refine WK.regD 100 clsOf (by kernel_rfl) Tryz.ntmps78 (by kernel_rfl) (by kernel_rfl) ?_
    intro A hA Q hQ
    simp
    refine hQ _ _ ?_
    clear hQ hA
    repeat (first | refine WK.seq ?_ | refine WK.block ?_ | refine WK.inBlock ?_ | refine WK.skip ?_ | refine WK.label ?_ | refine WK.scope ?_ | refine WK.inScope ?_ | refine WK.exit rfl ?_)
    refine WK.beginL hR ?_
    have hgg : go i = false ∨ go i = true := by cases go i <;> simp
    rcases hgg with hg | hg
    · repeat' (first
       | refine WK.seq ?_
       | refine WK.block ?_
       | refine WK.inBlock ?_
       | refine WK.skip ?_
       | refine WK.label ?_
       | refine WK.scope ?_
       | refine WK.inScope ?_
       | refine WK.exit rfl ?_
       | refine WK.condT rfl ?_
       | refine WK.condF rfl ?_
       | (refine Hid.h hQ _ _ ?_; clear hQ hA)
       | refine WK.condAny rfl ?_ ?_
       | (refine WK.cond2 rfl (fun h => ?_) (fun h => ?_) <;> (first | (simp [*] at h; done) | (have h2 := h; simp at h2; exfalso; omega) | (have h2 := h; simp at h2; try simp only [Bool.not_eq_true', Bool.not_eq_false'] at h) | skip))
       | (refine WK.regH Tryz.ntmps78 (by kernel_rfl) ?_; intro A hA Q hQ; simp [*])
       | (refine WK.regX (by kernel_rfl) Tryz.ntmps78 (by kernel_rfl) ?_; intro A hA Q hQ; simp [*])
       | (refine Hid.h hQ _ _ _ (by decide +kernel) ?_; clear hQ hA)
       | (refine RunQ.yieldH 0 hW rfl rfl rfl rfl rfl rfl (hx) (hgo) ?_ ?_ ?_; (focus (simp (maxDischargeDepth := 120) [*]; done)); (focus (simp [*]; done)); refine RunQ.evalH ?_; simp [*])
       | (refine RunX.yieldH 0 hW rfl rfl rfl rfl rfl (hx) (hgo) ?_ ?_ ?_; (focus (simp (maxDischargeDepth := 120) [*]; done)); (focus (simp [*]; done)); refine RunX.evalY ?_; simp [*])
       | (refine RunQ.call rfl rfl rfl rfl rfl ?_ (hs) ?_ ?_; (focus (simp (maxDischargeDepth := 120) [*]; done)); (focus (simp [*]; done)); refine RunQ.evalH ?_; simp [*])
       | (refine RunX.call rfl rfl rfl rfl ?_ (hs) ?_ ?_; (focus (simp (maxDischargeDepth := 120) [*]; done)); (focus (simp [*]; done)); refine RunX.evalY ?_; simp [*])
       | fail)
      repeat (first | refine WK.seq ?_ | refine WK.block ?_ | refine WK.inBlock ?_ | refine WK.skip ?_ | refine WK.label ?_ | refine WK.scope ?_ | refine WK.inScope ?_ | refine WK.exit rfl ?_)
      refine WK.roundRet (fun n => n) hR hg rfl (by repeat (first | exact BxW.nil | refine BxW.upd ?_ (by simp))) InjW.id (by simp)
    · repeat' (first
       | refine WK.seq ?_
       | refine WK.block ?_
       | refine WK.inBlock ?_
       | refine WK.skip ?_
       | refine WK.label ?_
       | refine WK.scope ?_
       | refine WK.inScope ?_
       | refine WK.exit rfl ?_
       | refine WK.condT rfl ?_
       | refine WK.condF rfl ?_
       | (refine Hid.h hQ _ _ ?_; clear hQ hA)
       | refine WK.condAny rfl ?_ ?_
       | (refine WK.cond2 rfl (fun h => ?_) (fun h => ?_) <;> (first | (simp [*] at h; done) | (have h2 := h; simp at h2; exfalso; omega) | (have h2 := h; simp at h2; try simp only [Bool.not_eq_true', Bool.not_eq_false'] at h) | skip))
       | (refine WK.regH Tryz.ntmps78 (by kernel_rfl) ?_; intro A hA Q hQ; simp [*])
       | (refine WK.regX (by kernel_rfl) Tryz.ntmps78 (by kernel_rfl) ?_; intro A hA Q hQ; simp [*])
       | (refine Hid.h hQ _ _ _ (by decide +kernel) ?_; clear hQ hA)
       | (refine RunQ.yieldH 0 hW rfl rfl rfl rfl rfl rfl (hx) (hgo) ?_ ?_ ?_; (focus (simp (maxDischargeDepth := 120) [*]; done)); (focus (simp [*]; done)); refine RunQ.evalH ?_; simp [*])
       | (refine RunX.yieldH 0 hW rfl rfl rfl rfl rfl (hx) (hgo) ?_ ?_ ?_; (focus (simp (maxDischargeDepth := 120) [*]; done)); (focus (simp [*]; done)); refine RunX.evalY ?_; simp [*])
       | (refine RunQ.call rfl rfl rfl rfl rfl ?_ (hs) ?_ ?_; (focus (simp (maxDischargeDepth := 120) [*]; done)); (focus (simp [*]; done)); refine RunQ.evalH ?_; simp [*])
       | (refine RunX.call rfl rfl rfl rfl ?_ (hs) ?_ ?_; (focus (simp (maxDischargeDepth := 120) [*]; done)); (focus (simp [*]; done)); refine RunX.evalY ?_; simp [*])
       | fail)
      repeat (first | refine WK.seq ?_ | refine WK.block ?_ | refine WK.inBlock ?_ | refine WK.skip ?_ | refine WK.label ?_ | refine WK.scope ?_ | refine WK.inScope ?_ | refine WK.exit rfl ?_)
      refine WK.roundGo (fun n => n) hR (hg) (by repeat (first | exact BxW.nil | refine BxW.upd ?_ (by simp (maxDischargeDepth := 120)))) (by first | exact InjW.id | exact InjW.nil | exact InjW.one | exact InjW.two (by simp) | exact InjW.three (by simp) (by simp) (by simp)) (by simp)
  · rw [hlen, frYs_len]
    clear hp hq hy hlen e0
    obtain ⟨n, hn⟩ : ∃ n, taken go (frList b).length = n := ⟨_, rfl⟩
    rw [hn]
    clear hn
    rcases jump_ret go n with hj | hj
    · rw [hj]
      repeat' (first
       | refine WK.seq ?_
       | refine WK.block ?_
       | refine WK.inBlock ?_
       | refine WK.skip ?_
       | refine WK.label ?_
       | refine WK.scope ?_
       | refine WK.inScope ?_
       | refine WK.exit rfl ?_
       | refine WK.condT rfl ?_
       | refine WK.condF rfl ?_
       | (refine Hid.h hQ _ _ ?_; clear hQ hA)
       | refine WK.condAny rfl ?_ ?_
       | (refine WK.cond2 rfl (fun h => ?_) (fun h => ?_) <;> (first | (simp [*] at h; done) | (have h2 := h; simp at h2; exfalso; omega) | (have h2 := h; simp at h2; try simp only [Bool.not_eq_true', Bool.not_eq_false'] at h) | skip))
       | (refine WK.regH Tryz.ntmps78 (by kernel_rfl) ?_; intro A hA Q hQ; simp [*])
       | (refine WK.regX (by kernel_rfl) Tryz.ntmps78 (by kernel_rfl) ?_; intro A hA Q hQ; simp [*])
       | (refine Hid.h hQ _ _ _ (by decide +kernel) ?_; clear hQ hA)
       | fail)
      repeat (first | refine WK.seq ?_ | refine WK.block ?_ | refine WK.inBlock ?_ | refine WK.skip ?_ | refine WK.label ?_ | refine WK.scope ?_ | refine WK.inScope ?_ | refine WK.exit rfl ?_)
      refine WK.retY Tryz.func78 (by simp (maxDischargeDepth := 120) [Tryz.results78]) (by simp) rfl (.inl rfl)
    · rw [hj]
      repeat' (first
       | refine WK.seq ?_
       | refine WK.block ?_
       | refine WK.inBlock ?_
       | refine WK.skip ?_
       | refine WK.label ?_
       | refine WK.scope ?_
       | refine WK.inScope ?_
       | refine WK.exit rfl ?_
       | refine WK.condT rfl ?_
       | refine WK.condF rfl ?_
       | (refine Hid.h hQ _ _ ?_; clear hQ hA)
       | refine WK.condAny rfl ?_ ?_
       | (refine WK.cond2 rfl (fun h => ?_) (fun h => ?_) <;> (first | (simp [*] at h; done) | (have h2 := h; simp at h2; exfalso; omega) | (have h2 := h; simp at h2; try simp only [Bool.not_eq_true', Bool.not_eq_false'] at h) | skip))
       | (refine WK.regH Tryz.ntmps78 (by kernel_rfl) ?_; intro A hA Q hQ; simp [*])
       | (refine WK.regX (by kernel_rfl) Tryz.ntmps78 (by kernel_rfl) ?_; intro A hA Q hQ; simp [*])
       | (refine Hid.h hQ _ _ _ (by decide +kernel) ?_; clear hQ hA)
       | fail)
      repeat (first | refine WK.seq ?_ | refine WK.block ?_ | refine WK.inBlock ?_ | refine WK.skip ?_ | refine WK.label ?_ | refine WK.scope ?_ | refine WK.inScope ?_ | refine WK.exit rfl ?_)
      refine WK.retY Tryz.func78 (by simp (maxDischargeDepth := 120) [Tryz.results78]) (by simp) rfl (.inr ⟨_, rfl⟩)
end Go.Proofs.YtcccfbjkcahgfaaGreat
end
