/- Messages: their bytes, and read: the program. -/
import Derived.Test.YtcccfbjkcahgfaaGreatWk11
import Derived.Test.YtcccfbjkcahgfaaGreatWk10
set_option linter.all false
set_option linter.unnecessarySimpa false
section
set_option linter.unusedVariables false
set_option linter.unusedSimpArgs false
namespace Go.Proofs.YtcccfbjkcahgfaaGreat
open Go Go.AI Go.Proofs
attribute [local irreducible] FnP FnO FnB FnT FnSeq WK RunQ RunQW RunX RunXW

set_option maxHeartbeats 8000000 in
theorem mgenc_c (m : Msg) (hm : MsB m) : FnT Tryz.prog 9 [.agg m.enc] (mgEnc m).1.length 1 (byL (mgEnc m).1) [.int .i64 (mgEnc m).2] := by
  have r := mgright_c m hm
  have o := mof_c m
  cases hr : mgRight m
  · rw [mgEnc_bad hr]
    rw [hr] at r
    clear hr o
    unfold Msg.enc Flt.enc FlowMod.enc GroupMod.enc at *
    refine FnT.intro Tryz.func9 rfl rfl fun G w => ?_
    repeat' (first
     | refine WK.seq ?_
     | refine WK.condT rfl ?_
     | (refine Hid.h hQ _ _ ?_; clear hQ hA)
     | (refine WK.regH Tryz.ntmps9 (by kernel_rfl) ?_; intro A hA Q hQ; simp [*])
     | (refine RunQ.call rfl rfl rfl rfl rfl ?_ (r) ?_ ?_; (focus (simp (maxDischargeDepth := 120) [*]; done)); (focus (simp [*]; done)); refine RunQ.evalH ?_; simp [*])
     | fail)
    refine WK.ghost (Ghost.own 2 900 1 rfl rfl) ?_
    refine WK.retT2 Tryz.func9 ?_ ?_ ?_ <;> simp (maxDischargeDepth := 120) [Tryz.results9, byL_nil]
  have hok := (mgRight_facts hr).ok
  have hk := mgKind_of hok
  have hbl := mgBody_len hok
  have hd := head_c m.kind m.xid (mgBody m) (by omega)
  have eH : mgEnc m = frHead m.kind m.xid (mgBody m) := by unfold mgEnc; rw [if_pos hr]
  rw [eH]
  rw [hr] at r
  have hG : mgBody m = if mgData m.kind = true then m.data else if m.kind = 1 then putN (putN [] m.fault.kind 2) m.fault.code 2 ++ m.data else if m.kind = 14 then (fmEnc m.flow).1 else (gmEnc m.group).1 := rfl
  have b1 := dbytes_c m.data
  have b2 := wbytes_c m.data m.fault hm.data
  have b3 := flbytes_c m.flow hm.flow
  have b4 := grbytes_c m.group hm.group
  obtain ⟨B, hB⟩ : ∃ B, mgBare m = B := ⟨_, rfl⟩
  rw [hB] at o
  have hc : ClL B.enc = true := by unfold Msg.enc; simp [ClL, Cl, Flt.enc]
  unfold mgI at o
  obtain ⟨R, hR⟩ : ∃ R, frHead m.kind m.xid (mgBody m) = R := ⟨_, rfl⟩
  rw [hR] at hd ⊢
  obtain ⟨R1, R2⟩ := R
  simp only at hd ⊢
  have hfR := by_full R1 R1.length rfl
  clear hR hB hm hr hok hbl eH
  by_cases k0 : mgData m.kind = true
  · rw [if_pos k0] at o hG
    rw [hG] at hd
    unfold byS at *
    clear b2 b3 b4 hk k0 hG
    unfold Msg.enc Flt.enc FlowMod.enc GroupMod.enc at *
    refine FnT.intro Tryz.func9 rfl rfl fun G w => ?_
    repeat' (first
     | refine WK.seq ?_
     | refine WK.skip ?_
     | refine WK.condF rfl ?_
     | (refine Hid.h hQ _ _ ?_; clear hQ hA)
     | (refine WK.regH Tryz.ntmps9 (by kernel_rfl) ?_; intro A hA Q hQ; simp [*])
     | (refine WK.regX (by kernel_rfl) Tryz.ntmps9 (by kernel_rfl) ?_; intro A hA Q hQ; simp [*])
     | (refine Hid.h hQ _ _ _ (by decide +kernel) ?_; clear hQ hA)
     | (refine RunX.invoke (mI_b1) (b1) rfl rfl rfl rfl rfl ?_ ?_; (focus (simp [*]; done)); refine RunX.evalY ?_; simp [*])
     | (refine RunX.callT 900 rfl rfl rfl rfl ?_ (hd) ?_ ?_ ?_ ?_ ?_; (focus (simp (maxDischargeDepth := 120) [*]; done)); (focus (simp [*]; done)); (focus (simp [*]; done)); (focus (simp [*]; done)); (focus (simp [*]; done)); refine RunX.evalY ?_; simp [*])
     | (refine RunQ.call rfl rfl rfl rfl rfl ?_ (r) ?_ ?_; (focus (simp (maxDischargeDepth := 120) [*]; done)); (focus (simp [*]; done)); refine RunQ.evalH ?_; simp [*])
     | (refine RunQ.call rfl rfl rfl rfl rfl ?_ (o) ?_ ?_; (focus (simp (maxDischargeDepth := 120) [*]; done)); (focus (simp [*]; done)); refine RunQ.evalH ?_; simp [*])
     | (refine WK.retT2 Tryz.func9 ?_ ?_ ?_ <;> simp (maxDischargeDepth := 120) [Tryz.results9, *])
     | fail)
  rw [if_neg k0] at o hG
  by_cases k1 : m.kind = 1
  · rw [if_pos k1] at o hG
    rw [← hG] at b2
    unfold byS at *
    clear b1 b3 b4 hk k0 hG k1
    unfold Msg.enc Flt.enc FlowMod.enc GroupMod.enc at *
    refine FnT.intro Tryz.func9 rfl rfl fun G w => ?_
    repeat' (first
     | refine WK.seq ?_
     | refine WK.skip ?_
     | refine WK.condF rfl ?_
     | (refine Hid.h hQ _ _ ?_; clear hQ hA)
     | (refine WK.regH Tryz.ntmps9 (by kernel_rfl) ?_; intro A hA Q hQ; simp [*])
     | (refine WK.regX (by kernel_rfl) Tryz.ntmps9 (by kernel_rfl) ?_; intro A hA Q hQ; simp [*])
     | (refine Hid.h hQ _ _ _ (by decide +kernel) ?_; clear hQ hA)
     | (refine RunX.invoke (mI_b2) (b2) rfl rfl rfl rfl rfl ?_ ?_; (focus (simp [*]; done)); refine RunX.evalY ?_; simp [*])
     | (refine RunX.callT 900 rfl rfl rfl rfl ?_ (hd) ?_ ?_ ?_ ?_ ?_; (focus (simp (maxDischargeDepth := 120) [*]; done)); (focus (simp [*]; done)); (focus (simp [*]; done)); (focus (simp [*]; done)); (focus (simp [*]; done)); refine RunX.evalY ?_; simp [*])
     | (refine RunQ.call rfl rfl rfl rfl rfl ?_ (r) ?_ ?_; (focus (simp (maxDischargeDepth := 120) [*]; done)); (focus (simp [*]; done)); refine RunQ.evalH ?_; simp [*])
     | (refine RunQ.call rfl rfl rfl rfl rfl ?_ (o) ?_ ?_; (focus (simp (maxDischargeDepth := 120) [*]; done)); (focus (simp [*]; done)); refine RunQ.evalH ?_; simp [*])
     | (refine WK.retT2 Tryz.func9 ?_ ?_ ?_ <;> simp (maxDischargeDepth := 120) [Tryz.results9, *])
     | fail)
  rw [if_neg k1] at o hG
  by_cases k2 : m.kind = 14
  · rw [if_pos k2] at o hG
    rw [← hG] at b3
    unfold byS at *
    clear b1 b2 b4 hk k0 hG k1 k2
    unfold Msg.enc Flt.enc FlowMod.enc GroupMod.enc at *
    refine FnT.intro Tryz.func9 rfl rfl fun G w => ?_
    repeat' (first
     | refine WK.seq ?_
     | refine WK.skip ?_
     | refine WK.condF rfl ?_
     | (refine Hid.h hQ _ _ ?_; clear hQ hA)
     | (refine WK.regH Tryz.ntmps9 (by kernel_rfl) ?_; intro A hA Q hQ; simp [*])
     | (refine WK.regX (by kernel_rfl) Tryz.ntmps9 (by kernel_rfl) ?_; intro A hA Q hQ; simp [*])
     | (refine Hid.h hQ _ _ _ (by decide +kernel) ?_; clear hQ hA)
     | (refine RunX.invoke (mI_b3) (b3) rfl rfl rfl rfl rfl ?_ ?_; (focus (simp [*]; done)); refine RunX.evalY ?_; simp [*])
     | (refine RunX.callT 900 rfl rfl rfl rfl ?_ (hd) ?_ ?_ ?_ ?_ ?_; (focus (simp (maxDischargeDepth := 120) [*]; done)); (focus (simp [*]; done)); (focus (simp [*]; done)); (focus (simp [*]; done)); (focus (simp [*]; done)); refine RunX.evalY ?_; simp [*])
     | (refine RunQ.call rfl rfl rfl rfl rfl ?_ (r) ?_ ?_; (focus (simp (maxDischargeDepth := 120) [*]; done)); (focus (simp [*]; done)); refine RunQ.evalH ?_; simp [*])
     | (refine RunQ.call rfl rfl rfl rfl rfl ?_ (o) ?_ ?_; (focus (simp (maxDischargeDepth := 120) [*]; done)); (focus (simp [*]; done)); refine RunQ.evalH ?_; simp [*])
     | (refine WK.retT2 Tryz.func9 ?_ ?_ ?_ <;> simp (maxDischargeDepth := 120) [Tryz.results9, *])
     | fail)
  rw [if_neg k2] at o hG
  have k3 : m.kind = 15 := by
    rcases hk with h | h | h | h
    · exact absurd h k0
    · exact absurd h k1
    · exact absurd h k2
    · exact h
  rw [if_pos k3] at o
  rw [← hG] at b4
  unfold byS at *
  clear b1 b2 b3 hk k0 hG k1 k2 k3
  unfold Msg.enc Flt.enc FlowMod.enc GroupMod.enc at *
  refine FnT.intro Tryz.func9 rfl rfl fun G w => ?_
  repeat' (first
   | refine WK.seq ?_
   | refine WK.skip ?_
   | refine WK.condF rfl ?_
   | (refine Hid.h hQ _ _ ?_; clear hQ hA)
   | (refine WK.regH Tryz.ntmps9 (by kernel_rfl) ?_; intro A hA Q hQ; simp [*])
   | (refine WK.regX (by kernel_rfl) Tryz.ntmps9 (by kernel_rfl) ?_; intro A hA Q hQ; simp [*])
   | (refine Hid.h hQ _ _ _ (by decide +kernel) ?_; clear hQ hA)
   | (refine RunX.invoke (mI_b4) (b4) rfl rfl rfl rfl rfl ?_ ?_; (focus (simp [*]; done)); refine RunX.evalY ?_; simp [*])
   | (refine RunX.callT 900 rfl rfl rfl rfl ?_ (hd) ?_ ?_ ?_ ?_ ?_; (focus (simp (maxDischargeDepth := 120) [*]; done)); (focus (simp [*]; done)); (focus (simp [*]; done)); (focus (simp [*]; done)); (focus (simp [*]; done)); refine RunX.evalY ?_; simp [*])
   | (refine RunQ.call rfl rfl rfl rfl rfl ?_ (r) ?_ ?_; (focus (simp (maxDischargeDepth := 120) [*]; done)); (focus (simp [*]; done)); refine RunQ.evalH ?_; simp [*])
   | (refine RunQ.call rfl rfl rfl rfl rfl ?_ (o) ?_ ?_; (focus (simp (maxDischargeDepth := 120) [*]; done)); (focus (simp [*]; done)); refine RunQ.evalH ?_; simp [*])
   | (refine WK.retT2 Tryz.func9 ?_ ?_ ?_ <;> simp (maxDischargeDepth := 120) [Tryz.results9, *])
   | fail)
theorem mgencP_c (m : Msg) (hm : MsB m) : FnP Tryz.prog 9 [.agg m.enc] (.tup [byS (mgEnc m).1, .int .i64 (mgEnc m).2]) := by
  have h := (mgenc_c m hm).toP (by simp [byL_take]) (by rfl)
  rwa [Nat.mul_one, by_full _ _ rfl] at h
def msg0E : List AV := [.int .i64 0, .int .i64 0, .int .u64 0, .int .u64 0, .int .i64 0, .int .i64 0, .int .i64 0, .int .i64 0, .int .i64 0, .int .i64 0, .int .i64 0, .int .i64 0, .int .i64 0, .sl false 0 [], .sl false 0 [], .int .i64 0, .int .i64 0, .int .i64 0, .sl false 0 [], .bool false, .int .i64 0, .int .i64 0, .sl false 0 []]
theorem msg0_enc : msg0.enc = msg0E := rfl
theorem mgbad_c (n : Int) : FnP Tryz.prog 37 [.int .i64 n] (.tup [.agg msg0.enc, .agg (gFault (some (1, n)))]) := by
  have f := fof_c 1 n
  rw [msg0_enc]
  refine FnP.intro Tryz.func37 rfl rfl fun G w => ?_
  repeat' (first
   | refine WK.seq ?_
   | (refine Hid.h hQ _ _ ?_; clear hQ hA)
   | (refine WK.regH Tryz.ntmps37 (by kernel_rfl) ?_; intro A hA Q hQ; simp [gFault, msg0E, *])
   | (refine RunQ.call rfl rfl rfl rfl rfl ?_ (f) ?_ ?_; (focus (simp (maxDischargeDepth := 120) [gFault, msg0E, *]; done)); (focus (simp [gFault, msg0E, *]; done)); refine RunQ.evalH ?_; simp [gFault, msg0E, *])
   | (refine WK.ret Tryz.func37 ?_ ?_ <;> simp (maxDischargeDepth := 120) [Tryz.results37, gFault, msg0E, *])
   | fail)
/-- a message that has a kind and a number alone -/
def mgBase (k x : Int) : Msg := { msg0 with kind := k, xid := x }
set_option maxHeartbeats 16000000 in
theorem mgfill_c (k x : Int) (b : List (BitVec 8)) (hb : b.length ≤ 80000) : FnP Tryz.prog 39 [.agg (mgBase k x).enc, byS b] (.tup [.agg (mgFill k x b).1.enc, .agg (gFault (mgFill k x b).2)]) := by
  have b6 := mgbad_c 6
  have b1 := mgbad_c 1
  rw [msg0_enc] at b6 b1
  have hF : mgFill k x b = if mgData k = true then (if 60000 < b.length then (msg0, some (1, 6)) else ({ msg0 with kind := k, xid := x, data := b }, none))
    else if k = 1 then (if b.length < 4 then (msg0, some (1, 6)) else if 60000 < b.length - 4 then (msg0, some (1, 6)) else ({ msg0 with kind := k, xid := x, fault := ⟨true, (getN b 0 2).1, (getN b 2 2).1⟩, data := b.drop 4 }, none))
    else if k = 14 then (match (fmDec b).2 with | some c => (msg0, some c) | none => ({ msg0 with kind := k, xid := x, flow := (fmDec b).1 }, none))
    else if k = 15 then (match (gmDec b).2 with | some c => (msg0, some c) | none => ({ msg0 with kind := k, xid := x, group := (gmDec b).1 }, none))
    else (msg0, some (1, 1)) := rfl
  by_cases k0 : k = 0 ∨ k = 2 ∨ k = 3
  · rw [if_pos (mgData_iff.2 k0)] at hF
    have c := bytesClone_c b (by omega)
    unfold byS at *
    by_cases g : 60000 < b.length
    · have g' : (60000 : Int) < b.length := by omega
      rw [if_pos g] at hF
      rw [hF, msg0_enc]
      clear hF b1
      rcases k0 with rfl | rfl | rfl
      all_goals
        · refine FnP.intro Tryz.func39 rfl rfl fun G w => ?_
          repeat' (first
           | refine WK.seq ?_
           | refine WK.block ?_
           | refine WK.inBlock ?_
           | refine WK.skip ?_
           | refine WK.condT rfl ?_
           | refine WK.condF rfl ?_
           | (refine Hid.h hQ _ _ ?_; clear hQ hA)
           | (refine WK.regH Tryz.ntmps39 (by kernel_rfl) ?_; intro A hA Q hQ; simp [mgBase, Msg.enc, FlowMod.enc, GroupMod.enc, Flt.enc, msg0, flowMod0, gm0, flt0, uI_zero, byL_nil, oxmL_nil, instL_nil, gFault, msg0E, *])
           | (refine RunQ.call rfl rfl rfl rfl rfl ?_ (c) ?_ ?_; (focus (simp (maxDischargeDepth := 120) [mgBase, Msg.enc, FlowMod.enc, GroupMod.enc, Flt.enc, msg0, flowMod0, gm0, flt0, uI_zero, byL_nil, oxmL_nil, instL_nil, gFault, msg0E, *]; done)); (focus (simp [mgBase, Msg.enc, FlowMod.enc, GroupMod.enc, Flt.enc, msg0, flowMod0, gm0, flt0, uI_zero, byL_nil, oxmL_nil, instL_nil, gFault, msg0E, *]; done)); refine RunQ.evalH ?_; simp [mgBase, Msg.enc, FlowMod.enc, GroupMod.enc, Flt.enc, msg0, flowMod0, gm0, flt0, uI_zero, byL_nil, oxmL_nil, instL_nil, gFault, msg0E, *])
           | (refine RunQ.call rfl rfl rfl rfl rfl ?_ (b6) ?_ ?_; (focus (simp (maxDischargeDepth := 120) [mgBase, Msg.enc, FlowMod.enc, GroupMod.enc, Flt.enc, msg0, flowMod0, gm0, flt0, uI_zero, byL_nil, oxmL_nil, instL_nil, gFault, msg0E, *]; done)); (focus (simp [mgBase, Msg.enc, FlowMod.enc, GroupMod.enc, Flt.enc, msg0, flowMod0, gm0, flt0, uI_zero, byL_nil, oxmL_nil, instL_nil, gFault, msg0E, *]; done)); refine RunQ.evalH ?_; simp [mgBase, Msg.enc, FlowMod.enc, GroupMod.enc, Flt.enc, msg0, flowMod0, gm0, flt0, uI_zero, byL_nil, oxmL_nil, instL_nil, gFault, msg0E, *])
           | (refine WK.ret Tryz.func39 ?_ ?_ <;> simp (maxDischargeDepth := 120) [Tryz.results39, mgBase, Msg.enc, FlowMod.enc, GroupMod.enc, Flt.enc, msg0, flowMod0, gm0, flt0, uI_zero, byL_nil, oxmL_nil, instL_nil, gFault, msg0E, *])
           | fail)
    · have g' : ¬ (60000 : Int) < b.length := by omega
      rw [if_neg g] at hF
      rw [hF]
      clear hF b1 b6
      rcases k0 with rfl | rfl | rfl
      all_goals
        · refine FnP.intro Tryz.func39 rfl rfl fun G w => ?_
          repeat' (first
           | refine WK.seq ?_
           | refine WK.block ?_
           | refine WK.inBlock ?_
           | refine WK.skip ?_
           | refine WK.condT rfl ?_
           | refine WK.condF rfl ?_
           | (refine Hid.h hQ _ _ ?_; clear hQ hA)
           | (refine WK.regH Tryz.ntmps39 (by kernel_rfl) ?_; intro A hA Q hQ; simp [mgBase, Msg.enc, FlowMod.enc, GroupMod.enc, Flt.enc, msg0, flowMod0, gm0, flt0, uI_zero, byL_nil, oxmL_nil, instL_nil, gFault, *])
           | (refine RunQ.call rfl rfl rfl rfl rfl ?_ (c) ?_ ?_; (focus (simp (maxDischargeDepth := 120) [mgBase, Msg.enc, FlowMod.enc, GroupMod.enc, Flt.enc, msg0, flowMod0, gm0, flt0, uI_zero, byL_nil, oxmL_nil, instL_nil, gFault, *]; done)); (focus (simp [mgBase, Msg.enc, FlowMod.enc, GroupMod.enc, Flt.enc, msg0, flowMod0, gm0, flt0, uI_zero, byL_nil, oxmL_nil, instL_nil, gFault, *]; done)); refine RunQ.evalH ?_; simp [mgBase, Msg.enc, FlowMod.enc, GroupMod.enc, Flt.enc, msg0, flowMod0, gm0, flt0, uI_zero, byL_nil, oxmL_nil, instL_nil, gFault, *])
           | (refine WK.ret Tryz.func39 ?_ ?_ <;> simp (maxDischargeDepth := 120) [Tryz.results39, mgBase, Msg.enc, FlowMod.enc, GroupMod.enc, Flt.enc, msg0, flowMod0, gm0, flt0, uI_zero, byL_nil, oxmL_nil, instL_nil, gFault, *])
           | fail)
  have hd : mgData k = false := by cases h : mgData k; rfl; exact absurd (mgData_iff.1 h) k0
  rw [hd, if_neg (by simp)] at hF
  by_cases k1 : k = 1
  · subst k1
    rw [if_pos rfl] at hF
    by_cases g4 : b.length < 4
    · rw [if_pos g4] at hF
      have p := fparse_short b g4
      rw [hF, msg0_enc]
      unfold byS at *
      clear hF b1
      refine FnP.intro Tryz.func39 rfl rfl fun G w => ?_
      repeat' (first
       | refine WK.seq ?_
       | refine WK.block ?_
       | refine WK.condT rfl ?_
       | refine WK.condF rfl ?_
       | (refine Hid.h hQ _ _ ?_; clear hQ hA)
       | (refine WK.regH Tryz.ntmps39 (by kernel_rfl) ?_; intro A hA Q hQ; simp [mgBase, Msg.enc, FlowMod.enc, GroupMod.enc, Flt.enc, msg0, flowMod0, gm0, flt0, uI_zero, byL_nil, oxmL_nil, instL_nil, gFault, msg0E, *])
       | (refine RunQ.call rfl rfl rfl rfl rfl ?_ (p) ?_ ?_; (focus (simp (maxDischargeDepth := 120) [mgBase, Msg.enc, FlowMod.enc, GroupMod.enc, Flt.enc, msg0, flowMod0, gm0, flt0, uI_zero, byL_nil, oxmL_nil, instL_nil, gFault, msg0E, *]; done)); (focus (simp [mgBase, Msg.enc, FlowMod.enc, GroupMod.enc, Flt.enc, msg0, flowMod0, gm0, flt0, uI_zero, byL_nil, oxmL_nil, instL_nil, gFault, msg0E, *]; done)); refine RunQ.evalH ?_; simp [mgBase, Msg.enc, FlowMod.enc, GroupMod.enc, Flt.enc, msg0, flowMod0, gm0, flt0, uI_zero, byL_nil, oxmL_nil, instL_nil, gFault, msg0E, *])
       | (refine RunQ.call rfl rfl rfl rfl rfl ?_ (b6) ?_ ?_; (focus (simp (maxDischargeDepth := 120) [mgBase, Msg.enc, FlowMod.enc, GroupMod.enc, Flt.enc, msg0, flowMod0, gm0, flt0, uI_zero, byL_nil, oxmL_nil, instL_nil, gFault, msg0E, *]; done)); (focus (simp [mgBase, Msg.enc, FlowMod.enc, GroupMod.enc, Flt.enc, msg0, flowMod0, gm0, flt0, uI_zero, byL_nil, oxmL_nil, instL_nil, gFault, msg0E, *]; done)); refine RunQ.evalH ?_; simp [mgBase, Msg.enc, FlowMod.enc, GroupMod.enc, Flt.enc, msg0, flowMod0, gm0, flt0, uI_zero, byL_nil, oxmL_nil, instL_nil, gFault, msg0E, *])
       | (refine WK.ret Tryz.func39 ?_ ?_ <;> simp (maxDischargeDepth := 120) [Tryz.results39, mgBase, Msg.enc, FlowMod.enc, GroupMod.enc, Flt.enc, msg0, flowMod0, gm0, flt0, uI_zero, byL_nil, oxmL_nil, instL_nil, gFault, msg0E, *])
       | fail)
    rw [if_neg g4] at hF
    have p := fparse_c b g4 (by omega)
    obtain ⟨n0, h0⟩ : ∃ n, (getN b 0 2).1 = n := ⟨_, rfl⟩
    obtain ⟨n1, h1⟩ : ∃ n, (getN b 2 2).1 = n := ⟨_, rfl⟩
    rw [h0, h1] at p hF
    have hdl : (b.drop 4).length = b.length - 4 := by rw [List.length_drop]
    rw [← hdl] at hF
    obtain ⟨D, hD⟩ : ∃ D, b.drop 4 = D := ⟨_, rfl⟩
    rw [hD] at p hF
    unfold byS at *
    by_cases g : 60000 < D.length
    · have g' : (60000 : Int) < D.length := by omega
      rw [if_pos g] at hF
      rw [hF, msg0_enc]
      clear hF b1 hD hdl h0 h1
      refine FnP.intro Tryz.func39 rfl rfl fun G w => ?_
      repeat' (first
       | refine WK.seq ?_
       | refine WK.block ?_
       | refine WK.inBlock ?_
       | refine WK.skip ?_
       | refine WK.condT rfl ?_
       | refine WK.condF rfl ?_
       | (refine Hid.h hQ _ _ ?_; clear hQ hA)
       | (refine WK.regH Tryz.ntmps39 (by kernel_rfl) ?_; intro A hA Q hQ; simp [mgBase, Msg.enc, FlowMod.enc, GroupMod.enc, Flt.enc, msg0, flowMod0, gm0, flt0, uI_zero, byL_nil, oxmL_nil, instL_nil, gFault, msg0E, *])
       | (refine RunQ.call rfl rfl rfl rfl rfl ?_ (p) ?_ ?_; (focus (simp (maxDischargeDepth := 120) [mgBase, Msg.enc, FlowMod.enc, GroupMod.enc, Flt.enc, msg0, flowMod0, gm0, flt0, uI_zero, byL_nil, oxmL_nil, instL_nil, gFault, msg0E, *]; done)); (focus (simp [mgBase, Msg.enc, FlowMod.enc, GroupMod.enc, Flt.enc, msg0, flowMod0, gm0, flt0, uI_zero, byL_nil, oxmL_nil, instL_nil, gFault, msg0E, *]; done)); refine RunQ.evalH ?_; simp [mgBase, Msg.enc, FlowMod.enc, GroupMod.enc, Flt.enc, msg0, flowMod0, gm0, flt0, uI_zero, byL_nil, oxmL_nil, instL_nil, gFault, msg0E, *])
       | (refine RunQ.call rfl rfl rfl rfl rfl ?_ (b6) ?_ ?_; (focus (simp (maxDischargeDepth := 120) [mgBase, Msg.enc, FlowMod.enc, GroupMod.enc, Flt.enc, msg0, flowMod0, gm0, flt0, uI_zero, byL_nil, oxmL_nil, instL_nil, gFault, msg0E, *]; done)); (focus (simp [mgBase, Msg.enc, FlowMod.enc, GroupMod.enc, Flt.enc, msg0, flowMod0, gm0, flt0, uI_zero, byL_nil, oxmL_nil, instL_nil, gFault, msg0E, *]; done)); refine RunQ.evalH ?_; simp [mgBase, Msg.enc, FlowMod.enc, GroupMod.enc, Flt.enc, msg0, flowMod0, gm0, flt0, uI_zero, byL_nil, oxmL_nil, instL_nil, gFault, msg0E, *])
       | (refine WK.ret Tryz.func39 ?_ ?_ <;> simp (maxDischargeDepth := 120) [Tryz.results39, mgBase, Msg.enc, FlowMod.enc, GroupMod.enc, Flt.enc, msg0, flowMod0, gm0, flt0, uI_zero, byL_nil, oxmL_nil, instL_nil, gFault, msg0E, *])
       | fail)
    · have g' : ¬ (60000 : Int) < D.length := by omega
      rw [if_neg g] at hF
      rw [hF]
      clear hF b1 b6 hD hdl h0 h1
      refine FnP.intro Tryz.func39 rfl rfl fun G w => ?_
      repeat' (first
       | refine WK.seq ?_
       | refine WK.block ?_
       | refine WK.inBlock ?_
       | refine WK.skip ?_
       | refine WK.condT rfl ?_
       | refine WK.condF rfl ?_
       | (refine Hid.h hQ _ _ ?_; clear hQ hA)
       | (refine WK.regH Tryz.ntmps39 (by kernel_rfl) ?_; intro A hA Q hQ; simp [mgBase, Msg.enc, FlowMod.enc, GroupMod.enc, Flt.enc, msg0, flowMod0, gm0, flt0, uI_zero, byL_nil, oxmL_nil, instL_nil, gFault, *])
       | (refine RunQ.call rfl rfl rfl rfl rfl ?_ (p) ?_ ?_; (focus (simp (maxDischargeDepth := 120) [mgBase, Msg.enc, FlowMod.enc, GroupMod.enc, Flt.enc, msg0, flowMod0, gm0, flt0, uI_zero, byL_nil, oxmL_nil, instL_nil, gFault, *]; done)); (focus (simp [mgBase, Msg.enc, FlowMod.enc, GroupMod.enc, Flt.enc, msg0, flowMod0, gm0, flt0, uI_zero, byL_nil, oxmL_nil, instL_nil, gFault, *]; done)); refine RunQ.evalH ?_; simp [mgBase, Msg.enc, FlowMod.enc, GroupMod.enc, Flt.enc, msg0, flowMod0, gm0, flt0, uI_zero, byL_nil, oxmL_nil, instL_nil, gFault, *])
       | (refine WK.ret Tryz.func39 ?_ ?_ <;> simp (maxDischargeDepth := 120) [Tryz.results39, mgBase, Msg.enc, FlowMod.enc, GroupMod.enc, Flt.enc, msg0, flowMod0, gm0, flt0, uI_zero, byL_nil, oxmL_nil, instL_nil, gFault, *])
       | fail)
  rw [if_neg k1] at hF
  by_cases k14 : k = 14
  · subst k14
    rw [if_pos rfl] at hF
    have d := fmdec_c b hb
    obtain ⟨R, hR⟩ : ∃ R, fmDec b = R := ⟨_, rfl⟩
    rw [hR] at d hF
    obtain ⟨y, c⟩ := R
    unfold byS at *
    cases c with
    | some c =>
      simp only at hF
      rw [hF, msg0_enc]
      clear hF b1 b6 hR
      refine FnP.intro Tryz.func39 rfl rfl fun G w => ?_
      repeat' (first
       | refine WK.seq ?_
       | refine WK.block ?_
       | refine WK.inBlock ?_
       | refine WK.condT rfl ?_
       | refine WK.condF rfl ?_
       | (refine Hid.h hQ _ _ ?_; clear hQ hA)
       | (refine WK.regH Tryz.ntmps39 (by kernel_rfl) ?_; intro A hA Q hQ; simp [mgBase, Msg.enc, FlowMod.enc, GroupMod.enc, Flt.enc, msg0, flowMod0, gm0, flt0, uI_zero, byL_nil, oxmL_nil, instL_nil, gFault, msg0E, *])
       | (refine WK.regX (by kernel_rfl) Tryz.ntmps39 (by kernel_rfl) ?_; intro A hA Q hQ; simp [mgBase, Msg.enc, FlowMod.enc, GroupMod.enc, Flt.enc, msg0, flowMod0, gm0, flt0, uI_zero, byL_nil, oxmL_nil, instL_nil, gFault, msg0E, *])
       | (refine Hid.h hQ _ _ _ (by decide +kernel) ?_; clear hQ hA)
       | (refine RunQ.call rfl rfl rfl rfl rfl ?_ (d) ?_ ?_; (focus (simp (maxDischargeDepth := 120) [mgBase, Msg.enc, FlowMod.enc, GroupMod.enc, Flt.enc, msg0, flowMod0, gm0, flt0, uI_zero, byL_nil, oxmL_nil, instL_nil, gFault, msg0E, *]; done)); (focus (simp [mgBase, Msg.enc, FlowMod.enc, GroupMod.enc, Flt.enc, msg0, flowMod0, gm0, flt0, uI_zero, byL_nil, oxmL_nil, instL_nil, gFault, msg0E, *]; done)); refine RunQ.evalH ?_; simp [mgBase, Msg.enc, FlowMod.enc, GroupMod.enc, Flt.enc, msg0, flowMod0, gm0, flt0, uI_zero, byL_nil, oxmL_nil, instL_nil, gFault, msg0E, *])
       | (refine WK.ret Tryz.func39 ?_ ?_ <;> simp (maxDischargeDepth := 120) [Tryz.results39, mgBase, Msg.enc, FlowMod.enc, GroupMod.enc, Flt.enc, msg0, flowMod0, gm0, flt0, uI_zero, byL_nil, oxmL_nil, instL_nil, gFault, msg0E, *])
       | fail)
    | none =>
      simp only at hF
      rw [hF]
      clear hF b1 b6 hR
      refine FnP.intro Tryz.func39 rfl rfl fun G w => ?_
      repeat' (first
       | refine WK.seq ?_
       | refine WK.block ?_
       | refine WK.inBlock ?_
       | refine WK.skip ?_
       | refine WK.condT rfl ?_
       | refine WK.condF rfl ?_
       | (refine Hid.h hQ _ _ ?_; clear hQ hA)
       | (refine WK.regH Tryz.ntmps39 (by kernel_rfl) ?_; intro A hA Q hQ; simp [mgBase, Msg.enc, FlowMod.enc, GroupMod.enc, Flt.enc, msg0, flowMod0, gm0, flt0, uI_zero, byL_nil, oxmL_nil, instL_nil, gFault, *])
       | (refine RunQ.call rfl rfl rfl rfl rfl ?_ (d) ?_ ?_; (focus (simp (maxDischargeDepth := 120) [mgBase, Msg.enc, FlowMod.enc, GroupMod.enc, Flt.enc, msg0, flowMod0, gm0, flt0, uI_zero, byL_nil, oxmL_nil, instL_nil, gFault, *]; done)); (focus (simp [mgBase, Msg.enc, FlowMod.enc, GroupMod.enc, Flt.enc, msg0, flowMod0, gm0, flt0, uI_zero, byL_nil, oxmL_nil, instL_nil, gFault, *]; done)); refine RunQ.evalH ?_; simp [mgBase, Msg.enc, FlowMod.enc, GroupMod.enc, Flt.enc, msg0, flowMod0, gm0, flt0, uI_zero, byL_nil, oxmL_nil, instL_nil, gFault, *])
       | (refine WK.ret Tryz.func39 ?_ ?_ <;> simp (maxDischargeDepth := 120) [Tryz.results39, mgBase, Msg.enc, FlowMod.enc, GroupMod.enc, Flt.enc, msg0, flowMod0, gm0, flt0, uI_zero, byL_nil, oxmL_nil, instL_nil, gFault, *])
       | fail)
  rw [if_neg k14] at hF
  by_cases k15 : k = 15
  · subst k15
    rw [if_pos rfl] at hF
    have d := gdec_c b (by omega)
    obtain ⟨R, hR⟩ : ∃ R, gmDec b = R := ⟨_, rfl⟩
    rw [hR] at d hF
    obtain ⟨y, c⟩ := R
    unfold byS at *
    cases c with
    | some c =>
      simp only at hF
      rw [hF, msg0_enc]
      clear hF b1 b6 hR
      refine FnP.intro Tryz.func39 rfl rfl fun G w => ?_
      repeat' (first
       | refine WK.seq ?_
       | refine WK.block ?_
       | refine WK.inBlock ?_
       | refine WK.condT rfl ?_
       | refine WK.condF rfl ?_
       | (refine Hid.h hQ _ _ ?_; clear hQ hA)
       | (refine WK.regH Tryz.ntmps39 (by kernel_rfl) ?_; intro A hA Q hQ; simp [mgBase, Msg.enc, FlowMod.enc, GroupMod.enc, Flt.enc, msg0, flowMod0, gm0, flt0, uI_zero, byL_nil, oxmL_nil, instL_nil, gFault, msg0E, *])
       | (refine WK.regX (by kernel_rfl) Tryz.ntmps39 (by kernel_rfl) ?_; intro A hA Q hQ; simp [mgBase, Msg.enc, FlowMod.enc, GroupMod.enc, Flt.enc, msg0, flowMod0, gm0, flt0, uI_zero, byL_nil, oxmL_nil, instL_nil, gFault, msg0E, *])
       | (refine Hid.h hQ _ _ _ (by decide +kernel) ?_; clear hQ hA)
       | (refine RunQ.call rfl rfl rfl rfl rfl ?_ (d) ?_ ?_; (focus (simp (maxDischargeDepth := 120) [mgBase, Msg.enc, FlowMod.enc, GroupMod.enc, Flt.enc, msg0, flowMod0, gm0, flt0, uI_zero, byL_nil, oxmL_nil, instL_nil, gFault, msg0E, *]; done)); (focus (simp [mgBase, Msg.enc, FlowMod.enc, GroupMod.enc, Flt.enc, msg0, flowMod0, gm0, flt0, uI_zero, byL_nil, oxmL_nil, instL_nil, gFault, msg0E, *]; done)); refine RunQ.evalH ?_; simp [mgBase, Msg.enc, FlowMod.enc, GroupMod.enc, Flt.enc, msg0, flowMod0, gm0, flt0, uI_zero, byL_nil, oxmL_nil, instL_nil, gFault, msg0E, *])
       | (refine WK.ret Tryz.func39 ?_ ?_ <;> simp (maxDischargeDepth := 120) [Tryz.results39, mgBase, Msg.enc, FlowMod.enc, GroupMod.enc, Flt.enc, msg0, flowMod0, gm0, flt0, uI_zero, byL_nil, oxmL_nil, instL_nil, gFault, msg0E, *])
       | fail)
    | none =>
      simp only at hF
      rw [hF]
      clear hF b1 b6 hR
      refine FnP.intro Tryz.func39 rfl rfl fun G w => ?_
      repeat' (first
       | refine WK.seq ?_
       | refine WK.block ?_
       | refine WK.inBlock ?_
       | refine WK.skip ?_
       | refine WK.condT rfl ?_
       | refine WK.condF rfl ?_
       | (refine Hid.h hQ _ _ ?_; clear hQ hA)
       | (refine WK.regH Tryz.ntmps39 (by kernel_rfl) ?_; intro A hA Q hQ; simp [mgBase, Msg.enc, FlowMod.enc, GroupMod.enc, Flt.enc, msg0, flowMod0, gm0, flt0, uI_zero, byL_nil, oxmL_nil, instL_nil, gFault, *])
       | (refine RunQ.call rfl rfl rfl rfl rfl ?_ (d) ?_ ?_; (focus (simp (maxDischargeDepth := 120) [mgBase, Msg.enc, FlowMod.enc, GroupMod.enc, Flt.enc, msg0, flowMod0, gm0, flt0, uI_zero, byL_nil, oxmL_nil, instL_nil, gFault, *]; done)); (focus (simp [mgBase, Msg.enc, FlowMod.enc, GroupMod.enc, Flt.enc, msg0, flowMod0, gm0, flt0, uI_zero, byL_nil, oxmL_nil, instL_nil, gFault, *]; done)); refine RunQ.evalH ?_; simp [mgBase, Msg.enc, FlowMod.enc, GroupMod.enc, Flt.enc, msg0, flowMod0, gm0, flt0, uI_zero, byL_nil, oxmL_nil, instL_nil, gFault, *])
       | (refine WK.ret Tryz.func39 ?_ ?_ <;> simp (maxDischargeDepth := 120) [Tryz.results39, mgBase, Msg.enc, FlowMod.enc, GroupMod.enc, Flt.enc, msg0, flowMod0, gm0, flt0, uI_zero, byL_nil, oxmL_nil, instL_nil, gFault, *])
       | fail)
  rw [if_neg k15] at hF
  rw [hF, msg0_enc]
  have j0 : (k == 0) = false := by rw [beq_eq_false_iff_ne]; omega
  have j2 : (k == 2) = false := by rw [beq_eq_false_iff_ne]; omega
  have j3 : (k == 3) = false := by rw [beq_eq_false_iff_ne]; omega
  have j1 : (k == 1) = false := by rw [beq_eq_false_iff_ne]; omega
  have j14 : (k == 14) = false := by rw [beq_eq_false_iff_ne]; omega
  have j15 : (k == 15) = false := by rw [beq_eq_false_iff_ne]; omega
  unfold byS at *
  clear hF b6 k0 k1 k14 k15 hd
  refine FnP.intro Tryz.func39 rfl rfl fun G w => ?_
  repeat' (first
   | refine WK.seq ?_
   | refine WK.block ?_
   | refine WK.condF rfl ?_
   | (refine Hid.h hQ _ _ ?_; clear hQ hA)
   | (refine WK.regH Tryz.ntmps39 (by kernel_rfl) ?_; intro A hA Q hQ; simp [mgBase, Msg.enc, FlowMod.enc, GroupMod.enc, Flt.enc, msg0, flowMod0, gm0, flt0, uI_zero, byL_nil, oxmL_nil, instL_nil, gFault, msg0E, *])
   | (refine RunQ.call rfl rfl rfl rfl rfl ?_ (b1) ?_ ?_; (focus (simp (maxDischargeDepth := 120) [mgBase, Msg.enc, FlowMod.enc, GroupMod.enc, Flt.enc, msg0, flowMod0, gm0, flt0, uI_zero, byL_nil, oxmL_nil, instL_nil, gFault, msg0E, *]; done)); (focus (simp [mgBase, Msg.enc, FlowMod.enc, GroupMod.enc, Flt.enc, msg0, flowMod0, gm0, flt0, uI_zero, byL_nil, oxmL_nil, instL_nil, gFault, msg0E, *]; done)); refine RunQ.evalH ?_; simp [mgBase, Msg.enc, FlowMod.enc, GroupMod.enc, Flt.enc, msg0, flowMod0, gm0, flt0, uI_zero, byL_nil, oxmL_nil, instL_nil, gFault, msg0E, *])
   | (refine WK.ret Tryz.func39 ?_ ?_ <;> simp (maxDischargeDepth := 120) [Tryz.results39, mgBase, Msg.enc, FlowMod.enc, GroupMod.enc, Flt.enc, msg0, flowMod0, gm0, flt0, uI_zero, byL_nil, oxmL_nil, instL_nil, gFault, msg0E, *])
   | fail)
theorem bI_four (x : BitVec 8) : (bI x == 4) = (x == 4#8) := by
  rw [Bool.eq_iff_iff, beq_iff_eq, beq_iff_eq]
  unfold bI
  constructor
  · intro h; exact BitVec.eq_of_toNat_eq (by simp; omega)
  · intro h; subst h; rfl
theorem mgDec_short {b : List (BitVec 8)} (h : b.length < 8) : mgDec b = (msg0, some (1, 6)) := by unfold mgDec; rw [if_pos h]
set_option maxHeartbeats 8000000 in
theorem mgdec_c (b : List (BitVec 8)) (hb : b.length ≤ 80000) : FnP Tryz.prog 16 [byS b] (.tup [.agg (mgDec b).1.enc, .agg (gFault (mgDec b).2)]) := by
  have b6 := mgbad_c 6
  have b0 := mgbad_c 0
  rw [msg0_enc] at b6 b0
  by_cases c0 : b.length < 8
  · have c0' : (b.length : Int) < 8 := by omega
    rw [mgDec_short c0, msg0_enc]
    unfold byS
    clear b0
    refine FnP.intro Tryz.func16 rfl rfl fun G w => ?_
    repeat' (first
     | refine WK.seq ?_
     | refine WK.condT rfl ?_
     | (refine Hid.h hQ _ _ ?_; clear hQ hA)
     | (refine WK.regH Tryz.ntmps16 (by kernel_rfl) ?_; intro A hA Q hQ; simp [gFault, msg0E, *])
     | (refine RunQ.call rfl rfl rfl rfl rfl ?_ (b6) ?_ ?_; (focus (simp (maxDischargeDepth := 120) [gFault, msg0E, *]; done)); (focus (simp [gFault, msg0E, *]; done)); refine RunQ.evalH ?_; simp [gFault, msg0E, *])
     | (refine WK.ret Tryz.func16 ?_ ?_ <;> simp (maxDischargeDepth := 120) [Tryz.results16, gFault, msg0E, *])
     | fail)
  have c0' : ¬ (b.length : Int) < 8 := by omega
  have hD : mgDec b = if (nth b 0 == 4#8) = false then (msg0, some (1, 0)) else if ¬ valN ((b.drop 2).take 2) = b.length then (msg0, some (1, 6)) else mgFill (bI (nth b 1)) (getN b 4 4).1 (b.drop 8) := by unfold mgDec; rw [if_neg c0]
  have g2 := nget_c b 2 2 Sz2 (by omega) (by omega)
  have g4 := nget_c b 4 4 Sz4 (by omega) (by omega)
  have e2 := getN_val (b := b) (p := 2) (s := 2) (by omega)
  have e4 := getN_val (b := b) (p := 4) (s := 4) (by omega)
  rw [e2] at g2
  have x0 := by_get b 0 (by omega)
  have x1 := by_get b 1 (by omega)
  have u0 : (0 : Int) < b.length := by omega
  have u1 : (1 : Int) < b.length := by omega
  have v0 : 0 < b.length := by omega
  have v1 : 1 < b.length := by omega
  have y0 := bI_four (nth b 0)
  have w1 := u8_i64' (nth b 1)
  obtain ⟨z, hz⟩ : ∃ z, (nth b 0 == 4#8) = z := ⟨_, rfl⟩
  rw [hz] at y0 hD
  obtain ⟨X0, h0⟩ : ∃ X, bI (nth b 0) = X := ⟨_, rfl⟩
  rw [h0] at x0 y0
  obtain ⟨X1, h1⟩ : ∃ X, bI (nth b 1) = X := ⟨_, rfl⟩
  rw [h1] at x1 hD w1
  obtain ⟨v, hv⟩ : ∃ v, valN ((b.drop 2).take 2) = v := ⟨_, rfl⟩
  rw [hv] at g2 hD
  have fl := mgfill_c X1 (getN b 4 4).1 (b.drop 8) (by rw [List.length_drop]; omega)
  rw [e4] at g4 hD fl
  simp only at hD fl
  obtain ⟨q, hq⟩ : ∃ q : Int, ((valN ((b.drop 4).take 4) : Nat) : Int) = q := ⟨_, rfl⟩
  rw [hq] at g4 hD fl
  have hs8 : ((byL b).drop 8).take (b.length - 8) = byL (b.drop 8) := by rw [byL_drop]; exact by_full _ _ (by rw [List.length_drop])
  have u8 : (8 : Int) ≤ b.length := by omega
  have hz7 : ((v : Int) == (b.length : Int)) = (v == b.length) := by rw [Bool.eq_iff_iff, beq_iff_eq, beq_iff_eq]; omega
  simp only [byS, List.length_drop] at g2 g4 fl ⊢
  obtain ⟨B8, hB8⟩ : ∃ B, b.drop 8 = B := ⟨_, rfl⟩
  rw [hB8] at fl hs8 hD
  clear hz h0 h1 hv e2 e4 hq hB8 c0
  cases z
  · rw [if_pos rfl] at hD
    rw [hD, msg0_enc]
    clear hD b6 fl
    refine FnP.intro Tryz.func16 rfl rfl fun G w => ?_
    repeat' (first
     | refine WK.seq ?_
     | refine WK.block ?_
     | refine WK.skip ?_
     | refine WK.condT rfl ?_
     | refine WK.condF rfl ?_
     | (refine Hid.h hQ _ _ ?_; clear hQ hA)
     | (refine WK.regH Tryz.ntmps16 (by kernel_rfl) ?_; intro A hA Q hQ; simp [gFault, msg0E, bne, *])
     | (refine RunQ.call rfl rfl rfl rfl rfl ?_ (g2) ?_ ?_; (focus (simp (maxDischargeDepth := 120) [gFault, msg0E, bne, *]; done)); (focus (simp [gFault, msg0E, bne, *]; done)); refine RunQ.evalH ?_; simp [gFault, msg0E, bne, *])
     | (refine RunQ.call rfl rfl rfl rfl rfl ?_ (g4) ?_ ?_; (focus (simp (maxDischargeDepth := 120) [gFault, msg0E, bne, *]; done)); (focus (simp [gFault, msg0E, bne, *]; done)); refine RunQ.evalH ?_; simp [gFault, msg0E, bne, *])
     | (refine RunQ.call rfl rfl rfl rfl rfl ?_ (b0) ?_ ?_; (focus (simp (maxDischargeDepth := 120) [gFault, msg0E, bne, *]; done)); (focus (simp [gFault, msg0E, bne, *]; done)); refine RunQ.evalH ?_; simp [gFault, msg0E, bne, *])
     | (refine WK.ret Tryz.func16 ?_ ?_ <;> simp (maxDischargeDepth := 120) [Tryz.results16, gFault, msg0E, bne, *])
     | fail)
  rw [if_neg (by simp)] at hD
  by_cases hl : v = b.length
  case neg =>
    have hl' : (v == b.length) = false := by simpa using hl
    rw [if_pos hl] at hD
    rw [hD, msg0_enc]
    rw [hl'] at hz7
    clear hD b0 fl hl'
    refine FnP.intro Tryz.func16 rfl rfl fun G w => ?_
    repeat' (first
     | refine WK.seq ?_
     | refine WK.block ?_
     | refine WK.skip ?_
     | refine WK.condT rfl ?_
     | refine WK.condF rfl ?_
     | (refine Hid.h hQ _ _ ?_; clear hQ hA)
     | (refine WK.regH Tryz.ntmps16 (by kernel_rfl) ?_; intro A hA Q hQ; simp [gFault, msg0E, bne, *])
     | (refine RunQ.call rfl rfl rfl rfl rfl ?_ (g2) ?_ ?_; (focus (simp (maxDischargeDepth := 120) [gFault, msg0E, bne, *]; done)); (focus (simp [gFault, msg0E, bne, *]; done)); refine RunQ.evalH ?_; simp [gFault, msg0E, bne, *])
     | (refine RunQ.call rfl rfl rfl rfl rfl ?_ (g4) ?_ ?_; (focus (simp (maxDischargeDepth := 120) [gFault, msg0E, bne, *]; done)); (focus (simp [gFault, msg0E, bne, *]; done)); refine RunQ.evalH ?_; simp [gFault, msg0E, bne, *])
     | (refine RunQ.call rfl rfl rfl rfl rfl ?_ (b6) ?_ ?_; (focus (simp (maxDischargeDepth := 120) [gFault, msg0E, bne, *]; done)); (focus (simp [gFault, msg0E, bne, *]; done)); refine RunQ.evalH ?_; simp [gFault, msg0E, bne, *])
     | (refine WK.ret Tryz.func16 ?_ ?_ <;> simp (maxDischargeDepth := 120) [Tryz.results16, gFault, msg0E, bne, *])
     | fail)
  have hl' : (v == b.length) = true := by simpa using hl
  rw [if_neg (by simpa using hl)] at hD
  rw [hl'] at hz7
  rw [hD]
  have hbase : (mgBase X1 q).enc = [.int .i64 X1, .int .i64 q, .int .u64 0, .int .u64 0, .int .i64 0, .int .i64 0, .int .i64 0, .int .i64 0, .int .i64 0, .int .i64 0, .int .i64 0, .int .i64 0, .int .i64 0, .sl false 0 [], .sl false 0 [], .int .i64 0, .int .i64 0, .int .i64 0, .sl false 0 [], .bool false, .int .i64 0, .int .i64 0, .sl false 0 []] := rfl
  rw [hbase] at fl
  obtain ⟨R, hR⟩ : ∃ R, mgFill X1 q B8 = R := ⟨_, rfl⟩
  rw [hR] at fl ⊢
  obtain ⟨y, c⟩ := R
  obtain ⟨f0, f1, f2, hg⟩ : ∃ f0 f1 f2, gFault c = [.bool f0, .int .i64 f1, .int .i64 f2] := by cases c <;> exact ⟨_, _, _, rfl⟩
  simp only at fl ⊢
  rw [hg] at fl ⊢
  clear hD b0 b6 hbase hl' hR hg
  unfold Msg.enc Flt.enc FlowMod.enc GroupMod.enc at *
  refine FnP.intro Tryz.func16 rfl rfl fun G w => ?_
  repeat' (first
   | refine WK.seq ?_
   | refine WK.block ?_
   | refine WK.inBlock ?_
   | refine WK.skip ?_
   | refine WK.condF rfl ?_
   | (refine Hid.h hQ _ _ ?_; clear hQ hA)
   | (refine WK.regH Tryz.ntmps16 (by kernel_rfl) ?_; intro A hA Q hQ; simp [bne, *])
   | (refine WK.regX (by kernel_rfl) Tryz.ntmps16 (by kernel_rfl) ?_; intro A hA Q hQ; simp [bne, *])
   | (refine Hid.h hQ _ _ _ (by decide +kernel) ?_; clear hQ hA)
   | (refine RunQ.call rfl rfl rfl rfl rfl ?_ (g2) ?_ ?_; (focus (simp (maxDischargeDepth := 120) [bne, *]; done)); (focus (simp [bne, *]; done)); refine RunQ.evalH ?_; simp [bne, *])
   | (refine RunQ.call rfl rfl rfl rfl rfl ?_ (g4) ?_ ?_; (focus (simp (maxDischargeDepth := 120) [bne, *]; done)); (focus (simp [bne, *]; done)); refine RunQ.evalH ?_; simp [bne, *])
   | (refine RunX.call rfl rfl rfl rfl ?_ (fl) ?_ ?_; (focus (simp (maxDischargeDepth := 120) [bne, *]; done)); (focus (simp [bne, *]; done)); refine RunX.evalY ?_; simp [bne, *])
   | (refine WK.ret Tryz.func16 ?_ ?_ <;> simp (maxDischargeDepth := 120) [Tryz.results16, bne, *])
   | fail)
end Go.Proofs.YtcccfbjkcahgfaaGreat
end

section
set_option linter.unusedVariables false
set_option linter.unusedSimpArgs false
namespace Go.Proofs.YtcccfbjkcahgfaaGreat
open Go Go.AI Go.Proofs
attribute [local irreducible] FnP FnO FnB FnT FnSeq WK RunQ RunQW RunX RunXW

theorem fmDec_fits {b : List (BitVec 8)} {m : FlowMod} {c : Option (Int × Int)} (hb : b.length ≤ 80000) (h : fmDec b = (m, c)) : FmB m := by
  cases c with
  | some c => rw [fmDec_bad h]; exact flowMod0_B
  | none => exact fmDec_B hb h
end Go.Proofs.YtcccfbjkcahgfaaGreat
end

section
set_option linter.unusedVariables false
set_option linter.unusedSimpArgs false
namespace Go.Proofs.YtcccfbjkcahgfaaGreat
open Go Go.AI Go.Proofs
attribute [local irreducible] FnP FnO FnB FnT FnSeq WK RunQ RunQW RunX RunXW

def msgPlain (m : Msg) : Bool := decide (m.data.length ≤ 2000) && (FlowMod.plain m.flow && bucketsPlain m.group.buckets 8)
theorem pMsg_c (m : Msg) : FnP Tryz.prog 7 [.agg m.enc] (.bool (msgPlain m)) := by
  have p1 := pMod_c m.flow
  have p2 := pbuckets_c m.group.buckets 8 (by omega)
  have e : msgPlain m = (decide (m.data.length ≤ 2000) && (FlowMod.plain m.flow && bucketsPlain m.group.buckets 8)) := rfl
  obtain ⟨S, hS⟩ : ∃ S, msgPlain m = S := ⟨_, rfl⟩
  rw [hS] at e ⊢
  obtain ⟨z1, hz1⟩ : ∃ z, FlowMod.plain m.flow = z := ⟨_, rfl⟩
  obtain ⟨z2, hz2⟩ : ∃ z, bucketsPlain m.group.buckets 8 = z := ⟨_, rfl⟩
  rw [hz1] at p1 e
  rw [hz2] at p2 e
  clear hS hz1 hz2
  unfold Msg.enc Flt.enc
  unfold FlowMod.enc at *
  unfold GroupMod.enc
  unfold bukS at p2
  by_cases h : m.data.length ≤ 2000
  · have h' : (m.data.length : Int) ≤ 2000 := by omega
    refine FnP.intro Tryz.func7 rfl rfl fun G w => ?_
    repeat' (first
     | refine WK.seq ?_
     | (refine Hid.h hQ _ _ ?_; clear hQ hA)
     | (refine Fork.mk (fun h => ?_) (fun h => ?_) <;> (first | (simp [*] at h; done) | (have h2 := h; simp at h2; exfalso; omega) | (have h2 := h; simp at h2; try simp only [Bool.not_eq_true', Bool.not_eq_false'] at h) | skip))
     | (refine WK.regH Tryz.ntmps7 (by kernel_rfl) ?_; intro A hA Q hQ; simp [*])
     | (refine RunQ.gd rfl (by rw [hA.h]; rfl) ?_; simp [*])
     | (refine RunQW.call rfl rfl rfl rfl ?_ (p1) ?_ ?_; (focus (simp (maxDischargeDepth := 120) [*]; done)); (focus (simp [*]; done)); refine RunQ.evalH ?_; simp [*])
     | (refine RunQW.call rfl rfl rfl rfl ?_ (p2) ?_ ?_; (focus (simp (maxDischargeDepth := 120) [*]; done)); (focus (simp [*]; done)); refine RunQ.evalH ?_; simp [*])
     | (refine WK.ret Tryz.func7 ?_ ?_ <;> simp (maxDischargeDepth := 120) [Tryz.results7, *])
     | fail)
  · have h' : ¬ (m.data.length : Int) ≤ 2000 := by omega
    refine FnP.intro Tryz.func7 rfl rfl fun G w => ?_
    repeat' (first
     | refine WK.seq ?_
     | (refine Hid.h hQ _ _ ?_; clear hQ hA)
     | (refine WK.regH Tryz.ntmps7 (by kernel_rfl) ?_; intro A hA Q hQ; simp [*])
     | (refine RunQ.gd rfl (by rw [hA.h]; rfl) ?_; simp [*])
     | (refine WK.ret Tryz.func7 ?_ ?_ <;> simp (maxDischargeDepth := 120) [Tryz.results7, *])
     | fail)
theorem msgPlain_B {m : Msg} (h : msgPlain m = true) : MsB m := by
  unfold msgPlain at h
  rw [Bool.and_eq_true, Bool.and_eq_true, decide_eq_true_eq] at h
  obtain ⟨h1, h2, h3⟩ := h
  obtain ⟨hl, ha0⟩ := bucketsPlain_facts h3
  exact ⟨fmB_plain h2, ⟨by omega, fun x hx => by have := ha0 x hx; omega⟩, by omega⟩
theorem msg0_B : MsB msg0 := ⟨flowMod0_B, ⟨by simp [msg0, gm0], by simp [msg0, gm0]⟩, by simp [msg0]⟩
theorem mgFill_B {k x : Int} {b : List (BitVec 8)} {m : Msg} {c : Option (Int × Int)} (hb : b.length ≤ 80000) (h : mgFill k x b = (m, c)) : MsB m := by
  have z1 := flowMod0_B
  have z2 : GmFit gm0 := ⟨by simp [gm0], by simp [gm0]⟩
  unfold mgFill at h
  split at h
  · split at h
    · cases h; exact msg0_B
    · cases h; exact ⟨z1, z2, by show b.length ≤ 100000; omega⟩
  split at h
  · split at h
    · cases h; exact msg0_B
    split at h
    · cases h; exact msg0_B
    · cases h; exact ⟨z1, z2, by show (b.drop 4).length ≤ 100000; rw [List.length_drop]; omega⟩
  split at h
  · obtain ⟨y, c', hd⟩ : ∃ y c, fmDec b = (y, c) := ⟨_, _, rfl⟩
    rw [hd] at h
    have hy := fmDec_fits hb hd
    cases c' with
    | some c' => cases h; exact msg0_B
    | none => cases h; exact ⟨hy, z2, by show ([] : List (BitVec 8)).length ≤ 100000; simp⟩
  split at h
  · obtain ⟨y, c', hd⟩ : ∃ y c, gmDec b = (y, c) := ⟨_, _, rfl⟩
    rw [hd] at h
    have hy := gmDec_fit (by omega) hd
    cases c' with
    | some c' => cases h; exact msg0_B
    | none => cases h; exact ⟨z1, hy, by show ([] : List (BitVec 8)).length ≤ 100000; simp⟩
  · cases h; exact msg0_B
theorem mgDec_B {b : List (BitVec 8)} {m : Msg} {c : Option (Int × Int)} (hb : b.length ≤ 80000) (h : mgDec b = (m, c)) : MsB m := by
  unfold mgDec at h
  split at h
  · cases h; exact msg0_B
  split at h
  · cases h; exact msg0_B
  split at h
  · cases h; exact msg0_B
  · exact mgFill_B (by rw [List.length_drop]; omega) h
def L20 : Msg := ⟨15, 8, flowMod0, ⟨0, 0, 5, []⟩, flt0, []⟩
def B20a : List (BitVec 8) := [4#8, 0#8, 0#8, 8#8, 0#8, 0#8, 0#8, 7#8]
def B20b : List (BitVec 8) := [4#8, 99#8, 0#8, 8#8, 0#8, 0#8, 0#8, 7#8]
def M20 : Msg := ⟨0, 7, flowMod0, gm0, flt0, []⟩
theorem fL20a : (mgEnc L20).1.length = 16 := by kernel_rfl
theorem fL20b : (mgEnc L20).2 = 0 := by kernel_rfl
theorem fL20c : mgDec (mgEnc L20).1 = (L20, none) := by kernel_rfl
theorem fL20d : mgRight L20 = true := by kernel_rfl
theorem fL20e : mgDec B20a = (M20, none) := by kernel_rfl
theorem fL20f : mgDec B20b = (msg0, some (1, 1)) := by kernel_rfl
set_option maxHeartbeats 8000000 in
theorem awake20_c : FnP Tryz.prog 8 [] (.bool true) := by
  have hB : MsB L20 := ⟨flowMod0_B, ⟨by simp [L20], by simp [L20]⟩, by simp [L20]⟩
  have p := mgencP_c L20 hB
  have d := mgdec_c (mgEnc L20).1 (by rw [fL20a]; omega)
  have d1 := mgdec_c B20a (by decide)
  have d2 := mgdec_c B20b (by decide)
  have s := mgsame_c L20 L20 hB
  have r := mgright_c L20 hB
  rw [fL20c] at d
  rw [fL20b] at p
  rw [fL20d] at r
  rw [fL20e] at d1
  rw [fL20f] at d2
  rw [mgSame_self] at s
  have hl := fL20a
  obtain ⟨B, hBB⟩ : ∃ B, (mgEnc L20).1 = B := ⟨_, rfl⟩
  rw [hBB] at p d hl
  clear hBB hB
  have e0 : L20.enc = [.int .i64 15, .int .i64 8, .int .u64 0, .int .u64 0, .int .i64 0, .int .i64 0, .int .i64 0, .int .i64 0, .int .i64 0, .int .i64 0, .int .i64 0, .int .i64 0, .int .i64 0, .sl false 0 [], .sl false 0 [], .int .i64 0, .int .i64 0, .int .i64 5, .sl false 0 [], .bool false, .int .i64 0, .int .i64 0, .sl false 0 []] := rfl
  have e1 : M20.enc = [.int .i64 0, .int .i64 7, .int .u64 0, .int .u64 0, .int .i64 0, .int .i64 0, .int .i64 0, .int .i64 0, .int .i64 0, .int .i64 0, .int .i64 0, .int .i64 0, .int .i64 0, .sl false 0 [], .sl false 0 [], .int .i64 0, .int .i64 0, .int .i64 0, .sl false 0 [], .bool false, .int .i64 0, .int .i64 0, .sl false 0 []] := rfl
  have ea : byS B20a = .sl false 8 [.int .u8 4, .int .u8 0, .int .u8 0, .int .u8 8, .int .u8 0, .int .u8 0, .int .u8 0, .int .u8 7] := rfl
  have eb : byS B20b = .sl false 8 [.int .u8 4, .int .u8 99, .int .u8 0, .int .u8 8, .int .u8 0, .int .u8 0, .int .u8 0, .int .u8 7] := rfl
  rw [ea, e1] at d1
  rw [eb, msg0_enc] at d2
  unfold byS at p d
  rw [hl] at p d
  simp only [e0, gFault, msg0E] at p d d1 d2 s r
  refine FnP.intro Tryz.func8 rfl rfl fun G w => ?_
  repeat' (first
   | refine WK.seq ?_
   | (refine Hid.h hQ _ _ ?_; clear hQ hA)
   | (refine WK.regH Tryz.ntmps8 (by kernel_rfl) ?_; intro A hA Q hQ; simp [*])
   | (refine RunQ.gd rfl (by rw [hA.h]; rfl) ?_; simp [*])
   | (refine RunQ.call rfl rfl rfl rfl rfl ?_ (p) ?_ ?_; (focus (simp (maxDischargeDepth := 120) [*]; done)); (focus (simp [*]; done)); refine RunQ.evalH ?_; simp [*])
   | (refine RunQ.call rfl rfl rfl rfl rfl ?_ (d) ?_ ?_; (focus (simp (maxDischargeDepth := 120) [*]; done)); (focus (simp [*]; done)); refine RunQ.evalH ?_; simp [*])
   | (refine RunQ.call rfl rfl rfl rfl rfl ?_ (d1) ?_ ?_; (focus (simp (maxDischargeDepth := 120) [*]; done)); (focus (simp [*]; done)); refine RunQ.evalH ?_; simp [*])
   | (refine RunQ.call rfl rfl rfl rfl rfl ?_ (d2) ?_ ?_; (focus (simp (maxDischargeDepth := 120) [*]; done)); (focus (simp [*]; done)); refine RunQ.evalH ?_; simp [*])
   | (refine RunQW.call rfl rfl rfl rfl ?_ (s) ?_ ?_; (focus (simp (maxDischargeDepth := 120) [*]; done)); (focus (simp [*]; done)); refine RunQ.evalH ?_; simp [*])
   | (refine RunQW.call rfl rfl rfl rfl ?_ (r) ?_ ?_; (focus (simp (maxDischargeDepth := 120) [*]; done)); (focus (simp [*]; done)); refine RunQ.evalH ?_; simp [*])
   | (refine WK.ret Tryz.func8 ?_ ?_ <;> simp (maxDischargeDepth := 120) [Tryz.results8, *])
   | fail)
set_option maxHeartbeats 8000000 in
theorem msgBack_c (m : Msg) (b : List (BitVec 8)) : FnP Tryz.prog 5 [.agg m.enc, byS b] (.bool true) := by
  have p1 := pMsg_c m
  cases h1 : msgPlain m
  · rw [h1] at p1
    simp only [byS] at *
    unfold Msg.enc Flt.enc FlowMod.enc GroupMod.enc at *
    refine FnP.intro Tryz.func5 rfl rfl fun G w => ?_
    repeat' (first
     | refine WK.seq ?_
     | refine WK.condT rfl ?_
     | (refine Hid.h hQ _ _ ?_; clear hQ hA)
     | (refine WK.regH Tryz.ntmps5 (by kernel_rfl) ?_; intro A hA Q hQ; simp [*])
     | (refine RunQ.gd rfl (by rw [hA.h]; rfl) ?_; simp [*])
     | (refine RunQ.call rfl rfl rfl rfl rfl ?_ (p1) ?_ ?_; (focus (simp (maxDischargeDepth := 120) [*]; done)); (focus (simp [*]; done)); refine RunQ.evalH ?_; simp [*])
     | (refine RunQ.call rfl rfl rfl rfl rfl ?_ (awake20_c) ?_ ?_; (focus (simp (maxDischargeDepth := 120) [*]; done)); (focus (simp [*]; done)); refine RunQ.evalH ?_; simp [*])
     | (refine WK.ret Tryz.func5 ?_ ?_ <;> simp (maxDischargeDepth := 120) [Tryz.results5, *])
     | fail)
  rw [h1] at p1
  by_cases g2 : 70000 < b.length
  · have g2' : (70000 : Int) < b.length := by omega
    simp only [byS] at *
    unfold Msg.enc Flt.enc FlowMod.enc GroupMod.enc at *
    clear h1
    refine FnP.intro Tryz.func5 rfl rfl fun G w => ?_
    repeat' (first
     | refine WK.seq ?_
     | refine WK.condT rfl ?_
     | (refine Hid.h hQ _ _ ?_; clear hQ hA)
     | (refine WK.regH Tryz.ntmps5 (by kernel_rfl) ?_; intro A hA Q hQ; simp [*])
     | (refine RunQ.gd rfl (by rw [hA.h]; rfl) ?_; simp [*])
     | (refine RunQ.call rfl rfl rfl rfl rfl ?_ (p1) ?_ ?_; (focus (simp (maxDischargeDepth := 120) [*]; done)); (focus (simp [*]; done)); refine RunQ.evalH ?_; simp [*])
     | (refine RunQ.call rfl rfl rfl rfl rfl ?_ (awake20_c) ?_ ?_; (focus (simp (maxDischargeDepth := 120) [*]; done)); (focus (simp [*]; done)); refine RunQ.evalH ?_; simp [*])
     | (refine WK.ret Tryz.func5 ?_ ?_ <;> simp (maxDischargeDepth := 120) [Tryz.results5, *])
     | fail)
  have g2' : ¬ (70000 : Int) < b.length := by omega
  have hm := msgPlain_B h1
  have p := mgencP_c m hm
  have hEl := mgEnc_len m
  have dd := mgdec_c (mgEnc m).1 (by omega)
  have s := mgsame_c m m hm
  rw [mgSame_self] at s
  have d2 := mgdec_c b (by omega)
  simp only [byS] at d2 ⊢
  clear h1
  unfold Msg.enc Flt.enc FlowMod.enc GroupMod.enc at p1 p s ⊢
  refine FnP.intro Tryz.func5 rfl rfl fun G w => ?_
  repeat (refine WK.seq ?_)
  apply WK.cut (⟨(upd J 1 (.sl false b.length (byL b))), B0, 0⟩ : St)
  · intro hcut
    cases hr : mgRight m
    · have e := mgEnc_bad hr
      rw [e] at p
      simp only [byS] at p
      clear e hr
      repeat' (first
       | refine WK.seq ?_
       | refine WK.skip ?_
       | refine WK.condF rfl ?_
       | (refine Hid.h hQ _ _ ?_; clear hQ hA)
       | (refine WK.regH (id := 0) Tryz.ntmps5 (by kernel_rfl) ?_; intro A hA Q hQ; simp [*])
       | (refine WK.regH (id := 1) Tryz.ntmps5 (by kernel_rfl) ?_; intro A hA Q hQ; simp [*])
       | (refine WK.regH (id := 2) Tryz.ntmps5 (by kernel_rfl) ?_; intro A hA Q hQ; simp [*])
       | (refine WK.regH (id := 3) Tryz.ntmps5 (by kernel_rfl) ?_; intro A hA Q hQ; simp [*])
       | (refine WK.regH (id := 4) Tryz.ntmps5 (by kernel_rfl) ?_; intro A hA Q hQ; simp [*])
       | (refine WK.regH (id := 5) Tryz.ntmps5 (by kernel_rfl) ?_; intro A hA Q hQ; simp [*])
       | (refine WK.regH (id := 6) Tryz.ntmps5 (by kernel_rfl) ?_; intro A hA Q hQ; simp [*])
       | (refine WK.regH (id := 7) Tryz.ntmps5 (by kernel_rfl) ?_; intro A hA Q hQ; simp [*])
       | (refine RunQ.gd rfl (by rw [hA.h]; rfl) ?_; simp [*])
       | (refine RunQ.call rfl rfl rfl rfl rfl ?_ (p1) ?_ ?_; (focus (simp (maxDischargeDepth := 120) [*]; done)); (focus (simp [*]; done)); refine RunQ.evalH ?_; simp [*])
       | (refine RunQ.call rfl rfl rfl rfl rfl ?_ (p) ?_ ?_; (focus (simp (maxDischargeDepth := 120) [*]; done)); (focus (simp [*]; done)); refine RunQ.evalH ?_; simp [*])
       | fail)
      refine WK.next (fun n => n) hcut (by repeat (first | exact TmW.nil | refine TmW.upd ?_ (by simp (maxDischargeDepth := 120)))) (by repeat (first | exact BxW.nil | refine BxW.upd ?_ (by simp (maxDischargeDepth := 120)))) (by first | exact InjW.id | exact InjW.nil | exact InjW.one | exact InjW.two (by simp) | exact InjW.three (by simp) (by simp) (by simp))
    · have e := mgEnc_back hr
      have e2 : (mgEnc m).2 = 0 := by rw [mgEnc_good hr]
      rw [e] at dd
      rw [e2] at p
      simp only [byS] at p dd
      unfold Msg.enc Flt.enc FlowMod.enc GroupMod.enc at dd
      clear e hr e2
      repeat' (first
       | refine WK.seq ?_
       | refine WK.skip ?_
       | refine WK.condT rfl ?_
       | refine WK.condF rfl ?_
       | (refine Hid.h hQ _ _ ?_; clear hQ hA)
       | (refine WK.regH (id := 0) Tryz.ntmps5 (by kernel_rfl) ?_; intro A hA Q hQ; simp [gFault, bne, *])
       | (refine WK.regH (id := 1) Tryz.ntmps5 (by kernel_rfl) ?_; intro A hA Q hQ; simp [gFault, bne, *])
       | (refine WK.regH (id := 2) Tryz.ntmps5 (by kernel_rfl) ?_; intro A hA Q hQ; simp [gFault, bne, *])
       | (refine WK.regH (id := 3) Tryz.ntmps5 (by kernel_rfl) ?_; intro A hA Q hQ; simp [gFault, bne, *])
       | (refine WK.regH (id := 4) Tryz.ntmps5 (by kernel_rfl) ?_; intro A hA Q hQ; simp [gFault, bne, *])
       | (refine WK.regH (id := 5) Tryz.ntmps5 (by kernel_rfl) ?_; intro A hA Q hQ; simp [gFault, bne, *])
       | (refine WK.regH (id := 6) Tryz.ntmps5 (by kernel_rfl) ?_; intro A hA Q hQ; simp [gFault, bne, *])
       | (refine WK.regH (id := 7) Tryz.ntmps5 (by kernel_rfl) ?_; intro A hA Q hQ; simp [gFault, bne, *])
       | (refine RunQ.gd rfl (by rw [hA.h]; rfl) ?_; simp [gFault, bne, *])
       | (refine RunQ.call rfl rfl rfl rfl rfl ?_ (p1) ?_ ?_; (focus (simp (maxDischargeDepth := 120) [gFault, bne, *]; done)); (focus (simp [gFault, bne, *]; done)); refine RunQ.evalH ?_; simp [gFault, bne, *])
       | (refine RunQ.call rfl rfl rfl rfl rfl ?_ (p) ?_ ?_; (focus (simp (maxDischargeDepth := 120) [gFault, bne, *]; done)); (focus (simp [gFault, bne, *]; done)); refine RunQ.evalH ?_; simp [gFault, bne, *])
       | (refine RunQ.call rfl rfl rfl rfl rfl ?_ (dd) ?_ ?_; (focus (simp (maxDischargeDepth := 120) [gFault, bne, *]; done)); (focus (simp [gFault, bne, *]; done)); refine RunQ.evalH ?_; simp [gFault, bne, *])
       | (refine RunQW.call rfl rfl rfl rfl ?_ (s) ?_ ?_; (focus (simp (maxDischargeDepth := 120) [gFault, bne, *]; done)); (focus (simp [gFault, bne, *]; done)); refine RunQ.evalH ?_; simp [gFault, bne, *])
       | fail)
      refine WK.next (fun n => n) hcut (by repeat (first | exact TmW.nil | refine TmW.upd ?_ (by simp (maxDischargeDepth := 120)))) (by repeat (first | exact BxW.nil | refine BxW.upd ?_ (by simp (maxDischargeDepth := 120)))) (by first | exact InjW.id | exact InjW.nil | exact InjW.one | exact InjW.two (by simp) | exact InjW.three (by simp) (by simp) (by simp))
  obtain ⟨R, hR⟩ : ∃ R, mgDec b = R := ⟨_, rfl⟩
  rw [hR] at d2
  obtain ⟨k, f⟩ := R
  cases f with
  | some c =>
    have e := mgDec_bad hR
    subst e
    have s0 := mgsame_c msg0 msg0 msg0_B
    rw [mgSame_self] at s0
    rw [msg0_enc] at d2 s0
    simp only [msg0E] at d2 s0
    clear hR
    repeat' (first
     | refine WK.seq ?_
     | refine WK.condT rfl ?_
     | (refine Hid.h hQ _ _ ?_; clear hQ hA)
     | (refine WK.regH Tryz.ntmps5 (by kernel_rfl) ?_; intro A hA Q hQ; simp [gFault, *])
     | (refine RunQ.gd rfl (by rw [hA.h]; rfl) ?_; simp [gFault, *])
     | (refine RunQ.call rfl rfl rfl rfl rfl ?_ (d2) ?_ ?_; (focus (simp (maxDischargeDepth := 120) [gFault, *]; done)); (focus (simp [gFault, *]; done)); refine RunQ.evalH ?_; simp [gFault, *])
     | (refine RunQ.call rfl rfl rfl rfl rfl ?_ (s0) ?_ ?_; (focus (simp (maxDischargeDepth := 120) [gFault, *]; done)); (focus (simp [gFault, *]; done)); refine RunQ.evalH ?_; simp [gFault, *])
     | (refine RunQW.call rfl rfl rfl rfl ?_ (awake20_c) ?_ ?_; (focus (simp (maxDischargeDepth := 120) [gFault, *]; done)); (focus (simp [gFault, *]; done)); refine RunQ.evalH ?_; simp [gFault, *])
     | (refine WK.ret Tryz.func5 ?_ ?_ <;> simp (maxDischargeDepth := 120) [Tryz.results5, gFault, *])
     | fail)
  | none =>
    have e := mgDec_back hR
    have hk := mgDec_B (by omega) hR
    have p2 := mgencP_c k hk
    rw [e.2] at p2
    have q := bytesEq_c b b
    rw [beq_self_eq_true] at q
    simp only [byS] at p2 q d2
    unfold Msg.enc Flt.enc FlowMod.enc GroupMod.enc at p2 d2
    clear hR e hk
    repeat' (first
     | refine WK.seq ?_
     | refine WK.skip ?_
     | refine WK.condF rfl ?_
     | (refine Hid.h hQ _ _ ?_; clear hQ hA)
     | (refine WK.regH Tryz.ntmps5 (by kernel_rfl) ?_; intro A hA Q hQ; simp [gFault, *])
     | (refine RunQ.gd rfl (by rw [hA.h]; rfl) ?_; simp [gFault, *])
     | (refine RunQ.call rfl rfl rfl rfl rfl ?_ (d2) ?_ ?_; (focus (simp (maxDischargeDepth := 120) [gFault, *]; done)); (focus (simp [gFault, *]; done)); refine RunQ.evalH ?_; simp [gFault, *])
     | (refine RunQ.call rfl rfl rfl rfl rfl ?_ (p2) ?_ ?_; (focus (simp (maxDischargeDepth := 120) [gFault, *]; done)); (focus (simp [gFault, *]; done)); refine RunQ.evalH ?_; simp [gFault, *])
     | (refine RunQW.call rfl rfl rfl rfl ?_ (q) ?_ ?_; (focus (simp (maxDischargeDepth := 120) [gFault, *]; done)); (focus (simp [gFault, *]; done)); refine RunQ.evalH ?_; simp [gFault, *])
     | (refine RunQW.call rfl rfl rfl rfl ?_ (awake20_c) ?_ ?_; (focus (simp (maxDischargeDepth := 120) [gFault, *]; done)); (focus (simp [gFault, *]; done)); refine RunQ.evalH ?_; simp [gFault, *])
     | (refine WK.ret Tryz.func5 ?_ ?_ <;> simp (maxDischargeDepth := 120) [Tryz.results5, gFault, *])
     | fail)
end Go.Proofs.YtcccfbjkcahgfaaGreat
end
