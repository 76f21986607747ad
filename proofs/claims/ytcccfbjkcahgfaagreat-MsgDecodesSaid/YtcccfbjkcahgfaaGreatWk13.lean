/- Changes of flows: the reference. -/
import Derived.Test.YtcccfbjkcahgfaaGreatAf
import Derived.Test.YtcccfbjkcahgfaaGreatWk12
import Derived.Test.YtcccfbjkcahgfaaGreatWk10
set_option linter.all false
set_option linter.unnecessarySimpa false
namespace Go.Proofs.YtcccfbjkcahgfaaGreat
open Go Go.AI Go.Proofs
attribute [local irreducible] FnP FnO FnB FnT FnSeq WK RunQ RunQW RunX RunXW
set_option maxHeartbeats 4000000 in
theorem rfmcheck_c (m : FlowMod) (hm : FmB m) : FnP Tryz.prog 58 [.agg m.enc] (.agg (gF (fmCheck m))) := by
 have mc : ∀ f, FnP Tryz.prog 91 [oxmS m.mat, .int .i64 f] (.bool (mMet m.mat f)) := fun f => rmet_c m.mat f (by have := hm.mat; omega)
 have e : fmCheck m = if m.command < 0 ∨ 4 < m.command then some (5, 6) else if 31 < m.flags then some (5, 7) else if 2 < m.command then none else if fmWrong m = true then some (2, 10) else none := rfl
 have hl := hm.insts
 have ha := hm.acts
 unfold FlowMod.enc at *
 by_cases c1 : m.command < 0
 · rw [if_pos (.inl c1)] at e
   rw [e]
   clear e mc
   refine FnP.i Tryz.func58 rfl rfl fun G w => ?_
   repeat' (first | apply WK.s | refine WK.cT rfl ?_ | (refine hQ.h _ _ ?_; clear hQ hA) | (refine WK.rH Tryz.ntmps58 (by kernel_rfl) ?_; intro A hA Q hQ; simp [gF, *]) | (refine RunQ.g rfl (by rw [hA.h]; rfl) ?_; simp [gF, *]) | (refine WK.t Tryz.func58 ?_ ?_ <;> simp (maxDischargeDepth := 120) [Tryz.results58, gF, *]))
 by_cases c2 : 4 < m.command
 · rw [if_pos (.inr c2)] at e
   rw [e]
   clear e mc
   refine FnP.i Tryz.func58 rfl rfl fun G w => ?_
   repeat' (first | apply WK.s | refine WK.cT rfl ?_ | (refine hQ.h _ _ ?_; clear hQ hA) | (refine WK.rH Tryz.ntmps58 (by kernel_rfl) ?_; intro A hA Q hQ; simp [gF, *]) | (refine RunQ.g rfl (by rw [hA.h]; rfl) ?_; simp [gF, *]) | (refine WK.t Tryz.func58 ?_ ?_ <;> simp (maxDischargeDepth := 120) [Tryz.results58, gF, *]))
 rw [if_neg (by omega)] at e
 by_cases c3 : 31 < m.flags
 · rw [if_pos c3] at e
   rw [e]
   clear e mc
   refine FnP.i Tryz.func58 rfl rfl fun G w => ?_
   repeat' (first | apply WK.s | apply WK.k | refine WK.cT rfl ?_ | refine WK.cF rfl ?_ | (refine hQ.h _ _ ?_; clear hQ hA) | (refine WK.rH Tryz.ntmps58 (by kernel_rfl) ?_; intro A hA Q hQ; simp [gF, *]) | (refine RunQ.g rfl (by rw [hA.h]; rfl) ?_; simp [gF, *]) | (refine WK.t Tryz.func58 ?_ ?_ <;> simp (maxDischargeDepth := 120) [Tryz.results58, gF, *]))
 rw [if_neg c3] at e
 by_cases c4 : 2 < m.command
 · rw [if_pos c4] at e
   rw [e]
   clear e mc
   refine FnP.i Tryz.func58 rfl rfl fun G w => ?_
   repeat' (first | apply WK.s | apply WK.k | refine WK.cT rfl ?_ | refine WK.cF rfl ?_ | (refine hQ.h _ _ ?_; clear hQ hA) | (refine WK.rH Tryz.ntmps58 (by kernel_rfl) ?_; intro A hA Q hQ; simp [gF, *]) | (refine RunQ.g rfl (by rw [hA.h]; rfl) ?_; simp [gF, *]) | (refine WK.t Tryz.func58 ?_ ?_ <;> simp (maxDischargeDepth := 120) [Tryz.results58, gF, *]))
 rw [if_neg c4] at e
 rw [fmWrong_eq] at e
 clear hm
 refine FnP.i Tryz.func58 rfl rfl fun G w => ?_
 repeat' (first | apply WK.s | apply WK.b | apply WK.k | refine WK.cF rfl ?_ | (refine hQ.h _ _ ?_; clear hQ hA) | (refine WK.rH Tryz.ntmps58 (by kernel_rfl) ?_; intro A hA Q hQ; simp [*]) | (refine RunQ.g rfl (by rw [hA.h]; rfl) ?_; simp [*]))
 refine WK.lI (fun n => n) (fun i : Nat => (⟨(upd (upd (upd J 1 (.ptr 0 0)) 2 (.ptr 1 0)) 3 (.int .i64 i)), (upd (upd B0 0 (.var m.enc)) 1 (.var [.junk, .junk, .junk])), 0⟩ : St)) (fun i => i ≤ m.insts.length ∧ ∀ j, j < i → (nth m.insts j).acts.any (actOff m.mat) = false) (fun i => m.insts.length - i) (0) (by repeat (first | exact TmW.nil | refine TmW.upd ?_ (by simp (maxDischargeDepth := 120) [FlowMod.enc]))) (by repeat (first | exact BxW.nil | refine BxW.upd ?_ (by simp (maxDischargeDepth := 120) [FlowMod.enc]))) InjW.id (⟨by omega, by simp⟩) (fun i hi IH => ?_)
 clear c1 c2 c3 c4
 unfold FlowMod.enc at *
 by_cases h1 : i < m.insts.length
 · have k6 := inst_get6 m.insts i h1
   have h6 : IntKind.i64.wrap ((i : Int) + 1) = i + 1 := wrap_i64 (by omega) (by omega)
   have v6 : i * 7 + 6 < m.insts.length * 7 := by omega
   have hF : (nth m.insts i).acts.any (actOff m.mat) = true → (m.insts.any fun i => i.acts.any (actOff m.mat)) = true := fun h => any_true' (p := fun i : Inst => i.acts.any (actOff m.mat)) h1 h
   have hN : (nth m.insts i).acts.any (actOff m.mat) = false → ∀ j, j < i + 1 → (nth m.insts j).acts.any (actOff m.mat) = false := fun h j hj => by
     by_cases h7 : j = i
     · subst h7; exact h
     · exact hi.2 j (by omega)
   have hal := ha _ (nth_mem h1)
   obtain ⟨Ac, hAc⟩ : ∃ a, (nth m.insts i).acts = a := ⟨_, rfl⟩
   rw [hAc] at k6 hF hN hal
   clear hAc hi ha
   repeat' (first | apply WK.s | apply WK.b | apply WK.k | refine WK.cT rfl ?_ | (refine hQ.h _ _ ?_; clear hQ hA) | (refine WK.rH Tryz.ntmps58 (by kernel_rfl) ?_; intro A hA Q hQ; simp [*]))
   refine WK.lI (fun n => n) (fun j : Nat => (⟨(upd (upd (upd (upd J 1 (.ptr 0 0)) 2 (.ptr 1 0)) 3 (.int .i64 i)) 4 (.int .i64 j)), (upd (upd B0 0 (.var m.enc)) 1 (.var [.junk, .junk, .junk])), 0⟩ : St)) (fun j => j ≤ Ac.length ∧ ∀ k, k < j → actOff m.mat (nth Ac k) = false) (fun j => Ac.length - j) (0) (by repeat (first | exact TmW.nil | refine TmW.upd ?_ (by simp (maxDischargeDepth := 120) [FlowMod.enc]))) (by repeat (first | exact BxW.nil | refine BxW.upd ?_ (by simp (maxDischargeDepth := 120) [FlowMod.enc]))) InjW.id (⟨by omega, by simp⟩) (fun j hj IHj => ?_)
   unfold FlowMod.enc
   by_cases g1 : j < Ac.length
   · obtain ⟨g4, g3⟩ := act_load Ac j g1
     have g6 : IntKind.i64.wrap ((j : Int) + 1) = j + 1 := wrap_i64 (by omega) (by omega)
     have c := mc (nth Ac j).oxm.field
     have hFa : actOff m.mat (nth Ac j) = true → Ac.any (actOff m.mat) = true := fun h => any_true' g1 h
     have hNa : actOff m.mat (nth Ac j) = false → ∀ k, k < j + 1 → actOff m.mat (nth Ac k) = false := fun h k hk => by
       by_cases h7 : k = j
       · subst h7; exact h
       · exact hj.2 k (by omega)
     obtain ⟨a, hae⟩ : ∃ a, nth Ac j = a := ⟨_, rfl⟩
     rw [hae] at g4 c hFa hNa
     have ea : actOff m.mat a = (a.kind == 25 && !mMet m.mat a.oxm.field) := rfl
     unfold Action.enc at g4
     unfold oxmS at c
     clear hae hj hN mc
     cases k1 : a.kind == 25
     · rw [k1] at ea
       have hn := hNa ea
       clear hFa hNa ea hF c e
       repeat' (first | apply WK.s | apply WK.b | apply WK.n | apply WK.k | refine WK.cT rfl ?_ | refine WK.cF rfl ?_ | (refine hQ.h _ _ ?_; clear hQ hA) | (refine WK.rH Tryz.ntmps58 (by kernel_rfl) ?_; intro A hA Q hQ; simp [*]) | (refine RunQ.g rfl (by rw [hA.h]; rfl) ?_; simp [*]))
       refine WK.next (fun n => n) (IHj (j + 1) (⟨by omega, hn⟩) (by first | omega | (dsimp only; omega))) (by repeat (first | exact TmW.nil | refine TmW.upd ?_ (by simp (maxDischargeDepth := 120) [FlowMod.enc]))) (by repeat (first | exact BxW.nil | refine BxW.upd ?_ (by simp (maxDischargeDepth := 120) [FlowMod.enc]))) InjW.id
     cases k2 : mMet m.mat a.oxm.field
     · rw [k1, k2] at ea
       rw [k2] at c
       rw [if_pos (hF (hFa ea))] at e
       rw [e]
       clear hFa hNa ea hF e
       repeat' (first | apply WK.s | apply WK.b | apply WK.k | refine WK.cT rfl ?_ | (refine hQ.h _ _ ?_; clear hQ hA) | (refine WK.rH Tryz.ntmps58 (by kernel_rfl) ?_; intro A hA Q hQ; simp [gF, *]) | (refine RunQ.g rfl (by rw [hA.h]; rfl) ?_; simp [gF, *]) | (refine RunQW.k rfl rfl rfl rfl ?_ (c) ?_ ?_ <;> simp (maxDischargeDepth := 120) [gF, *] <;> refine ⟨?_⟩) | (refine WK.t Tryz.func58 ?_ ?_ <;> simp (maxDischargeDepth := 120) [Tryz.results58, gF, *]))
     · rw [k1, k2] at ea
       rw [k2] at c
       have hn := hNa ea
       clear hFa hNa ea hF e
       repeat' (first | apply WK.s | apply WK.b | apply WK.n | apply WK.k | refine WK.cT rfl ?_ | refine WK.cF rfl ?_ | (refine hQ.h _ _ ?_; clear hQ hA) | (refine WK.rH Tryz.ntmps58 (by kernel_rfl) ?_; intro A hA Q hQ; simp [*]) | (refine RunQ.g rfl (by rw [hA.h]; rfl) ?_; simp [*]) | (refine RunQW.k rfl rfl rfl rfl ?_ (c) ?_ ?_ <;> simp (maxDischargeDepth := 120) [*] <;> refine ⟨?_⟩))
       refine WK.next (fun n => n) (IHj (j + 1) (⟨by omega, hn⟩) (by first | omega | (dsimp only; omega))) (by repeat (first | exact TmW.nil | refine TmW.upd ?_ (by simp (maxDischargeDepth := 120) [FlowMod.enc]))) (by repeat (first | exact BxW.nil | refine BxW.upd ?_ (by simp (maxDischargeDepth := 120) [FlowMod.enc]))) InjW.id
   · have hn := hN (any_false' fun k hk => hj.2 k (by omega))
     clear hN hF hj e mc
     repeat' (first | apply WK.s | apply WK.n | refine WK.exit rfl ?_ | refine WK.cF rfl ?_ | (refine hQ.h _ _ ?_; clear hQ hA) | (refine WK.rH Tryz.ntmps58 (by kernel_rfl) ?_; intro A hA Q hQ; simp [*]))
     refine WK.next (fun n => n) (IH (i + 1) (⟨by omega, hn⟩) (by first | omega | (dsimp only; omega))) (by repeat (first | exact TmW.nil | refine TmW.upd ?_ (by simp (maxDischargeDepth := 120) [FlowMod.enc]))) (by repeat (first | exact BxW.nil | refine BxW.upd ?_ (by simp (maxDischargeDepth := 120) [FlowMod.enc]))) InjW.id
 · have ef := any_false' (p := fun i : Inst => i.acts.any (actOff m.mat)) (l := m.insts) fun j hj => hi.2 j (by omega)
   rw [if_neg (by rw [ef]; simp)] at e
   rw [e]
   clear e mc ef
   repeat' (first | apply WK.s | refine WK.exit rfl ?_ | refine WK.cF rfl ?_ | (refine hQ.h _ _ ?_; clear hQ hA) | (refine WK.rH Tryz.ntmps58 (by kernel_rfl) ?_; intro A hA Q hQ; simp [gF, *]) | (refine WK.t Tryz.func58 ?_ ?_ <;> simp (maxDischargeDepth := 120) [Tryz.results58, gF, *]))
set_option maxHeartbeats 8000000 in
theorem rfmsame_c (a b : FlowMod) (ha : FmB a) : FnP Tryz.prog 35 [.agg a.enc, .agg b.enc] (.bool (FlowMod.same a b)) := by
 have ms := rsame_oxm a.mat b.mat (by have := ha.mat; omega)
 have is := rsame_inst a.insts b.insts (by have := ha.insts; omega) ha.acts
 have e : FlowMod.same a b = ((fmNums a == fmNums b) && (a.cookie == b.cookie && (a.cookieMask == b.cookieMask && (eqBy (fun x y : Oxm => x == y) a.mat b.mat && eqBy Inst.same a.insts b.insts)))) := rfl
 obtain ⟨z1, hz1⟩ : ∃ z, eqBy (fun x y : Oxm => x == y) a.mat b.mat = z := ⟨_, rfl⟩
 obtain ⟨z2, hz2⟩ : ∃ z, eqBy Inst.same a.insts b.insts = z := ⟨_, rfl⟩
 rw [hz1] at ms e
 rw [hz2] at is e
 rw [fmNums_eq] at e
 unfold oxmS instS at *
 unfold FlowMod.enc at *
 clear hz1 hz2
 refine FnP.i Tryz.func35 rfl rfl fun G w => ?_
 repeat' (first | apply WK.s | (refine hQ.h _ _ ?_; clear hQ hA) | (refine Fork.mk (fun h => ?_) (fun h => ?_) <;> (first | (simp [*] at h; done) | (have h2 := h; simp at h2; exfalso; omega) | (have h2 := h; simp at h2; try simp only [Bool.not_eq_true', Bool.not_eq_false'] at h) | skip)) | (refine WK.rH Tryz.ntmps35 (by kernel_rfl) ?_; intro A hA Q hQ; simp [*]) | (refine RunQ.g rfl (by rw [hA.h]; rfl) ?_; simp [*]) | (refine RunQW.k rfl rfl rfl rfl ?_ (ms) ?_ ?_ <;> simp (maxDischargeDepth := 120) [*] <;> refine ⟨?_⟩) | (refine RunQW.k rfl rfl rfl rfl ?_ (is) ?_ ?_ <;> simp (maxDischargeDepth := 120) [*] <;> refine ⟨?_⟩) | (refine WK.t Tryz.func35 ?_ ?_ <;> simp (maxDischargeDepth := 120) [Tryz.results35, *]))

theorem rfget_c (b : List (BitVec 8)) (p s : Nat) (hs : Sz s) (hb : b.length ≤ 1000000) (hp : p ≤ 1000000) : FnP Tryz.prog 71 [byS b, .int .i64 p, .int .i64 s] (.int .i64 (getN b p s).1) := by
 have g := rget_c b p s hs (by omega) (by omega)
 obtain ⟨q, hq⟩ : ∃ q, getN b p s = q := ⟨_, rfl⟩
 rw [hq] at g ⊢
 unfold byS at *
 refine FnP.i Tryz.func71 rfl rfl fun G w => ?_
 repeat' (first | apply WK.s | (refine hQ.h _ _ ?_; clear hQ hA) | (refine WK.rH Tryz.ntmps71 (by kernel_rfl) ?_; intro A hA Q hQ; simp [*]) | (refine RunQ.k rfl rfl rfl rfl rfl ?_ (g) ?_ ?_ <;> simp (maxDischargeDepth := 120) [*] <;> refine ⟨?_⟩) | (refine WK.t Tryz.func71 ?_ ?_ <;> simp (maxDischargeDepth := 120) [Tryz.results71, *]))
set_option maxHeartbeats 8000000 in
theorem rfmdec_c (b : List (BitVec 8)) (hb : b.length ≤ 80000) : FnP Tryz.prog 42 [byS b] (.tup [.agg (fmDec b).1.enc, .agg (gF (fmDec b).2)]) := by
 by_cases c0 : b.length < 40
 · have c0' : (b.length : Int) < 40 := by omega
   rw [fmDec_short c0, flowMod0_enc]
   unfold byS
   refine FnP.i Tryz.func42 rfl rfl fun G w => ?_
   repeat' (first | apply WK.s | refine WK.cT rfl ?_ | (refine hQ.h _ _ ?_; clear hQ hA) | (refine WK.rH Tryz.ntmps42 (by kernel_rfl) ?_; intro A hA Q hQ; simp [gF, f0E, *]) | (refine RunQ.g rfl (by rw [hA.h]; rfl) ?_; simp [gF, f0E, *]) | (refine WK.t Tryz.func42 ?_ ?_ <;> simp (maxDischargeDepth := 120) [Tryz.results42, gF, f0E, *]))
 have c0' : ¬ (b.length : Int) < 40 := by omega
 have hde : fmDec b = if allZ ((b.drop 38).take 2) = false then (flowMod0, some (1, 6)) else
     match (mDec (b.drop 40)).2.2 with
     | some c => (flowMod0, some c)
     | none => match (inDec (b.drop (40 + (mDec (b.drop 40)).2.1))).2 with
       | some c => (flowMod0, some c)
       | none => match fmCheck (fmTake (wGet b 8).1.lo (wGet (b.drop 8) 8).1.lo (nsRead fmSizes b 16) (mDec (b.drop 40)).1 (inDec (b.drop (40 + (mDec (b.drop 40)).2.1))).1) with
         | some c => (flowMod0, some c)
         | none => (fmTake (wGet b 8).1.lo (wGet (b.drop 8) 8).1.lo (nsRead fmSizes b 16) (mDec (b.drop 40)).1 (inDec (b.drop (40 + (mDec (b.drop 40)).2.1))).1, none) := by
   unfold fmDec; rw [if_neg c0]; rfl
 have x38 := by_get b 38 (by omega)
 have x39 := by_get b 39 (by omega)
 have u38 : (38 : Int) < b.length := by omega
 have u39 : (39 : Int) < b.length := by omega
 have v38 : 38 < b.length := by omega
 have v39 : 39 < b.length := by omega
 have y38 := bI_zero (nth b 38)
 have y39 := bI_zero (nth b 39)
 rw [allZ_two (p := 38) (by omega)] at hde
 rw [show nth b (38 + 1) = nth b 39 from rfl] at hde
 obtain ⟨z38, hz38⟩ : ∃ z, (nth b 38 == 0#8) = z := ⟨_, rfl⟩
 obtain ⟨z39, hz39⟩ : ∃ z, (nth b 39 == 0#8) = z := ⟨_, rfl⟩
 rw [hz38] at y38 hde
 rw [hz39] at y39 hde
 obtain ⟨X38, hX38⟩ : ∃ X, bI (nth b 38) = X := ⟨_, rfl⟩
 obtain ⟨X39, hX39⟩ : ∃ X, bI (nth b 39) = X := ⟨_, rfl⟩
 rw [hX38] at x38 y38
 rw [hX39] at x39 y39
 clear hX38 hX39 hz38 hz39
 cases z38
 case false =>
   rw [if_pos (show (false && z39) = false from rfl)] at hde
   rw [hde, flowMod0_enc]
   unfold byS
   clear hde
   refine FnP.i Tryz.func42 rfl rfl fun G w => ?_
   repeat' (first | apply WK.s | refine WK.cT rfl ?_ | (refine hQ.h _ _ ?_; clear hQ hA) | (refine WK.rH Tryz.ntmps42 (by kernel_rfl) ?_; intro A hA Q hQ; simp [gF, f0E, bne, *]) | (refine RunQ.g rfl (by rw [hA.h]; rfl) ?_; simp [gF, f0E, bne, *]) | (refine WK.t Tryz.func42 ?_ ?_ <;> simp (maxDischargeDepth := 120) [Tryz.results42, gF, f0E, bne, *]))
 cases z39
 case false =>
   rw [if_pos (show (true && false) = false from rfl)] at hde
   rw [hde, flowMod0_enc]
   unfold byS
   clear hde
   refine FnP.i Tryz.func42 rfl rfl fun G w => ?_
   repeat' (first | apply WK.s | refine WK.cT rfl ?_ | (refine hQ.h _ _ ?_; clear hQ hA) | (refine WK.rH Tryz.ntmps42 (by kernel_rfl) ?_; intro A hA Q hQ; simp [gF, f0E, bne, *]) | (refine RunQ.g rfl (by rw [hA.h]; rfl) ?_; simp [gF, f0E, bne, *]) | (refine WK.t Tryz.func42 ?_ ?_ <;> simp (maxDischargeDepth := 120) [Tryz.results42, gF, f0E, bne, *]))
 rw [if_neg (by simp)] at hde
 have g1 := rwget_c b 8 (by omega) (by omega)
 have g2 := rwget_c (b.drop 8) 8 (by omega) (by rw [List.length_drop]; omega)
 have hs8 : ((byL b).drop 8).take (b.length - 8) = byL (b.drop 8) := by rw [byL_drop]; exact by_full _ _ (by rw [List.length_drop])
 have hs40 : ((byL b).drop 40).take (b.length - 40) = byL (b.drop 40) := by rw [byL_drop]; exact by_full _ _ (by rw [List.length_drop])
 have u8 : (8 : Int) ≤ b.length := by omega
 have u40 : (40 : Int) ≤ b.length := by omega
 have x16 := by_get b 16 (by omega)
 have x17 := by_get b 17 (by omega)
 have u16 : (16 : Int) < b.length := by omega
 have u17 : (17 : Int) < b.length := by omega
 have v16 : 16 < b.length := by omega
 have v17 : 17 < b.length := by omega
 have w16 := u8_i64' (nth b 16)
 have w17 := u8_i64' (nth b 17)
 have md := rmdec_c (b.drop 40) (by rw [List.length_drop]; omega)
 have q2 := rfget_c b 18 2 Sz2 (by omega) (by omega)
 have q3 := rfget_c b 20 2 Sz2 (by omega) (by omega)
 have q4 := rfget_c b 22 2 Sz2 (by omega) (by omega)
 have q5 := rfget_c b 24 4 Sz4 (by omega) (by omega)
 have q6 := rfget_c b 28 4 Sz4 (by omega) (by omega)
 have q7 := rfget_c b 32 4 Sz4 (by omega) (by omega)
 have q8 := rfget_c b 36 2 Sz2 (by omega) (by omega)
 have hNe : nsRead fmSizes b 16 = [bI (nth b 16), bI (nth b 17), (getN b 18 2).1, (getN b 20 2).1, (getN b 22 2).1, (getN b 24 4).1, (getN b 28 4).1, (getN b 32 4).1, (getN b 36 2).1] := by
   have e : nsRead fmSizes b 16 = [(getN b 16 1).1, (getN b 17 1).1, (getN b 18 2).1, (getN b 20 2).1, (getN b 22 2).1, (getN b 24 4).1, (getN b 28 4).1, (getN b 32 4).1, (getN b 36 2).1] := rfl
   rw [e, getN_one v16, getN_one v17]
 rw [hNe] at hde
 obtain ⟨n0, h0⟩ : ∃ n, bI (nth b 16) = n := ⟨_, rfl⟩
 obtain ⟨n1, h1⟩ : ∃ n, bI (nth b 17) = n := ⟨_, rfl⟩
 obtain ⟨n2, h2⟩ : ∃ n, (getN b 18 2).1 = n := ⟨_, rfl⟩
 obtain ⟨n3, h3⟩ : ∃ n, (getN b 20 2).1 = n := ⟨_, rfl⟩
 obtain ⟨n4, h4⟩ : ∃ n, (getN b 22 2).1 = n := ⟨_, rfl⟩
 obtain ⟨n5, h5⟩ : ∃ n, (getN b 24 4).1 = n := ⟨_, rfl⟩
 obtain ⟨n6, h6⟩ : ∃ n, (getN b 28 4).1 = n := ⟨_, rfl⟩
 obtain ⟨n7, h7⟩ : ∃ n, (getN b 32 4).1 = n := ⟨_, rfl⟩
 obtain ⟨n8, h8⟩ : ∃ n, (getN b 36 2).1 = n := ⟨_, rfl⟩
 rw [h0, h1, h2, h3, h4, h5, h6, h7, h8] at hde
 rw [h0] at x16 w16
 rw [h1] at x17 w17
 rw [h2] at q2
 rw [h3] at q3
 rw [h4] at q4
 rw [h5] at q5
 rw [h6] at q6
 rw [h7] at q7
 rw [h8] at q8
 obtain ⟨w1, hw1⟩ : ∃ w, wGet b 8 = w := ⟨_, rfl⟩
 obtain ⟨w2, hw2⟩ : ∃ w, wGet (b.drop 8) 8 = w := ⟨_, rfl⟩
 rw [hw1] at g1 hde
 rw [hw2] at g2 hde
 obtain ⟨⟨a1, c⟩, o1⟩ := w1
 obtain ⟨⟨a2, k⟩, o2⟩ := w2
 simp only [byS, Wide.enc, List.length_drop] at g1 g2 md q2 q3 q4 q5 q6 q7 q8
 simp only at hde
 obtain ⟨B8, hB8⟩ : ∃ B, b.drop 8 = B := ⟨_, rfl⟩
 rw [hB8] at g2 hs8
 clear hw1 hw2 hB8 hNe h0 h1 h2 h3 h4 h5 h6 h7 h8
 obtain ⟨l, n, q, hM⟩ : ∃ l n q, mDec (b.drop 40) = (l, n, q) := ⟨_, _, _, rfl⟩
 rw [hM] at md hde
 simp only at hde
 unfold oxmS at md
 have hdl : (b.drop 40).length = b.length - 40 := by rw [List.length_drop]
 unfold byS
 cases q with
 | some q =>
   simp only at hde
   rw [hde, flowMod0_enc]
   obtain ⟨B40, hB40⟩ : ∃ B, b.drop 40 = B := ⟨_, rfl⟩
   rw [hB40] at md hs40
   clear hde hM hB40 hdl
   refine FnP.i Tryz.func42 rfl rfl fun G w => ?_
   repeat' (first | apply WK.s | apply WK.k | refine WK.cT rfl ?_ | refine WK.cF rfl ?_ | (refine hQ.h _ _ ?_; clear hQ hA) | (refine WK.rH Tryz.ntmps42 (by kernel_rfl) ?_; intro A hA Q hQ; simp [gF, f0E, bne, *]) | (refine WK.rX (by kernel_rfl) Tryz.ntmps42 (by kernel_rfl) ?_; intro A hA Q hQ; simp [gF, f0E, bne, *]) | (refine hQ.h _ _ _ (by decide +kernel) ?_; clear hQ hA) | (refine RunQ.g rfl (by rw [hA.h]; rfl) ?_; simp [gF, f0E, bne, *]) | (refine RunQ.k rfl rfl rfl rfl rfl ?_ (g1) ?_ ?_ <;> simp (maxDischargeDepth := 120) [gF, f0E, bne, *] <;> refine ⟨?_⟩) | (refine RunQ.k rfl rfl rfl rfl rfl ?_ (g2) ?_ ?_ <;> simp (maxDischargeDepth := 120) [gF, f0E, bne, *] <;> refine ⟨?_⟩) | (refine RunQ.k rfl rfl rfl rfl rfl ?_ (q2) ?_ ?_ <;> simp (maxDischargeDepth := 120) [gF, f0E, bne, *] <;> refine ⟨?_⟩) | (refine RunQ.k rfl rfl rfl rfl rfl ?_ (q3) ?_ ?_ <;> simp (maxDischargeDepth := 120) [gF, f0E, bne, *] <;> refine ⟨?_⟩) | (refine RunQ.k rfl rfl rfl rfl rfl ?_ (q4) ?_ ?_ <;> simp (maxDischargeDepth := 120) [gF, f0E, bne, *] <;> refine ⟨?_⟩) | (refine RunQ.k rfl rfl rfl rfl rfl ?_ (q5) ?_ ?_ <;> simp (maxDischargeDepth := 120) [gF, f0E, bne, *] <;> refine ⟨?_⟩) | (refine RunQ.k rfl rfl rfl rfl rfl ?_ (q6) ?_ ?_ <;> simp (maxDischargeDepth := 120) [gF, f0E, bne, *] <;> refine ⟨?_⟩) | (refine RunQ.k rfl rfl rfl rfl rfl ?_ (q7) ?_ ?_ <;> simp (maxDischargeDepth := 120) [gF, f0E, bne, *] <;> refine ⟨?_⟩) | (refine RunQ.k rfl rfl rfl rfl rfl ?_ (q8) ?_ ?_ <;> simp (maxDischargeDepth := 120) [gF, f0E, bne, *] <;> refine ⟨?_⟩) | (refine RunQ.k rfl rfl rfl rfl rfl ?_ (md) ?_ ?_ <;> simp (maxDischargeDepth := 120) [gF, f0E, bne, *] <;> refine ⟨?_⟩) | (refine RunX.k rfl rfl rfl rfl ?_ (q2) ?_ ?_ <;> simp (maxDischargeDepth := 120) [gF, f0E, bne, *] <;> refine ⟨?_⟩) | (refine RunX.k rfl rfl rfl rfl ?_ (q3) ?_ ?_ <;> simp (maxDischargeDepth := 120) [gF, f0E, bne, *] <;> refine ⟨?_⟩) | (refine RunX.k rfl rfl rfl rfl ?_ (q4) ?_ ?_ <;> simp (maxDischargeDepth := 120) [gF, f0E, bne, *] <;> refine ⟨?_⟩) | (refine RunX.k rfl rfl rfl rfl ?_ (q5) ?_ ?_ <;> simp (maxDischargeDepth := 120) [gF, f0E, bne, *] <;> refine ⟨?_⟩) | (refine RunX.k rfl rfl rfl rfl ?_ (q6) ?_ ?_ <;> simp (maxDischargeDepth := 120) [gF, f0E, bne, *] <;> refine ⟨?_⟩) | (refine RunX.k rfl rfl rfl rfl ?_ (q7) ?_ ?_ <;> simp (maxDischargeDepth := 120) [gF, f0E, bne, *] <;> refine ⟨?_⟩) | (refine RunX.k rfl rfl rfl rfl ?_ (q8) ?_ ?_ <;> simp (maxDischargeDepth := 120) [gF, f0E, bne, *] <;> refine ⟨?_⟩) | (refine WK.t Tryz.func42 ?_ ?_ <;> simp (maxDischargeDepth := 120) [Tryz.results42, gF, f0E, bne, *]))
 | none =>
 simp only at hde
 have hn := (mDec_few hM).2
 rw [hdl] at hn
 have id := ridecP_c (b.drop (40 + n)) (by rw [List.length_drop]; omega)
 have hel : (b.drop (40 + n)).length = b.length - (40 + n) := by rw [List.length_drop]
 have hsn : ((byL b).drop (40 + n)).take (b.length - (40 + n)) = byL (b.drop (40 + n)) := by rw [byL_drop]; exact by_full _ _ (by rw [List.length_drop])
 have wn : IntKind.i64.wrap (40 + (n : Int)) = ((40 + n : Nat) : Int) := by rw [wrap_i64 (by omega) (by omega)]; omega
 have un : ((40 + n : Nat) : Int) ≤ b.length := by omega
 have vn : 40 + n ≤ b.length := by omega
 obtain ⟨is, q, hI⟩ : ∃ is q, inDec (b.drop (40 + n)) = (is, q) := ⟨_, _, rfl⟩
 rw [hI] at id hde
 simp only at hde
 have hB := fun (h : q = none) => fmB_dec (b := b.drop 40) (e := b.drop (40 + n)) hM (h ▸ hI) (by rw [List.length_drop]; omega) c k [n0, n1, n2, n3, n4, n5, n6, n7, n8]
 simp only [byS, instS, hel] at id
 obtain ⟨E, hE⟩ : ∃ B, b.drop (40 + n) = B := ⟨_, rfl⟩
 rw [hE] at id hsn
 obtain ⟨B40, hB40⟩ : ∃ B, b.drop 40 = B := ⟨_, rfl⟩
 rw [hB40] at md hs40
 obtain ⟨p, hp⟩ : ∃ p, 40 + n = p := ⟨_, rfl⟩
 rw [hp] at id hsn wn un vn
 clear hM hI hdl hel hE hB40 hp hn
 cases q with
 | some q =>
   simp only at hde
   rw [hde, flowMod0_enc]
   clear hde hB
   refine FnP.i Tryz.func42 rfl rfl fun G w => ?_
   repeat' (first | apply WK.s | apply WK.k | refine WK.cT rfl ?_ | refine WK.cF rfl ?_ | (refine hQ.h _ _ ?_; clear hQ hA) | (refine WK.rH Tryz.ntmps42 (by kernel_rfl) ?_; intro A hA Q hQ; simp [gF, f0E, bne, *]) | (refine WK.rX (by kernel_rfl) Tryz.ntmps42 (by kernel_rfl) ?_; intro A hA Q hQ; simp [gF, f0E, bne, *]) | (refine hQ.h _ _ _ (by decide +kernel) ?_; clear hQ hA) | (refine RunQ.g rfl (by rw [hA.h]; rfl) ?_; simp [gF, f0E, bne, *]) | (refine RunQ.k rfl rfl rfl rfl rfl ?_ (g1) ?_ ?_ <;> simp (maxDischargeDepth := 120) [gF, f0E, bne, *] <;> refine ⟨?_⟩) | (refine RunQ.k rfl rfl rfl rfl rfl ?_ (g2) ?_ ?_ <;> simp (maxDischargeDepth := 120) [gF, f0E, bne, *] <;> refine ⟨?_⟩) | (refine RunQ.k rfl rfl rfl rfl rfl ?_ (q2) ?_ ?_ <;> simp (maxDischargeDepth := 120) [gF, f0E, bne, *] <;> refine ⟨?_⟩) | (refine RunQ.k rfl rfl rfl rfl rfl ?_ (q3) ?_ ?_ <;> simp (maxDischargeDepth := 120) [gF, f0E, bne, *] <;> refine ⟨?_⟩) | (refine RunQ.k rfl rfl rfl rfl rfl ?_ (q4) ?_ ?_ <;> simp (maxDischargeDepth := 120) [gF, f0E, bne, *] <;> refine ⟨?_⟩) | (refine RunQ.k rfl rfl rfl rfl rfl ?_ (q5) ?_ ?_ <;> simp (maxDischargeDepth := 120) [gF, f0E, bne, *] <;> refine ⟨?_⟩) | (refine RunQ.k rfl rfl rfl rfl rfl ?_ (q6) ?_ ?_ <;> simp (maxDischargeDepth := 120) [gF, f0E, bne, *] <;> refine ⟨?_⟩) | (refine RunQ.k rfl rfl rfl rfl rfl ?_ (q7) ?_ ?_ <;> simp (maxDischargeDepth := 120) [gF, f0E, bne, *] <;> refine ⟨?_⟩) | (refine RunQ.k rfl rfl rfl rfl rfl ?_ (q8) ?_ ?_ <;> simp (maxDischargeDepth := 120) [gF, f0E, bne, *] <;> refine ⟨?_⟩) | (refine RunQ.k rfl rfl rfl rfl rfl ?_ (md) ?_ ?_ <;> simp (maxDischargeDepth := 120) [gF, f0E, bne, *] <;> refine ⟨?_⟩) | (refine RunQ.k rfl rfl rfl rfl rfl ?_ (id) ?_ ?_ <;> simp (maxDischargeDepth := 120) [gF, f0E, bne, *] <;> refine ⟨?_⟩) | (refine RunX.k rfl rfl rfl rfl ?_ (q2) ?_ ?_ <;> simp (maxDischargeDepth := 120) [gF, f0E, bne, *] <;> refine ⟨?_⟩) | (refine RunX.k rfl rfl rfl rfl ?_ (q3) ?_ ?_ <;> simp (maxDischargeDepth := 120) [gF, f0E, bne, *] <;> refine ⟨?_⟩) | (refine RunX.k rfl rfl rfl rfl ?_ (q4) ?_ ?_ <;> simp (maxDischargeDepth := 120) [gF, f0E, bne, *] <;> refine ⟨?_⟩) | (refine RunX.k rfl rfl rfl rfl ?_ (q5) ?_ ?_ <;> simp (maxDischargeDepth := 120) [gF, f0E, bne, *] <;> refine ⟨?_⟩) | (refine RunX.k rfl rfl rfl rfl ?_ (q6) ?_ ?_ <;> simp (maxDischargeDepth := 120) [gF, f0E, bne, *] <;> refine ⟨?_⟩) | (refine RunX.k rfl rfl rfl rfl ?_ (q7) ?_ ?_ <;> simp (maxDischargeDepth := 120) [gF, f0E, bne, *] <;> refine ⟨?_⟩) | (refine RunX.k rfl rfl rfl rfl ?_ (q8) ?_ ?_ <;> simp (maxDischargeDepth := 120) [gF, f0E, bne, *] <;> refine ⟨?_⟩) | (refine WK.t Tryz.func42 ?_ ?_ <;> simp (maxDischargeDepth := 120) [Tryz.results42, gF, f0E, bne, *]))
 | none =>
 simp only at hde
 have ck := rfmcheck_c _ (hB rfl)
 obtain ⟨C, hC⟩ : ∃ C, fmCheck (fmTake c k [n0, n1, n2, n3, n4, n5, n6, n7, n8] l is) = C := ⟨_, rfl⟩
 rw [hC] at ck hde
 have hT : (fmTake c k [n0, n1, n2, n3, n4, n5, n6, n7, n8] l is).enc = [.int .u64 (uI c), .int .u64 (uI k), .int .i64 n0, .int .i64 n1, .int .i64 n2, .int .i64 n3, .int .i64 n4, .int .i64 n5, .int .i64 n6, .int .i64 n7, .int .i64 n8, .sl false l.length (oxmL l), .sl false is.length (instL is)] := rfl
 rw [hT] at ck
 cases C with
 | some q =>
   simp only at hde
   rw [hde, flowMod0_enc]
   clear hde hB hC hT
   refine FnP.i Tryz.func42 rfl rfl fun G w => ?_
   repeat' (first | apply WK.s | apply WK.k | refine WK.cT rfl ?_ | refine WK.cF rfl ?_ | (refine hQ.h _ _ ?_; clear hQ hA) | (refine WK.rH Tryz.ntmps42 (by kernel_rfl) ?_; intro A hA Q hQ; simp [gF, f0E, bne, *]) | (refine WK.rX (by kernel_rfl) Tryz.ntmps42 (by kernel_rfl) ?_; intro A hA Q hQ; simp [gF, f0E, bne, *]) | (refine hQ.h _ _ _ (by decide +kernel) ?_; clear hQ hA) | (refine RunQ.g rfl (by rw [hA.h]; rfl) ?_; simp [gF, f0E, bne, *]) | (refine RunQ.k rfl rfl rfl rfl rfl ?_ (g1) ?_ ?_ <;> simp (maxDischargeDepth := 120) [gF, f0E, bne, *] <;> refine ⟨?_⟩) | (refine RunQ.k rfl rfl rfl rfl rfl ?_ (g2) ?_ ?_ <;> simp (maxDischargeDepth := 120) [gF, f0E, bne, *] <;> refine ⟨?_⟩) | (refine RunQ.k rfl rfl rfl rfl rfl ?_ (q2) ?_ ?_ <;> simp (maxDischargeDepth := 120) [gF, f0E, bne, *] <;> refine ⟨?_⟩) | (refine RunQ.k rfl rfl rfl rfl rfl ?_ (q3) ?_ ?_ <;> simp (maxDischargeDepth := 120) [gF, f0E, bne, *] <;> refine ⟨?_⟩) | (refine RunQ.k rfl rfl rfl rfl rfl ?_ (q4) ?_ ?_ <;> simp (maxDischargeDepth := 120) [gF, f0E, bne, *] <;> refine ⟨?_⟩) | (refine RunQ.k rfl rfl rfl rfl rfl ?_ (q5) ?_ ?_ <;> simp (maxDischargeDepth := 120) [gF, f0E, bne, *] <;> refine ⟨?_⟩) | (refine RunQ.k rfl rfl rfl rfl rfl ?_ (q6) ?_ ?_ <;> simp (maxDischargeDepth := 120) [gF, f0E, bne, *] <;> refine ⟨?_⟩) | (refine RunQ.k rfl rfl rfl rfl rfl ?_ (q7) ?_ ?_ <;> simp (maxDischargeDepth := 120) [gF, f0E, bne, *] <;> refine ⟨?_⟩) | (refine RunQ.k rfl rfl rfl rfl rfl ?_ (q8) ?_ ?_ <;> simp (maxDischargeDepth := 120) [gF, f0E, bne, *] <;> refine ⟨?_⟩) | (refine RunQ.k rfl rfl rfl rfl rfl ?_ (md) ?_ ?_ <;> simp (maxDischargeDepth := 120) [gF, f0E, bne, *] <;> refine ⟨?_⟩) | (refine RunQ.k rfl rfl rfl rfl rfl ?_ (id) ?_ ?_ <;> simp (maxDischargeDepth := 120) [gF, f0E, bne, *] <;> refine ⟨?_⟩) | (refine RunQ.k rfl rfl rfl rfl rfl ?_ (ck) ?_ ?_ <;> simp (maxDischargeDepth := 120) [gF, f0E, bne, *] <;> refine ⟨?_⟩) | (refine RunX.k rfl rfl rfl rfl ?_ (q2) ?_ ?_ <;> simp (maxDischargeDepth := 120) [gF, f0E, bne, *] <;> refine ⟨?_⟩) | (refine RunX.k rfl rfl rfl rfl ?_ (q3) ?_ ?_ <;> simp (maxDischargeDepth := 120) [gF, f0E, bne, *] <;> refine ⟨?_⟩) | (refine RunX.k rfl rfl rfl rfl ?_ (q4) ?_ ?_ <;> simp (maxDischargeDepth := 120) [gF, f0E, bne, *] <;> refine ⟨?_⟩) | (refine RunX.k rfl rfl rfl rfl ?_ (q5) ?_ ?_ <;> simp (maxDischargeDepth := 120) [gF, f0E, bne, *] <;> refine ⟨?_⟩) | (refine RunX.k rfl rfl rfl rfl ?_ (q6) ?_ ?_ <;> simp (maxDischargeDepth := 120) [gF, f0E, bne, *] <;> refine ⟨?_⟩) | (refine RunX.k rfl rfl rfl rfl ?_ (q7) ?_ ?_ <;> simp (maxDischargeDepth := 120) [gF, f0E, bne, *] <;> refine ⟨?_⟩) | (refine RunX.k rfl rfl rfl rfl ?_ (q8) ?_ ?_ <;> simp (maxDischargeDepth := 120) [gF, f0E, bne, *] <;> refine ⟨?_⟩) | (refine WK.t Tryz.func42 ?_ ?_ <;> simp (maxDischargeDepth := 120) [Tryz.results42, gF, f0E, bne, *]))
 | none =>
   simp only at hde
   rw [hde]
   simp only
   rw [hT]
   clear hde hB hC hT
   refine FnP.i Tryz.func42 rfl rfl fun G w => ?_
   repeat' (first | apply WK.s | apply WK.k | refine WK.cF rfl ?_ | (refine hQ.h _ _ ?_; clear hQ hA) | (refine WK.rH Tryz.ntmps42 (by kernel_rfl) ?_; intro A hA Q hQ; simp [gF, bne, *]) | (refine WK.rX (by kernel_rfl) Tryz.ntmps42 (by kernel_rfl) ?_; intro A hA Q hQ; simp [gF, bne, *]) | (refine hQ.h _ _ _ (by decide +kernel) ?_; clear hQ hA) | (refine RunQ.g rfl (by rw [hA.h]; rfl) ?_; simp [gF, bne, *]) | (refine RunQ.k rfl rfl rfl rfl rfl ?_ (g1) ?_ ?_ <;> simp (maxDischargeDepth := 120) [gF, bne, *] <;> refine ⟨?_⟩) | (refine RunQ.k rfl rfl rfl rfl rfl ?_ (g2) ?_ ?_ <;> simp (maxDischargeDepth := 120) [gF, bne, *] <;> refine ⟨?_⟩) | (refine RunQ.k rfl rfl rfl rfl rfl ?_ (q2) ?_ ?_ <;> simp (maxDischargeDepth := 120) [gF, bne, *] <;> refine ⟨?_⟩) | (refine RunQ.k rfl rfl rfl rfl rfl ?_ (q3) ?_ ?_ <;> simp (maxDischargeDepth := 120) [gF, bne, *] <;> refine ⟨?_⟩) | (refine RunQ.k rfl rfl rfl rfl rfl ?_ (q4) ?_ ?_ <;> simp (maxDischargeDepth := 120) [gF, bne, *] <;> refine ⟨?_⟩) | (refine RunQ.k rfl rfl rfl rfl rfl ?_ (q5) ?_ ?_ <;> simp (maxDischargeDepth := 120) [gF, bne, *] <;> refine ⟨?_⟩) | (refine RunQ.k rfl rfl rfl rfl rfl ?_ (q6) ?_ ?_ <;> simp (maxDischargeDepth := 120) [gF, bne, *] <;> refine ⟨?_⟩) | (refine RunQ.k rfl rfl rfl rfl rfl ?_ (q7) ?_ ?_ <;> simp (maxDischargeDepth := 120) [gF, bne, *] <;> refine ⟨?_⟩) | (refine RunQ.k rfl rfl rfl rfl rfl ?_ (q8) ?_ ?_ <;> simp (maxDischargeDepth := 120) [gF, bne, *] <;> refine ⟨?_⟩) | (refine RunQ.k rfl rfl rfl rfl rfl ?_ (md) ?_ ?_ <;> simp (maxDischargeDepth := 120) [gF, bne, *] <;> refine ⟨?_⟩) | (refine RunQ.k rfl rfl rfl rfl rfl ?_ (id) ?_ ?_ <;> simp (maxDischargeDepth := 120) [gF, bne, *] <;> refine ⟨?_⟩) | (refine RunQ.k rfl rfl rfl rfl rfl ?_ (ck) ?_ ?_ <;> simp (maxDischargeDepth := 120) [gF, bne, *] <;> refine ⟨?_⟩) | (refine RunX.k rfl rfl rfl rfl ?_ (q2) ?_ ?_ <;> simp (maxDischargeDepth := 120) [gF, bne, *] <;> refine ⟨?_⟩) | (refine RunX.k rfl rfl rfl rfl ?_ (q3) ?_ ?_ <;> simp (maxDischargeDepth := 120) [gF, bne, *] <;> refine ⟨?_⟩) | (refine RunX.k rfl rfl rfl rfl ?_ (q4) ?_ ?_ <;> simp (maxDischargeDepth := 120) [gF, bne, *] <;> refine ⟨?_⟩) | (refine RunX.k rfl rfl rfl rfl ?_ (q5) ?_ ?_ <;> simp (maxDischargeDepth := 120) [gF, bne, *] <;> refine ⟨?_⟩) | (refine RunX.k rfl rfl rfl rfl ?_ (q6) ?_ ?_ <;> simp (maxDischargeDepth := 120) [gF, bne, *] <;> refine ⟨?_⟩) | (refine RunX.k rfl rfl rfl rfl ?_ (q7) ?_ ?_ <;> simp (maxDischargeDepth := 120) [gF, bne, *] <;> refine ⟨?_⟩) | (refine RunX.k rfl rfl rfl rfl ?_ (q8) ?_ ?_ <;> simp (maxDischargeDepth := 120) [gF, bne, *] <;> refine ⟨?_⟩) | (refine WK.t Tryz.func42 ?_ ?_ <;> simp (maxDischargeDepth := 120) [Tryz.results42, gF, bne, *]))
theorem fmDec_fits {b : List (BitVec 8)} {m : FlowMod} {c : Option (Int × Int)} (hb : b.length ≤ 80000) (h : fmDec b = (m, c)) : FmB m := by
 cases c with
 | some c => rw [fmDec_bad h]; exact flowMod0_B
 | none => exact fmDec_B hb h

theorem rmgbad_c (n : Int) : FnP Tryz.prog 40 [.int .i64 n] (.tup [.agg msg0.enc, .agg (gF (some (1, n)))]) := by
 rw [msg0_enc]
 refine FnP.i Tryz.func40 rfl rfl fun G w => ?_
 repeat' (first | apply WK.s | (refine hQ.h _ _ ?_; clear hQ hA) | (refine WK.rH Tryz.ntmps40 (by kernel_rfl) ?_; intro A hA Q hQ; simp [gF, msg0E, *]) | (refine WK.t Tryz.func40 ?_ ?_ <;> simp (maxDischargeDepth := 120) [Tryz.results40, gF, msg0E, *]))
theorem rbytesEq_c (l m : List (BitVec 8)) : FnP Tryz.prog 34 [byS l, byS m] (.bool (l == m)) := by
 have e := bStr_eq l m
 unfold byS
 refine FnP.i Tryz.func34 rfl rfl fun G w => ?_
 repeat' (first | apply WK.s | (refine hQ.h _ _ ?_; clear hQ hA) | (refine WK.rH Tryz.ntmps34 (by kernel_rfl) ?_; intro A hA Q hQ; simp [*]) | (refine RunQ.bytesStr (l.map bI) bsOk rfl rfl rfl rfl ?_ ?_ ?_; (focus (simp [byL]; done)); (focus (simp; done)); refine RunQ.e ?_; simp [*]) | (refine RunQ.bytesStr (m.map bI) bsOk rfl rfl rfl rfl ?_ ?_ ?_; (focus (simp [byL]; done)); (focus (simp; done)); refine RunQ.e ?_; simp [*]) | (refine WK.t Tryz.func34 ?_ ?_ <;> simp (maxDischargeDepth := 120) [Tryz.results34, *]))
set_option maxHeartbeats 8000000 in
theorem rmgsame_c (a b : Msg) (ha : MsB a) : FnP Tryz.prog 15 [.agg a.enc, .agg b.enc] (.bool (Msg.same a b)) := by
 have fs := rfmsame_c a.flow b.flow ha.flow
 have gs := rgsame_c a.group b.group ha.group
 have bs := rbytesEq_c a.data b.data
 have e : Msg.same a b = (a.kind == b.kind && (a.xid == b.xid && (a.fault == b.fault && (a.data == b.data && (FlowMod.same a.flow b.flow && GroupMod.same a.group b.group))))) := rfl
 rw [flt_eq] at e
 obtain ⟨S, hS⟩ : ∃ S, Msg.same a b = S := ⟨_, rfl⟩
 rw [hS] at e ⊢
 clear hS
 obtain ⟨k, x, fl, gr, fa, d⟩ := a
 obtain ⟨k', x', fl', gr', fa', d'⟩ := b
 simp only at fs gs bs e
 obtain ⟨z1, hz1⟩ : ∃ z, FlowMod.same fl fl' = z := ⟨_, rfl⟩
 obtain ⟨z2, hz2⟩ : ∃ z, GroupMod.same gr gr' = z := ⟨_, rfl⟩
 obtain ⟨z3, hz3⟩ : ∃ z, (d == d') = z := ⟨_, rfl⟩
 rw [hz1] at fs e
 rw [hz2] at gs e
 rw [hz3] at bs e
 unfold byS at bs
 unfold FlowMod.enc at fs
 unfold GroupMod.enc at gs
 clear hz1 hz2 hz3 ha
 refine FnP.i Tryz.func15 rfl rfl fun G w => ?_
 repeat' (first | apply WK.s | (refine hQ.h _ _ ?_; clear hQ hA) | (refine Fork.mk (fun h => ?_) (fun h => ?_) <;> (first | (simp [*] at h; done) | (have h2 := h; simp at h2; exfalso; omega) | (have h2 := h; simp at h2; try simp only [Bool.not_eq_true', Bool.not_eq_false'] at h) | skip)) | (refine WK.rH Tryz.ntmps15 (by kernel_rfl) ?_; intro A hA Q hQ; simp [Msg.enc, FlowMod.enc, GroupMod.enc, Flt.enc, *]) | (refine RunQ.g rfl (by rw [hA.h]; rfl) ?_; simp [Msg.enc, FlowMod.enc, GroupMod.enc, Flt.enc, *]) | (refine RunQW.k rfl rfl rfl rfl ?_ (fs) ?_ ?_ <;> simp (maxDischargeDepth := 120) [Msg.enc, FlowMod.enc, GroupMod.enc, Flt.enc, *] <;> refine ⟨?_⟩) | (refine RunQW.k rfl rfl rfl rfl ?_ (gs) ?_ ?_ <;> simp (maxDischargeDepth := 120) [Msg.enc, FlowMod.enc, GroupMod.enc, Flt.enc, *] <;> refine ⟨?_⟩) | (refine RunQW.k rfl rfl rfl rfl ?_ (bs) ?_ ?_ <;> simp (maxDischargeDepth := 120) [Msg.enc, FlowMod.enc, GroupMod.enc, Flt.enc, *] <;> refine ⟨?_⟩) | (refine WK.t Tryz.func15 ?_ ?_ <;> simp (maxDischargeDepth := 120) [Tryz.results15, Msg.enc, FlowMod.enc, GroupMod.enc, Flt.enc, *]))

theorem two_wrap (b : List (BitVec 8)) (p : Nat) : IntKind.i64.wrap (bI (nth b p) * 256) = bI (nth b p) * 256 ∧ IntKind.i64.wrap (bI (nth b p) * 256 + bI (nth b (p + 1))) = bI (nth b p) * 256 + bI (nth b (p + 1)) := by
 have r0 := bI_range (nth b p)
 have r1 := bI_range (nth b (p + 1))
 exact ⟨wrap_i64 (by omega) (by omega), wrap_i64 (by omega) (by omega)⟩
set_option maxHeartbeats 16000000 in
theorem rmgdec_c (b : List (BitVec 8)) (hb : b.length ≤ 80000) : FnP Tryz.prog 17 [byS b] (.tup [.agg (mgDec b).1.enc, .agg (gF (mgDec b).2)]) := by
 have b6 := rmgbad_c 6
 have b0 := rmgbad_c 0
 have b1 := rmgbad_c 1
 rw [msg0_enc] at b6 b0 b1
 by_cases c0 : b.length < 8
 · have c0' : (b.length : Int) < 8 := by omega
   rw [mgDec_short c0, msg0_enc]
   unfold byS
   clear b0 b1
   refine FnP.i Tryz.func17 rfl rfl fun G w => ?_
   repeat' (first | apply WK.s | refine WK.cT rfl ?_ | (refine hQ.h _ _ ?_; clear hQ hA) | (refine WK.rH Tryz.ntmps17 (by kernel_rfl) ?_; intro A hA Q hQ; simp [gF, msg0E, *]) | (refine RunQ.k rfl rfl rfl rfl rfl ?_ (b6) ?_ ?_ <;> simp (maxDischargeDepth := 120) [gF, msg0E, *] <;> refine ⟨?_⟩) | (refine WK.t Tryz.func17 ?_ ?_ <;> simp (maxDischargeDepth := 120) [Tryz.results17, gF, msg0E, *]))
 have c0' : ¬ (b.length : Int) < 8 := by omega
 have hD : mgDec b = if (nth b 0 == 4#8) = false then (msg0, some (1, 0)) else if ¬ valN ((b.drop 2).take 2) = b.length then (msg0, some (1, 6)) else mgFill (bI (nth b 1)) (getN b 4 4).1 (b.drop 8) := by unfold mgDec; rw [if_neg c0]
 have g4 := rget_c b 4 4 Sz4 (by omega) (by omega)
 have e4 := getN_val (b := b) (p := 4) (s := 4) (by omega)
 have hv2 : bI (nth b 2) * 256 + bI (nth b 3) = ((valN ((b.drop 2).take 2) : Nat) : Int) := two_val (by omega)
 have x0 := by_get b 0 (by omega)
 have x1 := by_get b 1 (by omega)
 have x2 := by_get b 2 (by omega)
 have x3 := by_get b 3 (by omega)
 have u0 : (0 : Int) < b.length := by omega
 have u1 : (1 : Int) < b.length := by omega
 have u2 : (2 : Int) < b.length := by omega
 have u3 : (3 : Int) < b.length := by omega
 have v0 : 0 < b.length := by omega
 have v1 : 1 < b.length := by omega
 have v2 : 2 < b.length := by omega
 have v3 : 3 < b.length := by omega
 have y0 := bI_four (nth b 0)
 have w1 := u8_i64' (nth b 1)
 have w2 := u8_i64' (nth b 2)
 have w3 := u8_i64' (nth b 3)
 obtain ⟨t2, t3⟩ := two_wrap b 2
 rw [show (2 : Nat) + 1 = 3 from rfl, hv2] at t3
 obtain ⟨z, hz⟩ : ∃ z, (nth b 0 == 4#8) = z := ⟨_, rfl⟩
 rw [hz] at y0 hD
 obtain ⟨X0, h0⟩ : ∃ X, bI (nth b 0) = X := ⟨_, rfl⟩
 rw [h0] at x0 y0
 obtain ⟨X1, h1⟩ : ∃ X, bI (nth b 1) = X := ⟨_, rfl⟩
 rw [h1] at x1 hD w1
 obtain ⟨X2, h2⟩ : ∃ X, bI (nth b 2) = X := ⟨_, rfl⟩
 obtain ⟨X3, h3⟩ : ∃ X, bI (nth b 3) = X := ⟨_, rfl⟩
 rw [h2] at x2 w2 t2 hv2
 rw [h3] at x3 w3 hv2
 obtain ⟨v, hv⟩ : ∃ v, valN ((b.drop 2).take 2) = v := ⟨_, rfl⟩
 rw [hv] at hD hv2 t3
 have t4 : IntKind.i64.wrap (X2 * 256 + X3) = (v : Int) := by rw [hv2]; exact t3
 rw [e4] at g4 hD
 simp only at hD
 obtain ⟨q, hq⟩ : ∃ q : Int, ((valN ((b.drop 4).take 4) : Nat) : Int) = q := ⟨_, rfl⟩
 rw [hq] at g4 hD
 have hs8 : ((byL b).drop 8).take (b.length - 8) = byL (b.drop 8) := by rw [byL_drop]; exact by_full _ _ (by rw [List.length_drop])
 have u8 : (8 : Int) ≤ b.length := by omega
 have v8 : 8 ≤ b.length := by omega
 have hz7 : ((v : Int) == (b.length : Int)) = (v == b.length) := by rw [Bool.eq_iff_iff, beq_iff_eq, beq_iff_eq]; omega
 have hB8l : (b.drop 8).length = b.length - 8 := by rw [List.length_drop]
 clear hz h0 h1 h2 h3 hv e4 hq c0 hv2 t3
 unfold byS at g4
 cases z
 · rw [if_pos rfl] at hD
   rw [hD, msg0_enc]
   unfold byS
   clear hD b6 b1
   refine FnP.i Tryz.func17 rfl rfl fun G w => ?_
   repeat' (first | apply WK.s | apply WK.k | refine WK.cT rfl ?_ | refine WK.cF rfl ?_ | (refine hQ.h _ _ ?_; clear hQ hA) | (refine WK.rH Tryz.ntmps17 (by kernel_rfl) ?_; intro A hA Q hQ; simp [gF, msg0E, bne, *]) | (refine RunQ.k rfl rfl rfl rfl rfl ?_ (b0) ?_ ?_ <;> simp (maxDischargeDepth := 120) [gF, msg0E, bne, *] <;> refine ⟨?_⟩) | (refine WK.t Tryz.func17 ?_ ?_ <;> simp (maxDischargeDepth := 120) [Tryz.results17, gF, msg0E, bne, *]))
 rw [if_neg (by simp)] at hD
 by_cases hl : v = b.length
 case neg =>
   have hl' : (v == b.length) = false := by simpa using hl
   rw [if_pos hl] at hD
   rw [hD, msg0_enc]
   rw [hl'] at hz7
   unfold byS
   clear hD b0 b1 hl'
   refine FnP.i Tryz.func17 rfl rfl fun G w => ?_
   repeat' (first | apply WK.s | apply WK.k | refine WK.cT rfl ?_ | refine WK.cF rfl ?_ | (refine hQ.h _ _ ?_; clear hQ hA) | (refine WK.rH Tryz.ntmps17 (by kernel_rfl) ?_; intro A hA Q hQ; simp [gF, msg0E, bne, *]) | (refine WK.rX (by kernel_rfl) Tryz.ntmps17 (by kernel_rfl) ?_; intro A hA Q hQ; simp [gF, msg0E, bne, *]) | (refine hQ.h _ _ _ (by decide +kernel) ?_; clear hQ hA) | (refine RunQ.k rfl rfl rfl rfl rfl ?_ (b6) ?_ ?_ <;> simp (maxDischargeDepth := 120) [gF, msg0E, bne, *] <;> refine ⟨?_⟩) | (refine WK.t Tryz.func17 ?_ ?_ <;> simp (maxDischargeDepth := 120) [Tryz.results17, gF, msg0E, bne, *]))
 have hl' : (v == b.length) = true := by simpa using hl
 rw [if_neg (by simpa using hl)] at hD
 rw [hl'] at hz7
 rw [hD]
 clear hD hl' hl b0
 have hF : ∀ k x B, mgFill k x B = if mgData k = true then (if 60000 < B.length then (msg0, some (1, 6)) else ({ msg0 with kind := k, xid := x, data := B }, none))
   else if k = 1 then (if B.length < 4 then (msg0, some (1, 6)) else if 60000 < B.length - 4 then (msg0, some (1, 6)) else ({ msg0 with kind := k, xid := x, fault := ⟨true, (getN B 0 2).1, (getN B 2 2).1⟩, data := B.drop 4 }, none))
   else if k = 14 then (match (fmDec B).2 with | some c => (msg0, some c) | none => ({ msg0 with kind := k, xid := x, flow := (fmDec B).1 }, none))
   else if k = 15 then (match (gmDec B).2 with | some c => (msg0, some c) | none => ({ msg0 with kind := k, xid := x, group := (gmDec B).1 }, none))
   else (msg0, some (1, 1)) := fun _ _ _ => rfl
 by_cases k0 : X1 = 0 ∨ X1 = 2 ∨ X1 = 3
 · rw [hF, if_pos (mgData_iff.2 k0)]
   obtain ⟨B, hB⟩ : ∃ B, b.drop 8 = B := ⟨_, rfl⟩
   obtain ⟨L, hL⟩ : ∃ L, b.length - 8 = L := ⟨_, rfl⟩
   rw [hB] at hs8 hB8l ⊢
   rw [hL] at hs8 hB8l
   have hfu : (byL B).take L = byL B := by_full _ _ hB8l.symm
   have hBb : (byL B).length = L := by rw [byL_len, hB8l]
   have hcl : ClL (byL B) = true := byL_cl _
   unfold byS
   rw [hB8l]
   clear hF hB b1
   by_cases g : 60000 < L
   · have g' : (60000 : Int) < L := by omega
     rw [if_pos g, msg0_enc]
     have hpos : 0 < L := by omega
     have hbd : L ≤ 140737488355328 := by omega
     rcases k0 with rfl | rfl | rfl
     all_goals
       · refine FnP.i Tryz.func17 rfl rfl fun G w => ?_
         repeat' (first | apply WK.s | apply WK.b | apply WK.n | apply WK.k | refine WK.cT rfl ?_ | refine WK.cF rfl ?_ | (refine hQ.h _ _ ?_; clear hQ hA) | (refine WK.rH Tryz.ntmps17 (by kernel_rfl) ?_; intro A hA Q hQ; simp [zM, gF, msg0E, bne, *]) | (refine WK.rX (by kernel_rfl) Tryz.ntmps17 (by kernel_rfl) ?_; intro A hA Q hQ; simp [zM, gF, msg0E, bne, *]) | (refine hQ.h _ _ _ (by decide +kernel) ?_; clear hQ hA) | (refine RunQ.append0 900 901 appByte rfl rfl rfl rfl rfl rfl rfl ?_ rfl ?_ ?_ ?_ ?_ ?_ ?_; (focus (simp [zM, gF, msg0E, bne, *]; done)); (focus (first | omega | (simp [zM, gF, msg0E, bne, *]; done); done)); (focus (first | omega | (simp [zM, gF, msg0E, bne, *]; done); done)); (focus (simp [zM, gF, msg0E, bne, *]; done)); (focus (simp [zM, gF, msg0E, bne, *]; done)); (focus (simp [zM, gF, msg0E, bne, *]; done)); refine RunQ.e ?_; simp [zM, gF, msg0E, bne, *]) | (refine RunQ.k rfl rfl rfl rfl rfl ?_ (g4) ?_ ?_ <;> simp (maxDischargeDepth := 120) [zM, gF, msg0E, bne, *] <;> refine ⟨?_⟩) | (refine RunQ.k rfl rfl rfl rfl rfl ?_ (b6) ?_ ?_ <;> simp (maxDischargeDepth := 120) [zM, gF, msg0E, bne, *] <;> refine ⟨?_⟩) | (refine WK.t Tryz.func17 ?_ ?_ <;> simp (maxDischargeDepth := 120) [Tryz.results17, zM, gF, msg0E, bne, *]))
   · have g' : ¬ (60000 : Int) < L := by omega
     rw [if_neg g]
     clear b6
     by_cases hpos : 0 < L
     · have hbd : L ≤ 140737488355328 := by omega
       obtain ⟨D, hD⟩ : ∃ D, byL B = D := ⟨_, rfl⟩
       simp only [Msg.enc]
       rw [hB8l, hD]
       rw [hD] at hs8 hfu hBb hcl
       clear hD
       rcases k0 with rfl | rfl | rfl
       all_goals
         · refine FnP.i Tryz.func17 rfl rfl fun G w => ?_
           repeat' (first | apply WK.s | apply WK.b | apply WK.n | apply WK.k | refine WK.cT rfl ?_ | refine WK.cF rfl ?_ | (refine hQ.h _ _ ?_; clear hQ hA) | (refine WK.rH (id := 0) Tryz.ntmps17 (by kernel_rfl) ?_; intro A hA Q hQ; simp [zM, gF, bne, *]) | (refine WK.rH (id := 1) Tryz.ntmps17 (by kernel_rfl) ?_; intro A hA Q hQ; simp [zM, gF, bne, *]) | (refine WK.rH (id := 2) Tryz.ntmps17 (by kernel_rfl) ?_; intro A hA Q hQ; simp [zM, gF, bne, *]) | (refine WK.rH (id := 3) Tryz.ntmps17 (by kernel_rfl) ?_; intro A hA Q hQ; simp [zM, gF, bne, *]) | (refine WK.rH (id := 4) Tryz.ntmps17 (by kernel_rfl) ?_; intro A hA Q hQ; simp [zM, gF, bne, *]) | (refine WK.rH (id := 5) Tryz.ntmps17 (by kernel_rfl) ?_; intro A hA Q hQ; simp [zM, gF, bne, *]) | (refine WK.rH (id := 6) Tryz.ntmps17 (by kernel_rfl) ?_; intro A hA Q hQ; simp [zM, gF, bne, *]) | (refine WK.rH (id := 7) Tryz.ntmps17 (by kernel_rfl) ?_; intro A hA Q hQ; simp [zM, gF, bne, *]) | (refine WK.rH (id := 8) Tryz.ntmps17 (by kernel_rfl) ?_; intro A hA Q hQ; simp [zM, gF, bne, *]) | (refine WK.rH (id := 9) Tryz.ntmps17 (by kernel_rfl) ?_; intro A hA Q hQ; simp [zM, gF, bne, *]) | (refine WK.rH (id := 10) Tryz.ntmps17 (by kernel_rfl) ?_; intro A hA Q hQ; simp [zM, gF, bne, *]) | (refine WK.rH (id := 11) Tryz.ntmps17 (by kernel_rfl) ?_; intro A hA Q hQ; simp [zM, gF, bne, *]) | (refine WK.rH (id := 12) Tryz.ntmps17 (by kernel_rfl) ?_; intro A hA Q hQ; simp [zM, gF, bne, *]) | (refine WK.rH (id := 13) Tryz.ntmps17 (by kernel_rfl) ?_; intro A hA Q hQ; simp [zM, gF, bne, *]) | (refine WK.rH (id := 14) Tryz.ntmps17 (by kernel_rfl) ?_; intro A hA Q hQ; simp [zM, gF, bne, *]) | (refine WK.rH (id := 15) Tryz.ntmps17 (by kernel_rfl) ?_; intro A hA Q hQ; simp [zM, gF, bne, *]) | (refine WK.rX (id := 0) (by kernel_rfl) Tryz.ntmps17 (by kernel_rfl) ?_; intro A hA Q hQ; simp [zM, gF, bne, *]) | (refine WK.rX (id := 1) (by kernel_rfl) Tryz.ntmps17 (by kernel_rfl) ?_; intro A hA Q hQ; simp [zM, gF, bne, *]) | (refine WK.rX (id := 2) (by kernel_rfl) Tryz.ntmps17 (by kernel_rfl) ?_; intro A hA Q hQ; simp [zM, gF, bne, *]) | (refine WK.rX (id := 3) (by kernel_rfl) Tryz.ntmps17 (by kernel_rfl) ?_; intro A hA Q hQ; simp [zM, gF, bne, *]) | (refine WK.rX (id := 4) (by kernel_rfl) Tryz.ntmps17 (by kernel_rfl) ?_; intro A hA Q hQ; simp [zM, gF, bne, *]) | (refine WK.rX (id := 5) (by kernel_rfl) Tryz.ntmps17 (by kernel_rfl) ?_; intro A hA Q hQ; simp [zM, gF, bne, *]) | (refine WK.rX (id := 6) (by kernel_rfl) Tryz.ntmps17 (by kernel_rfl) ?_; intro A hA Q hQ; simp [zM, gF, bne, *]) | (refine WK.rX (id := 7) (by kernel_rfl) Tryz.ntmps17 (by kernel_rfl) ?_; intro A hA Q hQ; simp [zM, gF, bne, *]) | (refine WK.rX (id := 8) (by kernel_rfl) Tryz.ntmps17 (by kernel_rfl) ?_; intro A hA Q hQ; simp [zM, gF, bne, *]) | (refine WK.rX (id := 9) (by kernel_rfl) Tryz.ntmps17 (by kernel_rfl) ?_; intro A hA Q hQ; simp [zM, gF, bne, *]) | (refine WK.rX (id := 10) (by kernel_rfl) Tryz.ntmps17 (by kernel_rfl) ?_; intro A hA Q hQ; simp [zM, gF, bne, *]) | (refine WK.rX (id := 11) (by kernel_rfl) Tryz.ntmps17 (by kernel_rfl) ?_; intro A hA Q hQ; simp [zM, gF, bne, *]) | (refine WK.rX (id := 12) (by kernel_rfl) Tryz.ntmps17 (by kernel_rfl) ?_; intro A hA Q hQ; simp [zM, gF, bne, *]) | (refine WK.rX (id := 13) (by kernel_rfl) Tryz.ntmps17 (by kernel_rfl) ?_; intro A hA Q hQ; simp [zM, gF, bne, *]) | (refine WK.rX (id := 14) (by kernel_rfl) Tryz.ntmps17 (by kernel_rfl) ?_; intro A hA Q hQ; simp [zM, gF, bne, *]) | (refine WK.rX (id := 15) (by kernel_rfl) Tryz.ntmps17 (by kernel_rfl) ?_; intro A hA Q hQ; simp [zM, gF, bne, *]) | (refine hQ.h _ _ _ (by decide +kernel) ?_; clear hQ hA) | (refine RunQ.append0 900 901 appByte rfl rfl rfl rfl rfl rfl rfl ?_ rfl ?_ ?_ ?_ ?_ ?_ ?_; (focus (simp [zM, gF, bne, *]; done)); (focus (first | omega | (simp [zM, gF, bne, *]; done); done)); (focus (first | omega | (simp [zM, gF, bne, *]; done); done)); (focus (simp [zM, gF, bne, *]; done)); (focus (simp [zM, gF, bne, *]; done)); (focus (simp [zM, gF, bne, *]; done)); refine RunQ.e ?_; simp [zM, gF, bne, *]) | (refine RunQ.k rfl rfl rfl rfl rfl ?_ (g4) ?_ ?_ <;> simp (maxDischargeDepth := 120) [zM, gF, bne, *] <;> refine ⟨?_⟩))
           refine WK.ghost (Ghost.frzCell 405 22 901 _ 1 rfl rfl rfl (by decide)) ?_
           repeat' (first | apply WK.s | apply WK.k | refine WK.cF rfl ?_ | (refine hQ.h _ _ ?_; clear hQ hA) | (refine WK.rH Tryz.ntmps17 (by kernel_rfl) ?_; intro A hA Q hQ; simp [zM, gF, bne, *]) | (refine WK.t Tryz.func17 ?_ ?_ <;> simp (maxDischargeDepth := 120) [Tryz.results17, zM, gF, bne, *]))
     · have h0 : L = 0 := by omega
       have hBn : B = [] := List.eq_nil_of_length_eq_zero (by omega)
       subst h0
       subst hBn
       rw [b0_] at hs8
       clear g g' hpos hB8l hfu hBb hcl
       rcases k0 with rfl | rfl | rfl
       all_goals
         · refine FnP.i Tryz.func17 rfl rfl fun G w => ?_
           repeat' (first | apply WK.s | apply WK.b | apply WK.n | apply WK.k | refine WK.cT rfl ?_ | refine WK.cF rfl ?_ | (refine hQ.h _ _ ?_; clear hQ hA) | (refine WK.rH Tryz.ntmps17 (by kernel_rfl) ?_; intro A hA Q hQ; simp [zM, gF, bne, *]) | (refine WK.rX (by kernel_rfl) Tryz.ntmps17 (by kernel_rfl) ?_; intro A hA Q hQ; simp [zM, gF, bne, *]) | (refine hQ.h _ _ _ (by decide +kernel) ?_; clear hQ hA) | (refine RunQ.appendN appByte rfl rfl rfl rfl rfl rfl rfl rfl ?_; refine RunQ.e ?_; simp [zM, gF, bne, *]) | (refine RunQ.k rfl rfl rfl rfl rfl ?_ (g4) ?_ ?_ <;> simp (maxDischargeDepth := 120) [zM, gF, bne, *] <;> refine ⟨?_⟩) | (refine WK.t Tryz.func17 ?_ ?_ <;> simp (maxDischargeDepth := 120) [Tryz.results17, zM, gF, bne, *]))
 have hd : mgData X1 = false := by cases h : mgData X1; rfl; exact absurd (mgData_iff.1 h) k0
 by_cases k1 : X1 = 1
 · rw [hF, hd, if_neg (by simp), if_pos k1]
   subst k1
   have h12 : b.length - 8 < 4 ↔ b.length < 12 := by omega
   by_cases g12 : b.length < 12
   · have g12' : (b.length : Int) < 12 := by omega
     rw [if_pos (by rw [hB8l]; omega), msg0_enc]
     unfold byS
     clear hF hd k0 hB8l h12
     refine FnP.i Tryz.func17 rfl rfl fun G w => ?_
     repeat' (first | apply WK.s | apply WK.b | apply WK.k | refine WK.cT rfl ?_ | refine WK.cF rfl ?_ | (refine hQ.h _ _ ?_; clear hQ hA) | (refine WK.rH Tryz.ntmps17 (by kernel_rfl) ?_; intro A hA Q hQ; simp [zM, gF, msg0E, bne, *]) | (refine WK.rX (by kernel_rfl) Tryz.ntmps17 (by kernel_rfl) ?_; intro A hA Q hQ; simp [zM, gF, msg0E, bne, *]) | (refine hQ.h _ _ _ (by decide +kernel) ?_; clear hQ hA) | (refine RunQ.k rfl rfl rfl rfl rfl ?_ (g4) ?_ ?_ <;> simp (maxDischargeDepth := 120) [zM, gF, msg0E, bne, *] <;> refine ⟨?_⟩) | (refine RunQ.k rfl rfl rfl rfl rfl ?_ (b6) ?_ ?_ <;> simp (maxDischargeDepth := 120) [zM, gF, msg0E, bne, *] <;> refine ⟨?_⟩) | (refine WK.t Tryz.func17 ?_ ?_ <;> simp (maxDischargeDepth := 120) [Tryz.results17, zM, gF, msg0E, bne, *]))
   have g12' : ¬ (b.length : Int) < 12 := by omega
   rw [if_neg (by rw [hB8l]; omega), hB8l]
   have x8 := by_get b 8 (by omega)
   have x9 := by_get b 9 (by omega)
   have x10 := by_get b 10 (by omega)
   have x11 := by_get b 11 (by omega)
   have u8' : (8 : Int) < b.length := by omega
   have u9 : (9 : Int) < b.length := by omega
   have u10 : (10 : Int) < b.length := by omega
   have u11 : (11 : Int) < b.length := by omega
   have u12 : (12 : Int) ≤ b.length := by omega
   have v8' : 8 < b.length := by omega
   have v9 : 9 < b.length := by omega
   have v10 : 10 < b.length := by omega
   have v11 : 11 < b.length := by omega
   have v12 : 12 ≤ b.length := by omega
   have w8 := u8_i64' (nth b 8)
   have w9 := u8_i64' (nth b 9)
   have w10 := u8_i64' (nth b 10)
   have w11 := u8_i64' (nth b 11)
   obtain ⟨s8, s9⟩ := two_wrap b 8
   obtain ⟨s10, s11⟩ := two_wrap b 10
   have q8 : getN (b.drop 8) 0 2 = (bI (nth b 8) * 256 + bI (nth b 9), 0) := by rw [getN_drop 0 2 (by omega)]; exact getN_two (by omega)
   have q10 : getN (b.drop 8) 2 2 = (bI (nth b 10) * 256 + bI (nth b 11), 0) := by rw [getN_drop 2 2 (by omega)]; exact getN_two (by omega)
   rw [q8, q10]
   rw [show (8 : Nat) + 1 = 9 from rfl] at s9
   rw [show (10 : Nat) + 1 = 11 from rfl] at s11
   have hdd : (b.drop 8).drop 4 = b.drop 12 := by rw [List.drop_drop]
   rw [hdd]
   have hs12 : ((byL b).drop 12).take (b.length - 12) = byL (b.drop 12) := by rw [byL_drop]; exact by_full _ _ (by rw [List.length_drop])
   have hB12l : (b.drop 12).length = b.length - 12 := by rw [List.length_drop]
   have hL4 : b.length - 8 - 4 = b.length - 12 := by omega
   rw [hL4]
   obtain ⟨X8, h8⟩ : ∃ X, bI (nth b 8) = X := ⟨_, rfl⟩
   obtain ⟨X9, h9⟩ : ∃ X, bI (nth b 9) = X := ⟨_, rfl⟩
   obtain ⟨X10, h10⟩ : ∃ X, bI (nth b 10) = X := ⟨_, rfl⟩
   obtain ⟨X11, h11⟩ : ∃ X, bI (nth b 11) = X := ⟨_, rfl⟩
   rw [h8] at x8 w8 s8 s9 ⊢
   rw [h9] at x9 w9 s9 ⊢
   rw [h10] at x10 w10 s10 s11 ⊢
   rw [h11] at x11 w11 s11 ⊢
   obtain ⟨B, hB⟩ : ∃ B, b.drop 12 = B := ⟨_, rfl⟩
   obtain ⟨L, hL⟩ : ∃ L, b.length - 12 = L := ⟨_, rfl⟩
   rw [hB] at hs12 hB12l ⊢
   rw [hL] at hs12 hB12l ⊢
   have hfu : (byL B).take L = byL B := by_full _ _ hB12l.symm
   have hBb : (byL B).length = L := by rw [byL_len, hB12l]
   have hcl : ClL (byL B) = true := byL_cl _
   unfold byS
   clear hF hB b1 hs8 hB8l h12 q8 q10 hdd hL4 h8 h9 h10 h11 hd k0
   by_cases g : 60000 < L
   · have g' : (60000 : Int) < L := by omega
     rw [if_pos g, msg0_enc]
     have hpos : 0 < L := by omega
     have hbd : L ≤ 140737488355328 := by omega
     refine FnP.i Tryz.func17 rfl rfl fun G w => ?_
     repeat' (first | apply WK.s | apply WK.b | apply WK.n | apply WK.k | refine WK.cT rfl ?_ | refine WK.cF rfl ?_ | (refine hQ.h _ _ ?_; clear hQ hA) | (refine WK.rH Tryz.ntmps17 (by kernel_rfl) ?_; intro A hA Q hQ; simp [zM, gF, msg0E, bne, *]) | (refine WK.rX (by kernel_rfl) Tryz.ntmps17 (by kernel_rfl) ?_; intro A hA Q hQ; simp [zM, gF, msg0E, bne, *]) | (refine hQ.h _ _ _ (by decide +kernel) ?_; clear hQ hA) | (refine RunQ.append0 900 901 appByte rfl rfl rfl rfl rfl rfl rfl ?_ rfl ?_ ?_ ?_ ?_ ?_ ?_; (focus (simp [zM, gF, msg0E, bne, *]; done)); (focus (first | omega | (simp [zM, gF, msg0E, bne, *]; done); done)); (focus (first | omega | (simp [zM, gF, msg0E, bne, *]; done); done)); (focus (simp [zM, gF, msg0E, bne, *]; done)); (focus (simp [zM, gF, msg0E, bne, *]; done)); (focus (simp [zM, gF, msg0E, bne, *]; done)); refine RunQ.e ?_; simp [zM, gF, msg0E, bne, *]) | (refine RunQ.k rfl rfl rfl rfl rfl ?_ (g4) ?_ ?_ <;> simp (maxDischargeDepth := 120) [zM, gF, msg0E, bne, *] <;> refine ⟨?_⟩) | (refine RunQ.k rfl rfl rfl rfl rfl ?_ (b6) ?_ ?_ <;> simp (maxDischargeDepth := 120) [zM, gF, msg0E, bne, *] <;> refine ⟨?_⟩) | (refine WK.t Tryz.func17 ?_ ?_ <;> simp (maxDischargeDepth := 120) [Tryz.results17, zM, gF, msg0E, bne, *]))
   · have g' : ¬ (60000 : Int) < L := by omega
     rw [if_neg g]
     clear b6
     by_cases hpos : 0 < L
     · have hbd : L ≤ 140737488355328 := by omega
       obtain ⟨D, hD⟩ : ∃ D, byL B = D := ⟨_, rfl⟩
       simp only [Msg.enc]
       rw [hB12l, hD]
       rw [hD] at hs12 hfu hBb hcl
       clear hD
       refine FnP.i Tryz.func17 rfl rfl fun G w => ?_
       repeat' (first | apply WK.s | apply WK.b | apply WK.n | apply WK.k | refine WK.cT rfl ?_ | refine WK.cF rfl ?_ | (refine hQ.h _ _ ?_; clear hQ hA) | (refine WK.rH (id := 0) Tryz.ntmps17 (by kernel_rfl) ?_; intro A hA Q hQ; simp [zM, gF, bne, *]) | (refine WK.rH (id := 1) Tryz.ntmps17 (by kernel_rfl) ?_; intro A hA Q hQ; simp [zM, gF, bne, *]) | (refine WK.rH (id := 2) Tryz.ntmps17 (by kernel_rfl) ?_; intro A hA Q hQ; simp [zM, gF, bne, *]) | (refine WK.rH (id := 3) Tryz.ntmps17 (by kernel_rfl) ?_; intro A hA Q hQ; simp [zM, gF, bne, *]) | (refine WK.rH (id := 4) Tryz.ntmps17 (by kernel_rfl) ?_; intro A hA Q hQ; simp [zM, gF, bne, *]) | (refine WK.rH (id := 5) Tryz.ntmps17 (by kernel_rfl) ?_; intro A hA Q hQ; simp [zM, gF, bne, *]) | (refine WK.rH (id := 6) Tryz.ntmps17 (by kernel_rfl) ?_; intro A hA Q hQ; simp [zM, gF, bne, *]) | (refine WK.rH (id := 7) Tryz.ntmps17 (by kernel_rfl) ?_; intro A hA Q hQ; simp [zM, gF, bne, *]) | (refine WK.rH (id := 8) Tryz.ntmps17 (by kernel_rfl) ?_; intro A hA Q hQ; simp [zM, gF, bne, *]) | (refine WK.rH (id := 9) Tryz.ntmps17 (by kernel_rfl) ?_; intro A hA Q hQ; simp [zM, gF, bne, *]) | (refine WK.rH (id := 10) Tryz.ntmps17 (by kernel_rfl) ?_; intro A hA Q hQ; simp [zM, gF, bne, *]) | (refine WK.rH (id := 11) Tryz.ntmps17 (by kernel_rfl) ?_; intro A hA Q hQ; simp [zM, gF, bne, *]) | (refine WK.rH (id := 12) Tryz.ntmps17 (by kernel_rfl) ?_; intro A hA Q hQ; simp [zM, gF, bne, *]) | (refine WK.rH (id := 13) Tryz.ntmps17 (by kernel_rfl) ?_; intro A hA Q hQ; simp [zM, gF, bne, *]) | (refine WK.rH (id := 14) Tryz.ntmps17 (by kernel_rfl) ?_; intro A hA Q hQ; simp [zM, gF, bne, *]) | (refine WK.rH (id := 15) Tryz.ntmps17 (by kernel_rfl) ?_; intro A hA Q hQ; simp [zM, gF, bne, *]) | (refine WK.rH (id := 16) Tryz.ntmps17 (by kernel_rfl) ?_; intro A hA Q hQ; simp [zM, gF, bne, *]) | (refine WK.rH (id := 17) Tryz.ntmps17 (by kernel_rfl) ?_; intro A hA Q hQ; simp [zM, gF, bne, *]) | (refine WK.rH (id := 18) Tryz.ntmps17 (by kernel_rfl) ?_; intro A hA Q hQ; simp [zM, gF, bne, *]) | (refine WK.rH (id := 19) Tryz.ntmps17 (by kernel_rfl) ?_; intro A hA Q hQ; simp [zM, gF, bne, *]) | (refine WK.rH (id := 20) Tryz.ntmps17 (by kernel_rfl) ?_; intro A hA Q hQ; simp [zM, gF, bne, *]) | (refine WK.rX (id := 0) (by kernel_rfl) Tryz.ntmps17 (by kernel_rfl) ?_; intro A hA Q hQ; simp [zM, gF, bne, *]) | (refine WK.rX (id := 1) (by kernel_rfl) Tryz.ntmps17 (by kernel_rfl) ?_; intro A hA Q hQ; simp [zM, gF, bne, *]) | (refine WK.rX (id := 2) (by kernel_rfl) Tryz.ntmps17 (by kernel_rfl) ?_; intro A hA Q hQ; simp [zM, gF, bne, *]) | (refine WK.rX (id := 3) (by kernel_rfl) Tryz.ntmps17 (by kernel_rfl) ?_; intro A hA Q hQ; simp [zM, gF, bne, *]) | (refine WK.rX (id := 4) (by kernel_rfl) Tryz.ntmps17 (by kernel_rfl) ?_; intro A hA Q hQ; simp [zM, gF, bne, *]) | (refine WK.rX (id := 5) (by kernel_rfl) Tryz.ntmps17 (by kernel_rfl) ?_; intro A hA Q hQ; simp [zM, gF, bne, *]) | (refine WK.rX (id := 6) (by kernel_rfl) Tryz.ntmps17 (by kernel_rfl) ?_; intro A hA Q hQ; simp [zM, gF, bne, *]) | (refine WK.rX (id := 7) (by kernel_rfl) Tryz.ntmps17 (by kernel_rfl) ?_; intro A hA Q hQ; simp [zM, gF, bne, *]) | (refine WK.rX (id := 8) (by kernel_rfl) Tryz.ntmps17 (by kernel_rfl) ?_; intro A hA Q hQ; simp [zM, gF, bne, *]) | (refine WK.rX (id := 9) (by kernel_rfl) Tryz.ntmps17 (by kernel_rfl) ?_; intro A hA Q hQ; simp [zM, gF, bne, *]) | (refine WK.rX (id := 10) (by kernel_rfl) Tryz.ntmps17 (by kernel_rfl) ?_; intro A hA Q hQ; simp [zM, gF, bne, *]) | (refine WK.rX (id := 11) (by kernel_rfl) Tryz.ntmps17 (by kernel_rfl) ?_; intro A hA Q hQ; simp [zM, gF, bne, *]) | (refine WK.rX (id := 12) (by kernel_rfl) Tryz.ntmps17 (by kernel_rfl) ?_; intro A hA Q hQ; simp [zM, gF, bne, *]) | (refine WK.rX (id := 13) (by kernel_rfl) Tryz.ntmps17 (by kernel_rfl) ?_; intro A hA Q hQ; simp [zM, gF, bne, *]) | (refine WK.rX (id := 14) (by kernel_rfl) Tryz.ntmps17 (by kernel_rfl) ?_; intro A hA Q hQ; simp [zM, gF, bne, *]) | (refine WK.rX (id := 15) (by kernel_rfl) Tryz.ntmps17 (by kernel_rfl) ?_; intro A hA Q hQ; simp [zM, gF, bne, *]) | (refine WK.rX (id := 16) (by kernel_rfl) Tryz.ntmps17 (by kernel_rfl) ?_; intro A hA Q hQ; simp [zM, gF, bne, *]) | (refine WK.rX (id := 17) (by kernel_rfl) Tryz.ntmps17 (by kernel_rfl) ?_; intro A hA Q hQ; simp [zM, gF, bne, *]) | (refine WK.rX (id := 18) (by kernel_rfl) Tryz.ntmps17 (by kernel_rfl) ?_; intro A hA Q hQ; simp [zM, gF, bne, *]) | (refine WK.rX (id := 19) (by kernel_rfl) Tryz.ntmps17 (by kernel_rfl) ?_; intro A hA Q hQ; simp [zM, gF, bne, *]) | (refine WK.rX (id := 20) (by kernel_rfl) Tryz.ntmps17 (by kernel_rfl) ?_; intro A hA Q hQ; simp [zM, gF, bne, *]) | (refine hQ.h _ _ _ (by decide +kernel) ?_; clear hQ hA) | (refine RunQ.append0 900 901 appByte rfl rfl rfl rfl rfl rfl rfl ?_ rfl ?_ ?_ ?_ ?_ ?_ ?_; (focus (simp [zM, gF, bne, *]; done)); (focus (first | omega | (simp [zM, gF, bne, *]; done); done)); (focus (first | omega | (simp [zM, gF, bne, *]; done); done)); (focus (simp [zM, gF, bne, *]; done)); (focus (simp [zM, gF, bne, *]; done)); (focus (simp [zM, gF, bne, *]; done)); refine RunQ.e ?_; simp [zM, gF, bne, *]) | (refine RunQ.k rfl rfl rfl rfl rfl ?_ (g4) ?_ ?_ <;> simp (maxDischargeDepth := 120) [zM, gF, bne, *] <;> refine ⟨?_⟩))
       refine WK.ghost (Ghost.frzCell 405 22 901 _ 1 rfl rfl rfl (by decide)) ?_
       repeat' (first | apply WK.s | apply WK.k | refine WK.cF rfl ?_ | (refine hQ.h _ _ ?_; clear hQ hA) | (refine WK.rH Tryz.ntmps17 (by kernel_rfl) ?_; intro A hA Q hQ; simp [zM, gF, bne, *]) | (refine WK.t Tryz.func17 ?_ ?_ <;> simp (maxDischargeDepth := 120) [Tryz.results17, zM, gF, bne, *]))
     · have h0 : L = 0 := by omega
       have hBn : B = [] := List.eq_nil_of_length_eq_zero (by omega)
       subst h0
       subst hBn
       rw [b0_] at hs12
       clear g g' hpos hB12l hfu hBb hcl
       refine FnP.i Tryz.func17 rfl rfl fun G w => ?_
       repeat' (first | apply WK.s | apply WK.b | apply WK.n | apply WK.k | refine WK.cT rfl ?_ | refine WK.cF rfl ?_ | (refine hQ.h _ _ ?_; clear hQ hA) | (refine WK.rH Tryz.ntmps17 (by kernel_rfl) ?_; intro A hA Q hQ; simp [zM, gF, bne, *]) | (refine WK.rX (by kernel_rfl) Tryz.ntmps17 (by kernel_rfl) ?_; intro A hA Q hQ; simp [zM, gF, bne, *]) | (refine hQ.h _ _ _ (by decide +kernel) ?_; clear hQ hA) | (refine RunQ.appendN appByte rfl rfl rfl rfl rfl rfl rfl rfl ?_; refine RunQ.e ?_; simp [zM, gF, bne, *]) | (refine RunQ.k rfl rfl rfl rfl rfl ?_ (g4) ?_ ?_ <;> simp (maxDischargeDepth := 120) [zM, gF, bne, *] <;> refine ⟨?_⟩) | (refine WK.t Tryz.func17 ?_ ?_ <;> simp (maxDischargeDepth := 120) [Tryz.results17, zM, gF, bne, *]))
 rw [hF, hd, if_neg (by simp), if_neg k1]
 by_cases k14 : X1 = 14
 · subst k14
   rw [if_pos rfl]
   have d := rfmdec_c (b.drop 8) (by rw [hB8l]; omega)
   obtain ⟨B, hB⟩ : ∃ B, b.drop 8 = B := ⟨_, rfl⟩
   rw [hB] at hs8 hB8l d ⊢
   obtain ⟨R, hR⟩ : ∃ R, fmDec B = R := ⟨_, rfl⟩
   rw [hR] at d ⊢
   obtain ⟨y, c⟩ := R
   unfold byS at *
   rw [hB8l] at d
   clear hF hB b6 b1 hR hB8l
   cases c with
   | some c =>
     simp only
     rw [msg0_enc]
     refine FnP.i Tryz.func17 rfl rfl fun G w => ?_
     repeat' (first | apply WK.s | apply WK.b | apply WK.n | apply WK.k | refine WK.cT rfl ?_ | refine WK.cF rfl ?_ | (refine hQ.h _ _ ?_; clear hQ hA) | (refine WK.rH Tryz.ntmps17 (by kernel_rfl) ?_; intro A hA Q hQ; simp [zM, gF, msg0E, bne, *]) | (refine WK.rX (by kernel_rfl) Tryz.ntmps17 (by kernel_rfl) ?_; intro A hA Q hQ; simp [zM, gF, msg0E, bne, *]) | (refine hQ.h _ _ _ (by decide +kernel) ?_; clear hQ hA) | (refine RunQ.k rfl rfl rfl rfl rfl ?_ (g4) ?_ ?_ <;> simp (maxDischargeDepth := 120) [zM, gF, msg0E, bne, *] <;> refine ⟨?_⟩) | (refine RunQ.k rfl rfl rfl rfl rfl ?_ (d) ?_ ?_ <;> simp (maxDischargeDepth := 120) [zM, gF, msg0E, bne, *] <;> refine ⟨?_⟩) | (refine WK.t Tryz.func17 ?_ ?_ <;> simp (maxDischargeDepth := 120) [Tryz.results17, zM, gF, msg0E, bne, *]))
   | none =>
     simp only
     refine FnP.i Tryz.func17 rfl rfl fun G w => ?_
     repeat' (first | apply WK.s | apply WK.b | apply WK.n | apply WK.k | refine WK.cT rfl ?_ | refine WK.cF rfl ?_ | (refine hQ.h _ _ ?_; clear hQ hA) | (refine WK.rH Tryz.ntmps17 (by kernel_rfl) ?_; intro A hA Q hQ; simp [zM, gF, bne, *]) | (refine WK.rX (by kernel_rfl) Tryz.ntmps17 (by kernel_rfl) ?_; intro A hA Q hQ; simp [zM, gF, bne, *]) | (refine hQ.h _ _ _ (by decide +kernel) ?_; clear hQ hA) | (refine RunQ.k rfl rfl rfl rfl rfl ?_ (g4) ?_ ?_ <;> simp (maxDischargeDepth := 120) [zM, gF, bne, *] <;> refine ⟨?_⟩) | (refine RunQ.k rfl rfl rfl rfl rfl ?_ (d) ?_ ?_ <;> simp (maxDischargeDepth := 120) [zM, gF, bne, *] <;> refine ⟨?_⟩) | (refine WK.t Tryz.func17 ?_ ?_ <;> simp (maxDischargeDepth := 120) [Tryz.results17, zM, gF, bne, *]))
 rw [if_neg k14]
 by_cases k15 : X1 = 15
 · subst k15
   rw [if_pos rfl]
   have d := rgdec_c (b.drop 8) (by rw [hB8l]; omega)
   obtain ⟨B, hB⟩ : ∃ B, b.drop 8 = B := ⟨_, rfl⟩
   rw [hB] at hs8 hB8l d ⊢
   obtain ⟨R, hR⟩ : ∃ R, gmDec B = R := ⟨_, rfl⟩
   rw [hR] at d ⊢
   obtain ⟨y, c⟩ := R
   unfold byS at *
   rw [hB8l] at d
   clear hF hB b6 b1 hR hB8l
   cases c with
   | some c =>
     simp only
     rw [msg0_enc]
     refine FnP.i Tryz.func17 rfl rfl fun G w => ?_
     repeat' (first | apply WK.s | apply WK.b | apply WK.n | apply WK.k | refine WK.cT rfl ?_ | refine WK.cF rfl ?_ | (refine hQ.h _ _ ?_; clear hQ hA) | (refine WK.rH Tryz.ntmps17 (by kernel_rfl) ?_; intro A hA Q hQ; simp [zM, gF, msg0E, bne, *]) | (refine WK.rX (by kernel_rfl) Tryz.ntmps17 (by kernel_rfl) ?_; intro A hA Q hQ; simp [zM, gF, msg0E, bne, *]) | (refine hQ.h _ _ _ (by decide +kernel) ?_; clear hQ hA) | (refine RunQ.k rfl rfl rfl rfl rfl ?_ (g4) ?_ ?_ <;> simp (maxDischargeDepth := 120) [zM, gF, msg0E, bne, *] <;> refine ⟨?_⟩) | (refine RunQ.k rfl rfl rfl rfl rfl ?_ (d) ?_ ?_ <;> simp (maxDischargeDepth := 120) [zM, gF, msg0E, bne, *] <;> refine ⟨?_⟩) | (refine WK.t Tryz.func17 ?_ ?_ <;> simp (maxDischargeDepth := 120) [Tryz.results17, zM, gF, msg0E, bne, *]))
   | none =>
     simp only
     refine FnP.i Tryz.func17 rfl rfl fun G w => ?_
     repeat' (first | apply WK.s | apply WK.b | apply WK.n | apply WK.k | refine WK.cT rfl ?_ | refine WK.cF rfl ?_ | (refine hQ.h _ _ ?_; clear hQ hA) | (refine WK.rH Tryz.ntmps17 (by kernel_rfl) ?_; intro A hA Q hQ; simp [zM, gF, bne, *]) | (refine WK.rX (by kernel_rfl) Tryz.ntmps17 (by kernel_rfl) ?_; intro A hA Q hQ; simp [zM, gF, bne, *]) | (refine hQ.h _ _ _ (by decide +kernel) ?_; clear hQ hA) | (refine RunQ.k rfl rfl rfl rfl rfl ?_ (g4) ?_ ?_ <;> simp (maxDischargeDepth := 120) [zM, gF, bne, *] <;> refine ⟨?_⟩) | (refine RunQ.k rfl rfl rfl rfl rfl ?_ (d) ?_ ?_ <;> simp (maxDischargeDepth := 120) [zM, gF, bne, *] <;> refine ⟨?_⟩) | (refine WK.t Tryz.func17 ?_ ?_ <;> simp (maxDischargeDepth := 120) [Tryz.results17, zM, gF, bne, *]))
 rw [if_neg k15, msg0_enc]
 have j0 : (X1 == 0) = false := by rw [beq_eq_false_iff_ne]; omega
 have j2 : (X1 == 2) = false := by rw [beq_eq_false_iff_ne]; omega
 have j3 : (X1 == 3) = false := by rw [beq_eq_false_iff_ne]; omega
 have j1 : (X1 == 1) = false := by rw [beq_eq_false_iff_ne]; omega
 have j14 : (X1 == 14) = false := by rw [beq_eq_false_iff_ne]; omega
 have j15 : (X1 == 15) = false := by rw [beq_eq_false_iff_ne]; omega
 unfold byS
 clear hF b6 k0 k1 k14 k15 hd hB8l
 refine FnP.i Tryz.func17 rfl rfl fun G w => ?_
 repeat' (first | apply WK.s | apply WK.b | apply WK.k | refine WK.cF rfl ?_ | (refine hQ.h _ _ ?_; clear hQ hA) | (refine WK.rH Tryz.ntmps17 (by kernel_rfl) ?_; intro A hA Q hQ; simp [zM, gF, msg0E, bne, *]) | (refine WK.rX (by kernel_rfl) Tryz.ntmps17 (by kernel_rfl) ?_; intro A hA Q hQ; simp [zM, gF, msg0E, bne, *]) | (refine hQ.h _ _ _ (by decide +kernel) ?_; clear hQ hA) | (refine RunQ.k rfl rfl rfl rfl rfl ?_ (g4) ?_ ?_ <;> simp (maxDischargeDepth := 120) [zM, gF, msg0E, bne, *] <;> refine ⟨?_⟩) | (refine RunQ.k rfl rfl rfl rfl rfl ?_ (b1) ?_ ?_ <;> simp (maxDischargeDepth := 120) [zM, gF, msg0E, bne, *] <;> refine ⟨?_⟩) | (refine WK.t Tryz.func17 ?_ ?_ <;> simp (maxDischargeDepth := 120) [Tryz.results17, zM, gF, msg0E, bne, *]))

theorem msg0_B : MsB msg0 := ⟨flowMod0_B, ⟨by simp [msg0, gm0], by simp [msg0, gm0]⟩, by simp [msg0]⟩
theorem mgFill_B {k x : Int} {b : List (BitVec 8)} {m : Msg} {c : Option (Int × Int)} (hb : b.length ≤ 80000) (h : mgFill k x b = (m, c)) : MsB m := by
 have z1 := flowMod0_B
 have z2 : GmFit gm0 := ⟨by simp [gm0], by simp [gm0]⟩
 unfold mgFill at h
 split at h
 · split at h
   · cases h; exact msg0_B
   · cases h; exact ⟨z1, z2, by show b.length ≤ 100000; omega⟩
 split at h
 · split at h
   · cases h; exact msg0_B
   split at h
   · cases h; exact msg0_B
   · cases h; exact ⟨z1, z2, by show (b.drop 4).length ≤ 100000; rw [List.length_drop]; omega⟩
 split at h
 · obtain ⟨y, c', hd⟩ : ∃ y c, fmDec b = (y, c) := ⟨_, _, rfl⟩
   rw [hd] at h
   have hy := fmDec_fits hb hd
   cases c' with
   | some c' => cases h; exact msg0_B
   | none => cases h; exact ⟨hy, z2, by show ([] : List (BitVec 8)).length ≤ 100000; simp⟩
 split at h
 · obtain ⟨y, c', hd⟩ : ∃ y c, gmDec b = (y, c) := ⟨_, _, rfl⟩
   rw [hd] at h
   have hy := gmDec_fit (by omega) hd
   cases c' with
   | some c' => cases h; exact msg0_B
   | none => cases h; exact ⟨z1, hy, by show ([] : List (BitVec 8)).length ≤ 100000; simp⟩
 · cases h; exact msg0_B
theorem mgDec_B {b : List (BitVec 8)} {m : Msg} {c : Option (Int × Int)} (hb : b.length ≤ 80000) (h : mgDec b = (m, c)) : MsB m := by
 unfold mgDec at h
 split at h
 · cases h; exact msg0_B
 split at h
 · cases h; exact msg0_B
 split at h
 · cases h; exact msg0_B
 · exact mgFill_B (by rw [List.length_drop]; omega) h
def L20 : Msg := ⟨15, 8, flowMod0, ⟨0, 0, 5, []⟩, flt0, []⟩
def B20a : List (BitVec 8) := [4#8, 0#8, 0#8, 8#8, 0#8, 0#8, 0#8, 7#8]
def B20b : List (BitVec 8) := [4#8, 99#8, 0#8, 8#8, 0#8, 0#8, 0#8, 7#8]
def M20 : Msg := ⟨0, 7, flowMod0, gm0, flt0, []⟩
theorem fL20a : (mgEnc L20).1.length = 16 := by kernel_rfl
theorem fL20b : (mgEnc L20).2 = 0 := by kernel_rfl
theorem fL20c : mgDec (mgEnc L20).1 = (L20, none) := by kernel_rfl
theorem fL20d : mgRight L20 = true := by kernel_rfl
theorem fL20e : mgDec B20a = (M20, none) := by kernel_rfl
theorem fL20f : mgDec B20b = (msg0, some (1, 1)) := by kernel_rfl
set_option maxHeartbeats 8000000 in
theorem awake20_c : FnP Tryz.prog 8 [] (.bool true) := by
 have hB : MsB L20 := ⟨flowMod0_B, ⟨by simp [L20], by simp [L20]⟩, by simp [L20]⟩
 have p := mgencP_c L20 hB
 have d := mgdec_c (mgEnc L20).1 (by rw [fL20a]; omega)
 have d1 := mgdec_c B20a (by decide)
 have d2 := mgdec_c B20b (by decide)
 have s := mgsame_c L20 L20 hB
 have r := mgright_c L20 hB
 rw [fL20c] at d
 rw [fL20b] at p
 rw [fL20d] at r
 rw [fL20e] at d1
 rw [fL20f] at d2
 rw [mgSame_self] at s
 have hl := fL20a
 obtain ⟨B, hBB⟩ : ∃ B, (mgEnc L20).1 = B := ⟨_, rfl⟩
 rw [hBB] at p d hl
 clear hBB hB
 have e0 : L20.enc = [.int .i64 15, .int .i64 8, .int .u64 0, .int .u64 0, .int .i64 0, .int .i64 0, .int .i64 0, .int .i64 0, .int .i64 0, .int .i64 0, .int .i64 0, .int .i64 0, .int .i64 0, .sl false 0 [], .sl false 0 [], .int .i64 0, .int .i64 0, .int .i64 5, .sl false 0 [], .bool false, .int .i64 0, .int .i64 0, .sl false 0 []] := rfl
 have e1 : M20.enc = [.int .i64 0, .int .i64 7, .int .u64 0, .int .u64 0, .int .i64 0, .int .i64 0, .int .i64 0, .int .i64 0, .int .i64 0, .int .i64 0, .int .i64 0, .int .i64 0, .int .i64 0, .sl false 0 [], .sl false 0 [], .int .i64 0, .int .i64 0, .int .i64 0, .sl false 0 [], .bool false, .int .i64 0, .int .i64 0, .sl false 0 []] := rfl
 have ea : byS B20a = .sl false 8 [.int .u8 4, .int .u8 0, .int .u8 0, .int .u8 8, .int .u8 0, .int .u8 0, .int .u8 0, .int .u8 7] := rfl
 have eb : byS B20b = .sl false 8 [.int .u8 4, .int .u8 99, .int .u8 0, .int .u8 8, .int .u8 0, .int .u8 0, .int .u8 0, .int .u8 7] := rfl
 rw [ea, e1] at d1
 rw [eb, msg0_enc] at d2
 unfold byS at p d
 rw [hl] at p d
 simp only [e0, gF, msg0E] at p d d1 d2 s r
 refine FnP.i Tryz.func8 rfl rfl fun G w => ?_
 repeat' (first | apply WK.s | (refine hQ.h _ _ ?_; clear hQ hA) | (refine WK.rH Tryz.ntmps8 (by kernel_rfl) ?_; intro A hA Q hQ; simp [*]) | (refine RunQ.g rfl (by rw [hA.h]; rfl) ?_; simp [*]) | (refine RunQ.k rfl rfl rfl rfl rfl ?_ (p) ?_ ?_ <;> simp (maxDischargeDepth := 120) [*] <;> refine ⟨?_⟩) | (refine RunQ.k rfl rfl rfl rfl rfl ?_ (d) ?_ ?_ <;> simp (maxDischargeDepth := 120) [*] <;> refine ⟨?_⟩) | (refine RunQ.k rfl rfl rfl rfl rfl ?_ (d1) ?_ ?_ <;> simp (maxDischargeDepth := 120) [*] <;> refine ⟨?_⟩) | (refine RunQ.k rfl rfl rfl rfl rfl ?_ (d2) ?_ ?_ <;> simp (maxDischargeDepth := 120) [*] <;> refine ⟨?_⟩) | (refine RunQW.k rfl rfl rfl rfl ?_ (s) ?_ ?_ <;> simp (maxDischargeDepth := 120) [*] <;> refine ⟨?_⟩) | (refine RunQW.k rfl rfl rfl rfl ?_ (r) ?_ ?_ <;> simp (maxDischargeDepth := 120) [*] <;> refine ⟨?_⟩) | (refine WK.t Tryz.func8 ?_ ?_ <;> simp (maxDischargeDepth := 120) [Tryz.results8, *]))
set_option maxHeartbeats 8000000 in
theorem msgDecodes_c (b : List (BitVec 8)) : FnP Tryz.prog 4 [byS b] (.bool true) := by
 by_cases g : 70000 < b.length
 · have g' : (70000 : Int) < b.length := by omega
   unfold byS
   refine FnP.i Tryz.func4 rfl rfl fun G w => ?_
   repeat' (first | apply WK.s | refine WK.cT rfl ?_ | (refine hQ.h _ _ ?_; clear hQ hA) | (refine WK.rH Tryz.ntmps4 (by kernel_rfl) ?_; intro A hA Q hQ; simp [*]) | (refine RunQ.k rfl rfl rfl rfl rfl ?_ (awake20_c) ?_ ?_ <;> simp (maxDischargeDepth := 120) [*] <;> refine ⟨?_⟩) | (refine WK.t Tryz.func4 ?_ ?_ <;> simp (maxDischargeDepth := 120) [Tryz.results4, *]))
 · have g' : ¬ (70000 : Int) < b.length := by omega
   have d := mgdec_c b (by omega)
   have e := rmgdec_c b (by omega)
   obtain ⟨R, hR⟩ : ∃ R, mgDec b = R := ⟨_, rfl⟩
   obtain ⟨m, f⟩ := R
   have s := rmgsame_c m m (mgDec_B (by omega) hR)
   rw [mgSame_self] at s
   rw [hR] at d e
   simp only [byS] at *
   unfold Msg.enc Flt.enc FlowMod.enc GroupMod.enc at *
   clear hR
   refine FnP.i Tryz.func4 rfl rfl fun G w => ?_
   cases f <;>
   · repeat' (first | apply WK.s | apply WK.k | refine WK.cF rfl ?_ | (refine hQ.h _ _ ?_; clear hQ hA) | (refine WK.rH Tryz.ntmps4 (by kernel_rfl) ?_; intro A hA Q hQ; simp [gF, *]) | (refine RunQ.g rfl (by rw [hA.h]; rfl) ?_; simp [gF, *]) | (refine RunQ.k rfl rfl rfl rfl rfl ?_ (d) ?_ ?_ <;> simp (maxDischargeDepth := 120) [gF, *] <;> refine ⟨?_⟩) | (refine RunQ.k rfl rfl rfl rfl rfl ?_ (e) ?_ ?_ <;> simp (maxDischargeDepth := 120) [gF, *] <;> refine ⟨?_⟩) | (refine RunQ.k rfl rfl rfl rfl rfl ?_ (s) ?_ ?_ <;> simp (maxDischargeDepth := 120) [gF, *] <;> refine ⟨?_⟩) | (refine RunQW.k rfl rfl rfl rfl ?_ (awake20_c) ?_ ?_ <;> simp (maxDischargeDepth := 120) [gF, *] <;> refine ⟨?_⟩) | (refine WK.t Tryz.func4 ?_ ?_ <;> simp (maxDischargeDepth := 120) [Tryz.results4, gF, *]))
end Go.Proofs.YtcccfbjkcahgfaaGreat
