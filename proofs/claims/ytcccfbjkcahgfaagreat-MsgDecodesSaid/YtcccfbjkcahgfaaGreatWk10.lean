/- Matches: the reference's: what is there, what is wrong. -/
import Derived.Test.YtcccfbjkcahgfaaGreatAf
import Derived.Test.YtcccfbjkcahgfaaGreatWk9
set_option linter.all false
set_option linter.unnecessarySimpa false
namespace Go.Proofs.YtcccfbjkcahgfaaGreat
open Go Go.AI Go.Proofs
attribute [local irreducible] FnP FnO FnB FnT FnSeq WK RunQ RunQW RunX RunXW
theorem oxm_val (l : List Oxm) (i : Nat) (h : i < l.length) : ((oxmL l).drop (i * 6 + 2)).take 2 = (nth l i).value.enc ∧ 2 ≤ l.length * 6 - (i * 6 + 2) := by
 refine ⟨?_, by omega⟩
 unfold oxmL
 rw [← List.drop_drop, fm_drop Oxm.len, drop_nth h]; rfl
theorem oxm_at1 (l : List Oxm) (i : Nat) (h : i < l.length) (h' : i * 6 + 1 < (oxmL l).length) : (oxmL l)[i * 6 + 1] = .bool (nth l i).masked := fm_get Oxm.len l i 1 h (by omega) h'
theorem need_at0 (l : List Need) (i : Nat) (h : i < l.length) (h' : i * 2 < (needL l).length) : (needL l)[i * 2] = .int .i64 (nth l i).field := fm_get Need.len l i 0 h (by omega) h'
theorem need_at1 (l : List Need) (i : Nat) (h : i < l.length) (h' : i * 2 + 1 < (needL l).length) : (needL l)[i * 2 + 1] = .sl false (nth l i).values.length (wdL (nth l i).values) := fm_get Need.len l i 1 h (by omega) h'
set_option maxHeartbeats 4000000 in
theorem rmet_c (l : List Oxm) (f : Int) (hl : l.length ≤ 1000000) : FnP Tryz.prog 91 [oxmS l, .int .i64 f] (.bool (mMet l f)) := by
 have cn := rneeds_c f
 have hsm := needs_small f
 have hF : ∀ i, i < (needs f).length → (l.any fun o => mGives o (nth (needs f) i)) = false → mMet l f = false := fun i h hp => mMet_false h hp
 have hT : (∀ j, j < (needs f).length → (l.any fun o => mGives o (nth (needs f) j)) = true) → mMet l f = true := mMet_true
 obtain ⟨N, hN⟩ : ∃ N, needs f = N := ⟨_, rfl⟩
 rw [hN] at cn hsm hF hT
 unfold needS at cn
 clear hN
 unfold oxmS
 refine FnP.i Tryz.func91 rfl rfl fun G w => ?_
 repeat' (first | apply WK.s | apply WK.b | (refine hQ.h _ _ ?_; clear hQ hA) | (refine WK.rH Tryz.ntmps91 (by kernel_rfl) ?_; intro A hA Q hQ; simp [*]) | (refine RunQ.k rfl rfl rfl rfl rfl ?_ (cn) ?_ ?_ <;> simp (maxDischargeDepth := 120) [*] <;> refine ⟨?_⟩))
 refine WK.lI (fun n => n) (fun i : Nat => (⟨(upd (upd (upd J 0 (.sl false l.length (oxmL l))) 5 (.sl false N.length (needL N))) 6 (.int .i64 i)), B0, 0⟩ : St)) (fun i => i ≤ N.length ∧ ∀ j, j < i → (l.any fun o => mGives o (nth N j)) = true) (fun i => N.length - i) (0) (by repeat (first | exact TmW.nil | refine TmW.upd ?_ (by simp (maxDischargeDepth := 120)))) (by repeat (first | exact BxW.nil | refine BxW.upd ?_ (by simp (maxDischargeDepth := 120)))) InjW.id (⟨by omega, by simp⟩) (fun i hi IH => ?_)
 by_cases h1 : i < N.length
 · have m0 := need_at0 N i h1
   have m1 := need_at1 N i h1
   have h6 : IntKind.i64.wrap ((i : Int) + 1) = i + 1 := wrap_i64 (by omega) (by omega)
   have hv := hsm.2 _ (nth_mem h1)
   have hFi := hF i h1
   have hst : (l.any fun o => mGives o (nth N i)) = true → ∀ j, j < i + 1 → (l.any fun o => mGives o (nth N j)) = true := fun h j hj => by
     by_cases h7 : j = i
     · subst h7; exact h
     · exact hi.2 j (by omega)
   obtain ⟨n, hn⟩ : ∃ n, nth N i = n := ⟨_, rfl⟩
   rw [hn] at m0 m1 hv hFi hst
   have hle := hi.1
   clear hn hi hF hT hsm cn
   repeat' (first | apply WK.s | apply WK.b | apply WK.k | refine WK.cT rfl ?_ | (refine hQ.h _ _ ?_; clear hQ hA) | (refine WK.rH Tryz.ntmps91 (by kernel_rfl) ?_; intro A hA Q hQ; simp [*]))
   refine WK.lI (fun n => n) (fun j : Nat => (⟨(upd (upd (upd (upd (upd J 0 (.sl false l.length (oxmL l))) 5 (.sl false N.length (needL N))) 6 (.int .i64 i)) 7 (.bool ((l.take j).any fun o => mGives o n))) 8 (.int .i64 j)), B0, 0⟩ : St)) (fun j => j ≤ l.length) (fun j => l.length - j) (0) (by repeat (first | exact TmW.nil | refine TmW.upd ?_ (by simp (maxDischargeDepth := 120)))) (by repeat (first | exact BxW.nil | refine BxW.upd ?_ (by simp (maxDischargeDepth := 120)))) InjW.id (Nat.zero_le _) (fun j hj IHj => ?_)
   by_cases g1 : j < l.length
   · have k0 := oxm_get0 l j g1
     have k1 := oxm_at1 l j g1
     obtain ⟨k2, k3⟩ := oxm_val l j g1
     have g6 : IntKind.i64.wrap ((j : Int) + 1) = j + 1 := wrap_i64 (by omega) (by omega)
     have g7 : j * 6 + 1 < l.length * 6 := by omega
     have g8 : j * 6 + 2 < l.length * 6 := by omega
     have g9 : i * 2 + 1 < N.length * 2 := by omega
     have hs := any_take (fun o => mGives o n) g1
     have c := rone_c n.values (nth l j).value (by omega)
     have e : mGives (nth l j) n = ((nth l j).field == n.field && (n.values.length == 0 || (!(nth l j).masked && n.values.any fun v => (nth l j).value == v))) := rfl
     obtain ⟨o, ho⟩ : ∃ o, nth l j = o := ⟨_, rfl⟩
     rw [ho] at k0 k1 k2 hs c e
     rw [e] at hs
     obtain ⟨z, hz⟩ : ∃ z, (n.values.any fun v => o.value == v) = z := ⟨_, rfl⟩
     obtain ⟨q, hq⟩ : ∃ q, ((l.take j).any fun o => mGives o n) = q := ⟨_, rfl⟩
     rw [hz] at c hs
     rw [hq] at hs ⊢
     unfold wdS at c
     unfold Wide.enc at c k2
     have e2 : ((n.values.length : Int) == 0) = (n.values.length == 0) := by rw [Bool.eq_iff_iff, beq_iff_eq, beq_iff_eq]; omega
     obtain ⟨y, hy⟩ : ∃ y, (n.values.length == 0) = y := ⟨_, rfl⟩
     rw [hy] at c hs e2
     clear hz hq ho e hFi hst hy
     cases q
     case true =>
       rw [Bool.true_or] at hs
       repeat' (first | apply WK.s | apply WK.b | apply WK.n | apply WK.k | refine WK.cT rfl ?_ | (refine hQ.h _ _ ?_; clear hQ hA) | (refine WK.rH Tryz.ntmps91 (by kernel_rfl) ?_; intro A hA Q hQ; simp [*]) | (refine WK.rX (by kernel_rfl) Tryz.ntmps91 (by kernel_rfl) ?_; intro A hA Q hQ; simp [*]) | (refine hQ.h _ _ _ (by decide +kernel) ?_; clear hQ hA) | (refine RunX.gd rfl (by rw [hA.h]; rfl) ?_; simp [*]))
       refine WK.next (fun n => n) (IHj (j + 1) (by omega) (by first | omega | (dsimp only; omega))) (by repeat (first | exact TmW.nil | refine TmW.upd ?_ (by simp (maxDischargeDepth := 120) [hs]))) (by repeat (first | exact BxW.nil | refine BxW.upd ?_ (by simp (maxDischargeDepth := 120) [hs]))) InjW.id
     rw [Bool.false_or] at hs
     cases h5 : o.field == n.field
     · rw [h5, Bool.false_and] at hs
       repeat' (first | apply WK.s | apply WK.b | apply WK.n | apply WK.k | refine WK.cT rfl ?_ | (refine hQ.h _ _ ?_; clear hQ hA) | (refine WK.rH Tryz.ntmps91 (by kernel_rfl) ?_; intro A hA Q hQ; simp [*]) | (refine WK.rX (by kernel_rfl) Tryz.ntmps91 (by kernel_rfl) ?_; intro A hA Q hQ; simp [*]) | (refine hQ.h _ _ _ (by decide +kernel) ?_; clear hQ hA) | (refine RunX.gd rfl (by rw [hA.h]; rfl) ?_; simp [*]))
       refine WK.next (fun n => n) (IHj (j + 1) (by omega) (by first | omega | (dsimp only; omega))) (by repeat (first | exact TmW.nil | refine TmW.upd ?_ (by simp (maxDischargeDepth := 120) [hs]))) (by repeat (first | exact BxW.nil | refine BxW.upd ?_ (by simp (maxDischargeDepth := 120) [hs]))) InjW.id
     rw [h5, Bool.true_and] at hs
     cases y
     case true =>
       rw [Bool.true_or] at hs
       repeat' (first | apply WK.s | apply WK.b | apply WK.n | apply WK.k | refine WK.cT rfl ?_ | (refine hQ.h _ _ ?_; clear hQ hA) | (refine WK.rH Tryz.ntmps91 (by kernel_rfl) ?_; intro A hA Q hQ; simp [*]) | (refine WK.rX (by kernel_rfl) Tryz.ntmps91 (by kernel_rfl) ?_; intro A hA Q hQ; simp [*]) | (refine hQ.h _ _ _ (by decide +kernel) ?_; clear hQ hA) | (refine RunX.gd rfl (by rw [hA.h]; rfl) ?_; simp [*]))
       refine WK.next (fun n => n) (IHj (j + 1) (by omega) (by first | omega | (dsimp only; omega))) (by repeat (first | exact TmW.nil | refine TmW.upd ?_ (by simp (maxDischargeDepth := 120) [hs]))) (by repeat (first | exact BxW.nil | refine BxW.upd ?_ (by simp (maxDischargeDepth := 120) [hs]))) InjW.id
     rw [Bool.false_or] at hs
     rw [Bool.or_false] at c
     cases h7 : o.masked
     · rw [h7, Bool.not_false, Bool.true_and] at hs
       rw [h7] at k1
       repeat' (first | apply WK.s | apply WK.b | apply WK.n | apply WK.k | refine WK.cT rfl ?_ | (refine hQ.h _ _ ?_; clear hQ hA) | (refine WK.rH Tryz.ntmps91 (by kernel_rfl) ?_; intro A hA Q hQ; simp [*]) | (refine WK.rX (by kernel_rfl) Tryz.ntmps91 (by kernel_rfl) ?_; intro A hA Q hQ; simp [*]) | (refine hQ.h _ _ _ (by decide +kernel) ?_; clear hQ hA) | (refine RunX.gd rfl (by rw [hA.h]; rfl) ?_; simp [*]) | (refine RunXW.call rfl rfl rfl ?_ (c) ?_ ?_; (focus (simp (maxDischargeDepth := 120) [*]; done)); (focus (simp [*]; done)); refine RunX.e ?_; simp [*]))
       refine WK.next (fun n => n) (IHj (j + 1) (by omega) (by first | omega | (dsimp only; omega))) (by repeat (first | exact TmW.nil | refine TmW.upd ?_ (by simp (maxDischargeDepth := 120) [hs]))) (by repeat (first | exact BxW.nil | refine BxW.upd ?_ (by simp (maxDischargeDepth := 120) [hs]))) InjW.id
     · rw [h7, Bool.not_true, Bool.false_and] at hs
       rw [h7] at k1
       repeat' (first | apply WK.s | apply WK.b | apply WK.n | apply WK.k | refine WK.cT rfl ?_ | (refine hQ.h _ _ ?_; clear hQ hA) | (refine WK.rH Tryz.ntmps91 (by kernel_rfl) ?_; intro A hA Q hQ; simp [*]) | (refine WK.rX (by kernel_rfl) Tryz.ntmps91 (by kernel_rfl) ?_; intro A hA Q hQ; simp [*]) | (refine hQ.h _ _ _ (by decide +kernel) ?_; clear hQ hA) | (refine RunX.gd rfl (by rw [hA.h]; rfl) ?_; simp [*]))
       refine WK.next (fun n => n) (IHj (j + 1) (by omega) (by first | omega | (dsimp only; omega))) (by repeat (first | exact TmW.nil | refine TmW.upd ?_ (by simp (maxDischargeDepth := 120) [hs]))) (by repeat (first | exact BxW.nil | refine BxW.upd ?_ (by simp (maxDischargeDepth := 120) [hs]))) InjW.id
   · have hj' : j = l.length := by omega
     subst hj'
     rw [any_take_all]
     obtain ⟨q, hq⟩ : ∃ q, (l.any fun o => mGives o n) = q := ⟨_, rfl⟩
     rw [hq] at hFi hst ⊢
     cases q
     · have e := hFi rfl
       clear hst
       repeat' (first | apply WK.s | refine WK.exit rfl ?_ | refine WK.cT rfl ?_ | refine WK.cF rfl ?_ | (refine hQ.h _ _ ?_; clear hQ hA) | (refine WK.rH Tryz.ntmps91 (by kernel_rfl) ?_; intro A hA Q hQ; simp [*]) | (refine WK.t Tryz.func91 ?_ ?_ <;> simp (maxDischargeDepth := 120) [Tryz.results91, *]))
     · have hst2 := hst rfl
       clear hst hFi
       repeat' (first | apply WK.s | apply WK.n | apply WK.k | refine WK.exit rfl ?_ | refine WK.cF rfl ?_ | (refine hQ.h _ _ ?_; clear hQ hA) | (refine WK.rH Tryz.ntmps91 (by kernel_rfl) ?_; intro A hA Q hQ; simp [*]))
       refine WK.next (fun n => n) (IH (i + 1) (⟨by omega, hst2⟩) (by first | omega | (dsimp only; omega))) (by repeat (first | exact TmW.nil | refine TmW.upd ?_ (by simp (maxDischargeDepth := 120)))) (by repeat (first | exact BxW.nil | refine BxW.upd ?_ (by simp (maxDischargeDepth := 120)))) InjW.id
 · have e := hT fun j hj => hi.2 j (by omega)
   repeat' (first | apply WK.s | refine WK.exit rfl ?_ | refine WK.cF rfl ?_ | (refine hQ.h _ _ ?_; clear hQ hA) | (refine WK.rH Tryz.ntmps91 (by kernel_rfl) ?_; intro A hA Q hQ; simp [*]) | (refine WK.t Tryz.func91 ?_ ?_ <;> simp (maxDischargeDepth := 120) [Tryz.results91, *]))
set_option maxHeartbeats 4000000 in
theorem rmcheck_c (l : List Oxm) (hl : l.length ≤ 1000000) : FnP Tryz.prog 85 [oxmS l] (.agg (mF (mCheck l))) := by
 have b10 := rmbad_c 10
 have b9 := rmbad_c 9
 unfold oxmS
 refine FnP.i Tryz.func85 rfl rfl fun G w => ?_
 repeat' (first | apply WK.s | apply WK.b | (refine hQ.h _ _ ?_; clear hQ hA) | (refine WK.rH Tryz.ntmps85 (by kernel_rfl) ?_; intro A hA Q hQ; simp [*]))
 refine WK.lI (fun n => n) (fun i : Nat => (⟨(upd (upd (upd J 0 (.sl false l.length (oxmL l))) 2 (.ptr 0 0)) 3 (.int .i64 i)), (upd B0 0 (.var [.junk, .junk, .junk])), 0⟩ : St)) (fun i => i ≤ l.length ∧ mCheck l = mCheckF (l.take i) (l.drop i)) (fun i => l.length - i) (0) (by repeat (first | exact TmW.nil | refine TmW.upd ?_ (by simp (maxDischargeDepth := 120)))) (by repeat (first | exact BxW.nil | refine BxW.upd ?_ (by simp (maxDischargeDepth := 120)))) InjW.id (⟨by omega, rfl⟩) (fun i hi IH => ?_)
 by_cases h1 : i < l.length
 · have k0 := oxm_get0 l i h1
   have g6 : IntKind.i64.wrap ((i : Int) + 1) = i + 1 := wrap_i64 (by omega) (by omega)
   obtain ⟨hp1, hp2⟩ := oxm_part l i (by omega)
   have hst := hi.2
   have hle := hi.1
   rw [mCheck_at h1] at hst
   have cm := rmet_c (l.take i) (nth l i).field (by omega)
   unfold oxmS at cm
   rw [hp2] at cm
   have hcl : ClL (oxmL (l.take i)) = true := oxmL_cl _
   have hln : (oxmL (l.take i)).length = i * 6 := by rw [oxmL_len, hp2]
   have hA : (∀ k, k < i → ((nth l k).field == (nth l i).field) = false) → ((l.take i).any fun p => p.field == (nth l i).field) = false := any_front (p := fun p => p.field == (nth l i).field) hle
   have hB : ∀ k, k < i → ((nth l k).field == (nth l i).field) = true → ((l.take i).any fun p => p.field == (nth l i).field) = true := fun k hk h => any_front_true (p := fun p => p.field == (nth l i).field) hle hk h
   obtain ⟨o, ho⟩ : ∃ o, nth l i = o := ⟨_, rfl⟩
   rw [ho] at k0 hst cm hA hB
   obtain ⟨z1, hz1⟩ : ∃ z, ((l.take i).any fun p => p.field == o.field) = z := ⟨_, rfl⟩
   obtain ⟨z2, hz2⟩ : ∃ z, mMet (l.take i) o.field = z := ⟨_, rfl⟩
   rw [hz1] at hA hB hst
   rw [hz2] at cm hst
   obtain ⟨K, hK⟩ : ∃ K, oxmL (l.take i) = K := ⟨_, rfl⟩
   rw [hK] at cm hp1 hcl hln
   clear hz1 hz2 hK ho hi hp2
   repeat' (first | apply WK.s | apply WK.b | apply WK.k | refine WK.cT rfl ?_ | (refine hQ.h _ _ ?_; clear hQ hA) | (refine WK.rH Tryz.ntmps85 (by kernel_rfl) ?_; intro A hA Q hQ; simp [*]))
   refine WK.lI (fun n => n) (fun j : Nat => (⟨(upd (upd (upd (upd J 0 (.sl false l.length (oxmL l))) 2 (.ptr 0 0)) 3 (.int .i64 i)) 4 (.int .i64 j)), (upd B0 0 (.var [.junk, .junk, .junk])), 0⟩ : St)) (fun j => j ≤ i ∧ ∀ k, k < j → ((nth l k).field == o.field) = false) (fun j => i - j) (0) (by repeat (first | exact TmW.nil | refine TmW.upd ?_ (by simp (maxDischargeDepth := 120)))) (by repeat (first | exact BxW.nil | refine BxW.upd ?_ (by simp (maxDischargeDepth := 120)))) InjW.id (⟨by omega, by simp⟩) (fun j hj IHj => ?_)
   by_cases g1 : j < i
   · have k1 := oxm_get0 l j (by omega)
     have g6 : IntKind.i64.wrap ((j : Int) + 1) = j + 1 := wrap_i64 (by omega) (by omega)
     have g2 : j < l.length := by omega
     cases h5 : (nth l j).field == o.field
     · clear hA hB hst b10 b9 cm
       repeat' (first | apply WK.s | apply WK.b | apply WK.n | apply WK.k | refine WK.cT rfl ?_ | refine WK.cF rfl ?_ | (refine hQ.h _ _ ?_; clear hQ hA) | (refine WK.rH Tryz.ntmps85 (by kernel_rfl) ?_; intro A hA Q hQ; simp [*]) | (refine WK.rX (by kernel_rfl) Tryz.ntmps85 (by kernel_rfl) ?_; intro A hA Q hQ; simp [*]) | (refine hQ.h _ _ _ (by decide +kernel) ?_; clear hQ hA))
       refine WK.next (fun n => n) (IHj (j + 1) (⟨by omega, fun k hk => by by_cases h7 : k = j; (subst h7; exact h5); exact hj.2 k (by omega)⟩) (by first | omega | (dsimp only; omega))) (by repeat (first | exact TmW.nil | refine TmW.upd ?_ (by simp (maxDischargeDepth := 120)))) (by repeat (first | exact BxW.nil | refine BxW.upd ?_ (by simp (maxDischargeDepth := 120)))) InjW.id
     · have e := hB j g1 h5
       subst e
       rw [if_pos rfl] at hst
       rw [hst]
       clear hA hB b9 cm
       repeat' (first | apply WK.s | apply WK.b | apply WK.k | refine WK.cT rfl ?_ | (refine hQ.h _ _ ?_; clear hQ hA) | (refine WK.rH Tryz.ntmps85 (by kernel_rfl) ?_; intro A hA Q hQ; simp [mF, gF, *]) | (refine WK.rX (by kernel_rfl) Tryz.ntmps85 (by kernel_rfl) ?_; intro A hA Q hQ; simp [mF, gF, *]) | (refine hQ.h _ _ _ (by decide +kernel) ?_; clear hQ hA) | (refine RunQ.k rfl rfl rfl rfl rfl ?_ (b10) ?_ ?_ <;> simp (maxDischargeDepth := 120) [mF, gF, *] <;> refine ⟨?_⟩) | (refine WK.t Tryz.func85 ?_ ?_ <;> simp (maxDischargeDepth := 120) [Tryz.results85, mF, gF, *]))
   · have e := hA fun k hk => hj.2 k (by omega)
     subst e
     rw [if_neg (by simp)] at hst
     clear hA hB b10
     cases z2
     case false =>
       rw [if_pos rfl] at hst
       rw [hst]
       repeat' (first | apply WK.s | refine WK.exit rfl ?_ | refine WK.cT rfl ?_ | refine WK.cF rfl ?_ | (refine hQ.h _ _ ?_; clear hQ hA) | (refine WK.rH Tryz.ntmps85 (by kernel_rfl) ?_; intro A hA Q hQ; simp [mF, gF, *]) | (refine WK.rX (by kernel_rfl) Tryz.ntmps85 (by kernel_rfl) ?_; intro A hA Q hQ; simp [mF, gF, *]) | (refine hQ.h _ _ _ (by decide +kernel) ?_; clear hQ hA) | (refine RunQ.k rfl rfl rfl rfl rfl ?_ (b9) ?_ ?_ <;> simp (maxDischargeDepth := 120) [mF, gF, *] <;> refine ⟨?_⟩) | (refine RunX.k rfl rfl rfl rfl ?_ (cm) ?_ ?_ <;> simp (maxDischargeDepth := 120) [mF, gF, *] <;> refine ⟨?_⟩) | (refine WK.t Tryz.func85 ?_ ?_ <;> simp (maxDischargeDepth := 120) [Tryz.results85, mF, gF, *]))
     rw [if_neg (by simp)] at hst
     clear b9
     repeat' (first | apply WK.s | apply WK.n | apply WK.k | refine WK.exit rfl ?_ | refine WK.cF rfl ?_ | (refine hQ.h _ _ ?_; clear hQ hA) | (refine WK.rH Tryz.ntmps85 (by kernel_rfl) ?_; intro A hA Q hQ; simp [*]) | (refine WK.rX (by kernel_rfl) Tryz.ntmps85 (by kernel_rfl) ?_; intro A hA Q hQ; simp [*]) | (refine hQ.h _ _ _ (by decide +kernel) ?_; clear hQ hA) | (refine RunX.k rfl rfl rfl rfl ?_ (cm) ?_ ?_ <;> simp (maxDischargeDepth := 120) [*] <;> refine ⟨?_⟩))
     refine WK.next (fun n => n) (IH (i + 1) (⟨by omega, hst⟩) (by first | omega | (dsimp only; omega))) (by repeat (first | exact TmW.nil | refine TmW.upd ?_ (by simp (maxDischargeDepth := 120)))) (by repeat (first | exact BxW.nil | refine BxW.upd ?_ (by simp (maxDischargeDepth := 120)))) InjW.id
 · have hst := hi.2
   rw [show i = l.length by omega, mCheck_end] at hst
   rw [hst]
   clear b10 b9
   repeat' (first | apply WK.s | refine WK.exit rfl ?_ | refine WK.cF rfl ?_ | (refine hQ.h _ _ ?_; clear hQ hA) | (refine WK.rH Tryz.ntmps85 (by kernel_rfl) ?_; intro A hA Q hQ; simp [mF, gF, *]) | (refine WK.t Tryz.func85 ?_ ?_ <;> simp (maxDischargeDepth := 120) [Tryz.results85, mF, gF, *]))

theorem mpad_c (n : Nat) (h : n < 1000000000) : FnP Tryz.prog 132 [.int .i64 n] (.int .i64 (mPad n : Nat)) := by
 have e := mPad_bit n h
 have w : IntKind.i64.wrap ((n : Int) + 7) = n + 7 := wrap_i64 (by omega) (by omega)
 rw [w] at e
 refine FnP.i Tryz.func132 rfl rfl fun G w => ?_
 repeat' (first | apply WK.s | (refine hQ.h _ _ ?_; clear hQ hA) | (refine WK.rH Tryz.ntmps132 (by kernel_rfl) ?_; intro A hA Q hQ; simp [*]) | (refine WK.t Tryz.func132 ?_ ?_ <;> simp (maxDischargeDepth := 120) [Tryz.results132, *]))
def mHd : List (BitVec 8) := [0#8, 1#8, 0#8, 0#8]
def mAcc (l : List Oxm) : List (BitVec 8) := mHd ++ rwFlat oBytes l
theorem mAcc_succ {l : List Oxm} {i : Nat} (h : i < l.length) : mAcc (l.take (i + 1)) = mAcc (l.take i) ++ oBytes (nth l i) := by
 unfold mAcc rwFlat; rw [take_nth h, List.flatMap_append, List.append_assoc]; simp
theorem oFlat_len (l : List Oxm) : (rwFlat oBytes l).length ≤ l.length * 36 := by
 induction l with
 | nil => simp [rwFlat]
 | cons x l ih =>
   have h1 : (oBytes x).length ≤ 36 := oEnc_len x
   have e : rwFlat oBytes (x :: l) = oBytes x ++ rwFlat oBytes l := rfl
   rw [e, List.length_append, List.length_cons]; omega
theorem oBytes_of {o : Oxm} (h : Oxm.right o = true) : oEnc o = (oBytes o, 0) := by unfold oBytes oEnc; rw [if_pos h]
theorem oEnc_wrong {o : Oxm} (h : Oxm.right o = false) : oEnc o = ([], 1) := by unfold oEnc; rw [if_neg (by rw [h]; simp)]
theorem mFit_of {l : List Oxm} (hc : mCheck l = none) (h : ∀ j, j < l.length → Oxm.right (nth l j) = true) : mFit l = true := by
 unfold mFit
 rw [hc, Bool.and_eq_true, List.all_eq_true]
 refine ⟨rfl, fun x hx => ?_⟩
 obtain ⟨j, hj, rfl⟩ := mem_nth hx
 exact h j hj
theorem mEnc_wrong {l : List Oxm} {i : Nat} (h : i < l.length) (hr : Oxm.right (nth l i) = false) : mEnc l = ([], 1) := mEnc_bad1 fun hh => by
 have := (mFit_facts hh.1).2 _ (nth_mem h)
 rw [hr] at this; cases this
theorem mEnc_check {l : List Oxm} {c : Int} (h : mCheck l = some c) : mEnc l = ([], 1) := mEnc_bad1 fun hh => by
 have := (mFit_facts hh.1).1
 rw [h] at this; cases this
theorem mEnc_fit {l : List Oxm} (h : mFit l = true) : mEnc l = if (rwFlat oBytes l).length ≤ 1000 then (mWhole l, 0) else ([], 1) := by
 unfold mEnc
 by_cases hh : (rwFlat oBytes l).length ≤ 1000
 · rw [if_pos hh, if_pos ⟨h, hh⟩]
 · rw [if_neg hh, if_neg fun x => hh x.2]
theorem splice_len (F : List (BitVec 8)) (n : Int) : splice (byL (mHd ++ F)) 2 (byL (beN n 2)) = byL (beN 1 2 ++ (beN n 2 ++ F)) := by
 have e : byL (mHd ++ F) = byL (beN 1 2) ++ (byL [0#8, 0#8] ++ byL F) := by rw [← byL_app, ← byL_app]; rfl
 unfold splice
 rw [e, byL_len, beN_len, List.take_left' (by simp [beN_len]), ← List.append_assoc (byL (beN 1 2)), List.drop_left' (by simp [beN_len]), byL_app, byL_app, List.append_assoc]
theorem mEnc_len1 (l : List Oxm) : (mAcc l).length = 4 + (rwFlat oBytes l).length := by unfold mAcc mHd; simp; omega
set_option maxHeartbeats 4000000 in
theorem menc_c (l : List Oxm) (hl : l.length ≤ 10000) : FnT Tryz.prog 236 [oxmS l] (mEnc l).1.length 1 (byL (mEnc l).1) [.int .i64 (mEnc l).2] := by
 have ck := mcheck_c l (by omega)
 unfold oxmS at *
 cases hc : mCheck l with
 | some c =>
   have e := mEnc_check hc
   rw [hc] at ck
   rw [e]
   clear e hc
   refine FnT.intro Tryz.func236 rfl rfl fun G w => ?_
   repeat' (first | apply WK.s | refine WK.cT rfl ?_ | (refine hQ.h _ _ ?_; clear hQ hA) | (refine WK.rH Tryz.ntmps236 (by kernel_rfl) ?_; intro A hA Q hQ; simp [mF, gF, *]) | (refine RunQ.k rfl rfl rfl rfl rfl ?_ (ck) ?_ ?_ <;> simp (maxDischargeDepth := 120) [mF, gF, *] <;> refine ⟨?_⟩))
   refine WK.ghost (Ghost.own 2 900 1 rfl rfl) ?_
   refine WK.retT2 Tryz.func236 ?_ ?_ ?_ <;> simp (maxDischargeDepth := 120) [Tryz.results236, b0_]
 | none =>
 rw [hc] at ck
 have c1 := nput_c [] 1 2 Sz2 (by simp)
 have c2 := nput_c [0#8, 1#8] 0 2 Sz2 (by simp)
 rw [show putN [] 1 2 = [0#8, 1#8] from rfl] at c1
 rw [show putN [0#8, 1#8] 0 2 = mHd from rfl] at c2
 unfold byS at c1 c2
 rw [b0_] at c1
 simp only [List.length_cons, List.length_nil, Nat.zero_add, Nat.reduceAdd, show mHd.length = 4 from rfl] at c1 c2
 have hB2 : (byL [0#8, 1#8]).take 2 = byL [0#8, 1#8] := rfl
 have hA0 : mAcc [] = mHd := by unfold mAcc; simp [rwFlat]
 have hA4 : mHd.length = 4 := rfl
 refine FnT.intro Tryz.func236 rfl rfl fun G w => ?_
 repeat' (first | apply WK.s | apply WK.b | apply WK.k | refine WK.cF rfl ?_ | (refine hQ.h _ _ ?_; clear hQ hA) | (refine WK.rH Tryz.ntmps236 (by kernel_rfl) ?_; intro A hA Q hQ; simp [mF, gF, *]) | (refine RunQ.callO 900 rfl rfl rfl rfl rfl ?_ (c1) ?_ ?_ ?_ ?_; (focus (simp (maxDischargeDepth := 120) [mF, gF, *]; done)); (focus (simp [mF, gF, *]; done)); (focus (simp [mF, gF, *]; done)); (focus (simp [mF, gF, *]; done)); refine RunQ.e ?_; simp [mF, gF, *]) | (refine RunQ.callOz 901 12 1 rfl rfl rfl rfl rfl rfl rfl ?_ (c2) ?_ ?_ (by simp) (by decide) ?_; (focus (simp (maxDischargeDepth := 120) [mF, gF, *]; done)); (focus (simp [mF, gF, *]; done)); (focus (simp [mF, gF, *]; done)); refine RunQ.e ?_; simp [mF, gF, *]) | (refine RunQ.k rfl rfl rfl rfl rfl ?_ (ck) ?_ ?_ <;> simp (maxDischargeDepth := 120) [mF, gF, *] <;> refine ⟨?_⟩))
 refine WK.lI (fun n => if n = 1 then 901 else n) (fun i : Nat => (⟨(upd (upd (upd (upd J 4 (.msl 1 0 (mAcc (l.take i)).length)) 14 (.sl false l.length (oxmL l))) 15 (.int .i64 l.length)) 16 (.int .i64 i)), (upd B0 1 (.buf 1 (byL (mAcc (l.take i))))), 0⟩ : St)) (fun i => i ≤ l.length ∧ ∀ j, j < i → Oxm.right (nth l j) = true) (fun i => l.length - i) (0) (by repeat (first | exact TmW.nil | refine TmW.upd ?_ (by simp (maxDischargeDepth := 120) [hA0, hA4]))) (by repeat (first | exact BxW.nil | refine BxW.upd ?_ (by simp (maxDischargeDepth := 120) [hA0, hA4]))) (by first | exact InjW.id | exact InjW.nil | exact InjW.one | exact InjW.two (by simp) | exact InjW.three (by simp) (by simp) (by simp)) (⟨by omega, by simp⟩) (fun i hi IH => ?_)
 clear c1 c2 hB2 hA0 hA4 ck
 have hal := mEnc_len1 (l.take i)
 have hfl := oFlat_len (l.take i)
 have htl : (l.take i).length ≤ i := by rw [List.length_take]; omega
 have hil := hi.1
 by_cases h1 : i < l.length
 · have g4 := oxm_sub l i h1
   have g3 : 6 ≤ l.length * 6 - i * 6 := by omega
   have g6 : IntKind.i64.wrap ((i : Int) + 1) = i + 1 := wrap_i64 (by omega) (by omega)
   have p := oenc_c (nth l i)
   have hs := mAcc_succ h1
   have hw : Oxm.right (nth l i) = false → mEnc l = ([], 1) := mEnc_wrong h1
   have hr : Oxm.right (nth l i) = true → ∀ j, j < i + 1 → Oxm.right (nth l j) = true := fun hr j hj => by
     by_cases h7 : j = i
     · subst h7; exact hr
     · exact hi.2 j (by omega)
   have hol : (oBytes (nth l i)).length ≤ 36 := oEnc_len _
   have hoe : Oxm.right (nth l i) = true → oEnc (nth l i) = (oBytes (nth l i), 0) := oBytes_of
   have hob : Oxm.right (nth l i) = false → oEnc (nth l i) = ([], 1) := oEnc_wrong
   obtain ⟨o, ho⟩ : ∃ o, nth l i = o := ⟨_, rfl⟩
   rw [ho] at g4 p hs hw hr hol hoe hob
   obtain ⟨F, hF⟩ : ∃ F, mAcc (l.take i) = F := ⟨_, rfl⟩
   rw [hF] at hal hs ⊢
   unfold Oxm.enc at g4 p
   clear ho hF hi
   cases hrt : Oxm.right o
   · rw [hw hrt]
     rw [hob hrt] at p
     unfold byS at p
     clear hw hr hoe hob hs hrt
     repeat' (first | apply WK.s | apply WK.b | apply WK.k | refine WK.cT rfl ?_ | (refine hQ.h _ _ ?_; clear hQ hA) | (refine WK.rH Tryz.ntmps236 (by kernel_rfl) ?_; intro A hA Q hQ; simp [bne, *]) | (refine RunQ.k rfl rfl rfl rfl rfl ?_ (p) ?_ ?_ <;> simp (maxDischargeDepth := 120) [bne, *] <;> refine ⟨?_⟩))
     refine WK.ghost (Ghost.own 2 902 1 rfl rfl) ?_
     refine WK.retT2 Tryz.func236 ?_ ?_ ?_ <;> simp (maxDischargeDepth := 120) [Tryz.results236, b0_]
   · rw [hoe hrt] at p
     have hr2 := hr hrt
     obtain ⟨B, hB⟩ : ∃ B, oBytes o = B := ⟨_, rfl⟩
     rw [hB] at p hs hol
     have hs3 : byL F ++ byL B = byL (mAcc (l.take (i + 1))) := by rw [hs, byL_app]
     have hs4 : (mAcc (l.take (i + 1))).length = F.length + B.length := by rw [hs, List.length_append]
     have hbd : F.length + B.length ≤ 140737488355328 := by omega
     have hfu := by_full B B.length rfl
     unfold byS at p
     clear hw hr hoe hob hs hrt hB hal hfl
     repeat' (first | apply WK.s | apply WK.b | apply WK.n | apply WK.k | refine WK.cT rfl ?_ | refine WK.cF rfl ?_ | (refine hQ.h _ _ ?_; clear hQ hA) | (refine WK.rH Tryz.ntmps236 (by kernel_rfl) ?_; intro A hA Q hQ; simp [bne, *]) | (refine RunQ.append 902 appByte rfl rfl rfl rfl rfl rfl rfl rfl rfl ?_ ?_ ?_ ?_ ?_; (focus (first | omega | (simp [bne, *]; done); done)); (focus (first | omega | (simp [bne, *]; done); done)); (focus (first | omega | (simp [bne, *]; done); done)); (focus (first | omega | (simp [bne, *]; done); done)); refine RunQ.e ?_; simp [bne, *]) | (refine RunQ.k rfl rfl rfl rfl rfl ?_ (p) ?_ ?_ <;> simp (maxDischargeDepth := 120) [bne, *] <;> refine ⟨?_⟩))
     refine WK.next (fun n => if n = 1 then 902 else n) (IH (i + 1) (⟨by omega, hr2⟩) (by first | omega | (dsimp only; omega))) (by repeat (first | exact TmW.nil | refine TmW.upd ?_ (by simp (maxDischargeDepth := 120) [hs3, hs4]))) (by repeat (first | exact BxW.nil | refine BxW.upd ?_ (by simp (maxDischargeDepth := 120) [hs3, hs4]))) (by first | exact InjW.id | exact InjW.nil | exact InjW.one | exact InjW.two (by simp) | exact InjW.three (by simp) (by simp) (by simp))
 · have hT : l.take i = l := List.take_of_length_le (by omega)
   have hfit := mFit_of hc (fun j hj => hi.2 j (by omega))
   have hdef := mEnc_fit hfit
   have hwl := mWhole_len l
   rw [hT] at hal hfl ⊢
   have hX : mAcc l = mHd ++ rwFlat oBytes l := rfl
   have hW : mWhole l = beN 1 2 ++ (beN (4 + (rwFlat oBytes l).length : Nat) 2 ++ (rwFlat oBytes l ++ List.replicate (mPad (4 + (rwFlat oBytes l).length) - (4 + (rwFlat oBytes l).length)) 0#8)) := rfl
   obtain ⟨F, hF⟩ : ∃ F, rwFlat oBytes l = F := ⟨_, rfl⟩
   rw [hF] at hdef hal hfl hX hwl hW
   by_cases h6 : F.length ≤ 1000
   · rw [if_pos h6] at hdef
     have hp := mPad_ge (4 + F.length)
     have hm := mpad_c (4 + F.length) (by omega)
     have q := nputP_c [] ((4 + F.length : Nat) : Int) 2 Sz2 (by simp)
     rw [putN_beN (numOk2 (by omega)), List.nil_append] at q
     have hsp := splice_len F ((4 + F.length : Nat) : Int)
     rw [← hX] at hsp
     have hYl : (beN 1 2 ++ (beN ((4 + F.length : Nat) : Int) 2 ++ F)).length = 4 + F.length := by simp [beN_len]; omega
     have hWY : mWhole l = (beN 1 2 ++ (beN ((4 + F.length : Nat) : Int) 2 ++ F)) ++ List.replicate (mPad (4 + F.length) - (4 + F.length)) 0#8 := by rw [hW]; simp only [List.append_assoc]
     have hlast : byL (beN 1 2 ++ (beN ((4 + F.length : Nat) : Int) 2 ++ F)) ++ List.replicate (mPad (4 + F.length) - (4 + F.length)) (AV.int .u8 0) = byL (mWhole l) := by rw [hWY, byL_rep, ← byL_app]
     obtain ⟨Y, hY⟩ : ∃ Y, beN 1 2 ++ (beN ((4 + F.length : Nat) : Int) 2 ++ F) = Y := ⟨_, rfl⟩
     obtain ⟨B, hB⟩ : ∃ B, beN ((4 + F.length : Nat) : Int) 2 = B := ⟨_, rfl⟩
     have hBl : B.length = 2 := by rw [← hB, beN_len]
     rw [hY] at hsp hYl hlast
     rw [hB] at q hsp
     obtain ⟨Z, hZ⟩ : ∃ Z, mWhole l = Z := ⟨_, rfl⟩
     rw [hZ] at hlast hdef hwl
     obtain ⟨A, hA⟩ : ∃ A, mAcc l = A := ⟨_, rfl⟩
     rw [hA] at hal hsp ⊢
     obtain ⟨m, hmm⟩ : ∃ m, 4 + F.length = m := ⟨_, rfl⟩
     rw [hmm] at hal hp hm q hwl hYl hlast
     rw [hdef]
     simp only
     rw [hal, hwl]
     unfold byS at q
     rw [hBl, b0_] at q
     have hm4 : m ≤ 1004 := by omega
     have hm2 : 2 ≤ m := by omega
     have hm2' : (2 : Int) ≤ m := by omega
     have hm3 : ¬ (1004 : Int) < m := by omega
     have hm5 : 2 < m := by omega
     have hm8 : 2 ≤ m - 2 := by omega
     have hAb : (byL A).length = m := by rw [byL_len, hal]
     have hBb : (byL B).length = 2 := by rw [byL_len, hBl]
     unfold splice at hsp
     rw [hBb, List.append_assoc] at hsp
     simp only [Nat.reduceAdd] at hsp
     have w1 : IntKind.i64.wrap ((mPad m : Int) - m) = ((mPad m - m : Nat) : Int) := by rw [wrap_i64 (by omega) (by omega)]; omega
     have hm6 : m + (mPad m - m) = mPad m := by omega
     have hm7 : mPad m ≤ 140737488355328 := by omega
     clear hdef hW hX hWY hF hY hB hZ hA hmm hi hc hfit hT hfl hil
     repeat' (first | apply WK.s | apply WK.k | refine WK.exit rfl ?_ | refine WK.cF rfl ?_ | (refine hQ.h _ _ ?_; clear hQ hA) | (refine WK.rH (id := 0) Tryz.ntmps236 (by kernel_rfl) ?_; intro A hA Q hQ; simp [*]) | (refine WK.rH (id := 1) Tryz.ntmps236 (by kernel_rfl) ?_; intro A hA Q hQ; simp [*]) | (refine WK.rH (id := 2) Tryz.ntmps236 (by kernel_rfl) ?_; intro A hA Q hQ; simp [*]) | (refine WK.rH (id := 3) Tryz.ntmps236 (by kernel_rfl) ?_; intro A hA Q hQ; simp [*]) | (refine WK.rH (id := 4) Tryz.ntmps236 (by kernel_rfl) ?_; intro A hA Q hQ; simp [*]) | (refine WK.rH (id := 5) Tryz.ntmps236 (by kernel_rfl) ?_; intro A hA Q hQ; simp [*]) | (refine WK.rH (id := 6) Tryz.ntmps236 (by kernel_rfl) ?_; intro A hA Q hQ; simp [*]) | (refine WK.rH (id := 7) Tryz.ntmps236 (by kernel_rfl) ?_; intro A hA Q hQ; simp [*]) | (refine WK.rH (id := 8) Tryz.ntmps236 (by kernel_rfl) ?_; intro A hA Q hQ; simp [*]) | (refine WK.rH (id := 9) Tryz.ntmps236 (by kernel_rfl) ?_; intro A hA Q hQ; simp [*]) | (refine WK.rH (id := 10) Tryz.ntmps236 (by kernel_rfl) ?_; intro A hA Q hQ; simp [*]) | (refine WK.rH (id := 11) Tryz.ntmps236 (by kernel_rfl) ?_; intro A hA Q hQ; simp [*]) | (refine WK.rH (id := 12) Tryz.ntmps236 (by kernel_rfl) ?_; intro A hA Q hQ; simp [*]) | (refine WK.rH (id := 13) Tryz.ntmps236 (by kernel_rfl) ?_; intro A hA Q hQ; simp [*]))
     repeat' (first | apply WK.s | (refine hQ.h _ _ ?_; clear hQ hA) | (refine WK.rH Tryz.ntmps236 (by kernel_rfl) ?_; intro A hA Q hQ; simp [*]) | (refine WK.rX (by kernel_rfl) Tryz.ntmps236 (by kernel_rfl) ?_; intro A hA Q hQ; simp [*]) | (refine hQ.h _ _ _ (by decide +kernel) ?_; clear hQ hA) | (refine RunX.slOwn (a := 2) (b := m) appByte rfl rfl rfl rfl ?_ ?_ ?_; (focus (simp [boundsA, intA, *]; done)); (focus (first | exact .inr rfl | (left; omega); done)); refine RunX.e ?_; simp [*]) | (refine RunX.copy appByte rfl rfl rfl rfl rfl rfl rfl rfl ?_ ?_ ?_ ?_ ?_; (focus (first | omega | (simp [*]; done); done)); (focus (first | omega | (simp [*]; done); done)); (focus (first | omega | (simp [*]; done); done)); (focus (first | omega | (simp [*]; done); done)); refine RunX.e ?_; simp [*]) | (refine RunQ.appendZ (m := (mPad m - m)) (kk := .i64) (zv := .int .u8 0) 905 appByte rfl rfl rfl rfl (by simp) (by simp) rfl ?_ rfl rfl rfl ?_ ?_ ?_ ?_; (focus (simp (maxDischargeDepth := 120) [*]; done)); (focus (first | omega | (simp [*]; done); done)); (focus (first | omega | (simp [*]; done); done)); (focus (simp [*]; done)); refine RunQ.e ?_; simp [*]) | (refine RunQ.k rfl rfl rfl rfl rfl ?_ (hm) ?_ ?_ <;> simp (maxDischargeDepth := 120) [*] <;> refine ⟨?_⟩) | (refine RunX.k rfl rfl rfl rfl ?_ (q) ?_ ?_ <;> simp (maxDischargeDepth := 120) [*] <;> refine ⟨?_⟩) | (refine WK.retT2 Tryz.func236 ?_ ?_ ?_ <;> simp (maxDischargeDepth := 120) [Tryz.results236, *]))
   · rw [if_neg h6] at hdef
     rw [hdef]
     have hm3 : (1004 : Int) < (mAcc l).length := by omega
     obtain ⟨A, hA⟩ : ∃ A, mAcc l = A := ⟨_, rfl⟩
     rw [hA] at hm3 ⊢
     clear hdef hW hX hF hi hc hfit hT hfl hil hal hA
     repeat' (first | apply WK.s | refine WK.exit rfl ?_ | refine WK.cT rfl ?_ | refine WK.cF rfl ?_ | (refine hQ.h _ _ ?_; clear hQ hA) | (refine WK.rH Tryz.ntmps236 (by kernel_rfl) ?_; intro A hA Q hQ; simp [*]))
     refine WK.ghost (Ghost.own 2 902 1 rfl rfl) ?_
     refine WK.retT2 Tryz.func236 ?_ ?_ ?_ <;> simp (maxDischargeDepth := 120) [Tryz.results236, b0_]

def mVal (b : List (BitVec 8)) : Nat := valN ((b.drop 2).take 2)
def mKind (b : List (BitVec 8)) : Nat := valN ((b.drop 0).take 2)
def mHead (b : List (BitVec 8)) : Nat × Option Int :=
 if b.length < 4 then (0, some 1) else if mVal b < 4 ∨ b.length < mPad (mVal b) then (0, some 1) else if ¬ mKind b = 1 then (0, some 0) else if 1004 < mVal b then (0, some 1) else (mVal b, none)
def mBody (b : List (BitVec 8)) (n : Nat) : List Oxm × Nat × Option (Int × Int) :=
 match (rwDec oRd ((b.drop 4).take (n - 4))).2 with
 | some c => ([], 0, some c)
 | none => match mCheck (rwDec oRd ((b.drop 4).take (n - 4))).1 with
   | some c => ([], 0, some (4, c))
   | none => if allZ ((b.drop n).take (mPad n - n)) = false then ([], 0, some (4, 1)) else ((rwDec oRd ((b.drop 4).take (n - 4))).1, mPad n, none)
theorem mDec_eq (b : List (BitVec 8)) : mDec b = match (mHead b).2 with | some c => ([], 0, some (4, c)) | none => mBody b (mHead b).1 := by
 unfold mDec mHead
 by_cases h1 : b.length < 4
 · rw [if_pos h1, if_pos h1]
 rw [if_neg h1, if_neg h1]
 show (if mVal b < 4 ∨ b.length < mPad (mVal b) then _ else if ¬ mKind b = 1 then _ else if 1004 < mVal b then _ else mBody b (mVal b)) = _
 by_cases h2 : mVal b < 4 ∨ b.length < mPad (mVal b)
 · rw [if_pos h2, if_pos h2]
 rw [if_neg h2, if_neg h2]
 by_cases h3 : ¬ mKind b = 1
 · rw [if_pos h3, if_pos h3]
 rw [if_neg h3, if_neg h3]
 by_cases h4 : 1004 < mVal b
 · rw [if_pos h4, if_pos h4]
 · rw [if_neg h4, if_neg h4]
theorem mHead_bad {b : List (BitVec 8)} {c : Int} (h : (mHead b).2 = some c) : (mHead b).1 = 0 := by
 unfold mHead at *
 split
 · rfl
 split
 · rfl
 split
 · rfl
 split
 · rfl
 · rename_i h1 h2 h3 h4
   rw [if_neg h1, if_neg h2, if_neg h3, if_neg h4] at h; cases h
theorem mHead_good {b : List (BitVec 8)} (h : (mHead b).2 = none) : 4 ≤ (mHead b).1 ∧ (mHead b).1 ≤ 1004 ∧ mPad (mHead b).1 ≤ b.length := by
 unfold mHead at *
 split at h
 · cases h
 rename_i h1
 rw [if_neg h1]
 split at h
 · cases h
 rename_i h2
 rw [if_neg h2]
 split at h
 · cases h
 rename_i h3
 rw [if_neg h3]
 split at h
 · cases h
 rename_i h4
 rw [if_neg h4]
 simp only
 omega
set_option maxHeartbeats 4000000 in
theorem mhead_c (b : List (BitVec 8)) (hb : b.length ≤ 1000000) : FnP Tryz.prog 128 [byS b] (.tup [.int .i64 (mHead b).1, .agg (mF (mHead b).2)]) := by
 have g0 := nget_c b 0 2 Sz2 (by omega) (by omega)
 have g2 := nget_c b 2 2 Sz2 (by omega) (by omega)
 have b1 := mbad_c 1
 have b0 := mbad_c 0
 by_cases h1 : b.length < 4
 · have e : mHead b = (0, some 1) := by unfold mHead; rw [if_pos h1]
   have e2 : getN b 2 2 = (0, 3) := by unfold getN; rw [if_neg (by omega)]
   rw [e]
   rw [e2] at g2
   obtain ⟨q0, hq0⟩ : ∃ q, getN b 0 2 = q := ⟨_, rfl⟩
   rw [hq0] at g0
   unfold byS at *
   clear e e2 hq0 b0
   refine FnP.i Tryz.func128 rfl rfl fun G w => ?_
   repeat' (first | apply WK.s | apply WK.b | refine WK.cT rfl ?_ | (refine hQ.h _ _ ?_; clear hQ hA) | (refine WK.rH Tryz.ntmps128 (by kernel_rfl) ?_; intro A hA Q hQ; simp [mF, gF, bne, *]) | (refine RunQ.g rfl (by rw [hA.h]; rfl) ?_; simp [mF, gF, bne, *]) | (refine RunQ.k rfl rfl rfl rfl rfl ?_ (g0) ?_ ?_ <;> simp (maxDischargeDepth := 120) [mF, gF, bne, *] <;> refine ⟨?_⟩) | (refine RunQ.k rfl rfl rfl rfl rfl ?_ (g2) ?_ ?_ <;> simp (maxDischargeDepth := 120) [mF, gF, bne, *] <;> refine ⟨?_⟩) | (refine RunQ.k rfl rfl rfl rfl rfl ?_ (b1) ?_ ?_ <;> simp (maxDischargeDepth := 120) [mF, gF, bne, *] <;> refine ⟨?_⟩) | (refine WK.t Tryz.func128 ?_ ?_ <;> simp (maxDischargeDepth := 120) [Tryz.results128, mF, gF, bne, *]))
 have e0 : getN b 0 2 = (((mKind b : Nat) : Int), 0) := getN_val (by omega)
 have e2 : getN b 2 2 = (((mVal b : Nat) : Int), 0) := getN_val (by omega)
 have hv : mVal b < 65536 := valN_lt 2 _ (by rw [List.length_take, List.length_drop]; omega)
 have hp := mpad_c (mVal b) (by omega)
 have hd : mHead b = if mVal b < 4 ∨ b.length < mPad (mVal b) then (0, some 1) else if ¬ mKind b = 1 then (0, some 0) else if 1004 < mVal b then (0, some 1) else (mVal b, none) := by unfold mHead; rw [if_neg h1]
 rw [e0] at g0
 rw [e2] at g2
 obtain ⟨v, hvv⟩ : ∃ v, mVal b = v := ⟨_, rfl⟩
 obtain ⟨k, hk⟩ : ∃ v, mKind b = v := ⟨_, rfl⟩
 rw [hvv] at g2 hv hp hd
 rw [hk] at g0 hd
 clear hvv hk e0 e2
 unfold byS at *
 by_cases h2 : v < 4
 · have h2' : (v : Int) < 4 := by omega
   rw [if_pos (.inl h2)] at hd
   rw [hd]
   clear hd b0 hp
   refine FnP.i Tryz.func128 rfl rfl fun G w => ?_
   repeat' (first | apply WK.s | apply WK.b | refine WK.cT rfl ?_ | (refine hQ.h _ _ ?_; clear hQ hA) | (refine WK.rH Tryz.ntmps128 (by kernel_rfl) ?_; intro A hA Q hQ; simp [mF, gF, bne, *]) | (refine RunQ.g rfl (by rw [hA.h]; rfl) ?_; simp [mF, gF, bne, *]) | (refine RunQ.k rfl rfl rfl rfl rfl ?_ (g0) ?_ ?_ <;> simp (maxDischargeDepth := 120) [mF, gF, bne, *] <;> refine ⟨?_⟩) | (refine RunQ.k rfl rfl rfl rfl rfl ?_ (g2) ?_ ?_ <;> simp (maxDischargeDepth := 120) [mF, gF, bne, *] <;> refine ⟨?_⟩) | (refine RunQ.k rfl rfl rfl rfl rfl ?_ (b1) ?_ ?_ <;> simp (maxDischargeDepth := 120) [mF, gF, bne, *] <;> refine ⟨?_⟩) | (refine WK.t Tryz.func128 ?_ ?_ <;> simp (maxDischargeDepth := 120) [Tryz.results128, mF, gF, bne, *]))
 have h2' : ¬ (v : Int) < 4 := by omega
 by_cases h3 : b.length < mPad v
 · have h3' : (b.length : Int) < (mPad v : Nat) := by omega
   rw [if_pos (.inr h3)] at hd
   rw [hd]
   clear hd b0
   refine FnP.i Tryz.func128 rfl rfl fun G w => ?_
   repeat' (first | apply WK.s | apply WK.b | refine WK.cT rfl ?_ | (refine hQ.h _ _ ?_; clear hQ hA) | (refine WK.rH Tryz.ntmps128 (by kernel_rfl) ?_; intro A hA Q hQ; simp [mF, gF, bne, *]) | (refine RunQ.g rfl (by rw [hA.h]; rfl) ?_; simp [mF, gF, bne, *]) | (refine RunQ.k rfl rfl rfl rfl rfl ?_ (g0) ?_ ?_ <;> simp (maxDischargeDepth := 120) [mF, gF, bne, *] <;> refine ⟨?_⟩) | (refine RunQ.k rfl rfl rfl rfl rfl ?_ (g2) ?_ ?_ <;> simp (maxDischargeDepth := 120) [mF, gF, bne, *] <;> refine ⟨?_⟩) | (refine RunQ.k rfl rfl rfl rfl rfl ?_ (b1) ?_ ?_ <;> simp (maxDischargeDepth := 120) [mF, gF, bne, *] <;> refine ⟨?_⟩) | (refine RunQW.k rfl rfl rfl rfl ?_ (hp) ?_ ?_ <;> simp (maxDischargeDepth := 120) [mF, gF, bne, *] <;> refine ⟨?_⟩) | (refine WK.t Tryz.func128 ?_ ?_ <;> simp (maxDischargeDepth := 120) [Tryz.results128, mF, gF, bne, *]))
 have h3' : ¬ (b.length : Int) < (mPad v : Nat) := by omega
 rw [if_neg (by omega)] at hd
 by_cases h4 : k = 1
 case neg =>
   have j4 : ((k : Int) == 1) = false := by rw [beq_eq_false_iff_ne]; omega
   rw [if_pos h4] at hd
   rw [hd]
   clear hd b1
   refine FnP.i Tryz.func128 rfl rfl fun G w => ?_
   repeat' (first | apply WK.s | apply WK.b | refine WK.cT rfl ?_ | refine WK.cF rfl ?_ | (refine hQ.h _ _ ?_; clear hQ hA) | (refine WK.rH Tryz.ntmps128 (by kernel_rfl) ?_; intro A hA Q hQ; simp [mF, gF, bne, *]) | (refine RunQ.g rfl (by rw [hA.h]; rfl) ?_; simp [mF, gF, bne, *]) | (refine RunQ.k rfl rfl rfl rfl rfl ?_ (g0) ?_ ?_ <;> simp (maxDischargeDepth := 120) [mF, gF, bne, *] <;> refine ⟨?_⟩) | (refine RunQ.k rfl rfl rfl rfl rfl ?_ (g2) ?_ ?_ <;> simp (maxDischargeDepth := 120) [mF, gF, bne, *] <;> refine ⟨?_⟩) | (refine RunQ.k rfl rfl rfl rfl rfl ?_ (b0) ?_ ?_ <;> simp (maxDischargeDepth := 120) [mF, gF, bne, *] <;> refine ⟨?_⟩) | (refine RunQW.k rfl rfl rfl rfl ?_ (hp) ?_ ?_ <;> simp (maxDischargeDepth := 120) [mF, gF, bne, *] <;> refine ⟨?_⟩) | (refine WK.t Tryz.func128 ?_ ?_ <;> simp (maxDischargeDepth := 120) [Tryz.results128, mF, gF, bne, *]))
 have j4 : ((k : Int) == 1) = true := by rw [beq_iff_eq]; omega
 rw [if_neg (by simpa using h4)] at hd
 clear h4
 by_cases h5 : 1004 < v
 · have h5' : (1004 : Int) < v := by omega
   rw [if_pos h5] at hd
   rw [hd]
   clear hd b0
   refine FnP.i Tryz.func128 rfl rfl fun G w => ?_
   repeat' (first | apply WK.s | apply WK.b | refine WK.cT rfl ?_ | refine WK.cF rfl ?_ | (refine hQ.h _ _ ?_; clear hQ hA) | (refine WK.rH Tryz.ntmps128 (by kernel_rfl) ?_; intro A hA Q hQ; simp [mF, gF, bne, *]) | (refine RunQ.g rfl (by rw [hA.h]; rfl) ?_; simp [mF, gF, bne, *]) | (refine RunQ.k rfl rfl rfl rfl rfl ?_ (g0) ?_ ?_ <;> simp (maxDischargeDepth := 120) [mF, gF, bne, *] <;> refine ⟨?_⟩) | (refine RunQ.k rfl rfl rfl rfl rfl ?_ (g2) ?_ ?_ <;> simp (maxDischargeDepth := 120) [mF, gF, bne, *] <;> refine ⟨?_⟩) | (refine RunQ.k rfl rfl rfl rfl rfl ?_ (b1) ?_ ?_ <;> simp (maxDischargeDepth := 120) [mF, gF, bne, *] <;> refine ⟨?_⟩) | (refine RunQW.k rfl rfl rfl rfl ?_ (hp) ?_ ?_ <;> simp (maxDischargeDepth := 120) [mF, gF, bne, *] <;> refine ⟨?_⟩) | (refine WK.t Tryz.func128 ?_ ?_ <;> simp (maxDischargeDepth := 120) [Tryz.results128, mF, gF, bne, *]))
 · have h5' : ¬ (1004 : Int) < v := by omega
   rw [if_neg h5] at hd
   rw [hd]
   clear hd b0 b1
   refine FnP.i Tryz.func128 rfl rfl fun G w => ?_
   repeat' (first | apply WK.s | apply WK.b | apply WK.n | apply WK.k | refine WK.cF rfl ?_ | (refine hQ.h _ _ ?_; clear hQ hA) | (refine WK.rH Tryz.ntmps128 (by kernel_rfl) ?_; intro A hA Q hQ; simp [mF, gF, bne, *]) | (refine RunQ.g rfl (by rw [hA.h]; rfl) ?_; simp [mF, gF, bne, *]) | (refine RunQ.k rfl rfl rfl rfl rfl ?_ (g0) ?_ ?_ <;> simp (maxDischargeDepth := 120) [mF, gF, bne, *] <;> refine ⟨?_⟩) | (refine RunQ.k rfl rfl rfl rfl rfl ?_ (g2) ?_ ?_ <;> simp (maxDischargeDepth := 120) [mF, gF, bne, *] <;> refine ⟨?_⟩) | (refine RunQW.k rfl rfl rfl rfl ?_ (hp) ?_ ?_ <;> simp (maxDischargeDepth := 120) [mF, gF, bne, *] <;> refine ⟨?_⟩) | (refine WK.t Tryz.func128 ?_ ?_ <;> simp (maxDischargeDepth := 120) [Tryz.results128, mF, gF, bne, *]))
theorem oRd_keeps : RdKeeps oRd 4 := fun b y n h => by
 obtain ⟨_, k, hk, h4, hl, _⟩ := oRd_back h
 exact ⟨k, hk, h4, hl⟩
theorem oRd_eq {b : List (BitVec 8)} {o : Oxm} {n c : Int} (h : oDec b = (o, n, c)) : oRd b = (o, n, if c = 0 then none else some (4, c)) := by unfold oRd; rw [h]
theorem decode1_c (x : BitVec 8) : FnP Tryz.prog 133 [.int .u8 (bI x)] (.bool (!(x == 0#8))) := by
 have e := bI_zero x
 refine FnP.i Tryz.func133 rfl rfl fun G w => ?_
 repeat' (first | apply WK.s | (refine hQ.h _ _ ?_; clear hQ hA) | (refine WK.rH Tryz.ntmps133 (by kernel_rfl) ?_; intro A hA Q hQ; simp [bne, *]) | (refine WK.t Tryz.func133 ?_ ?_ <;> simp (maxDischargeDepth := 120) [Tryz.results133, bne, *]))
theorem app_oxm : AppOk Tryz.prog 23 138 6 48 := ⟨by simp, by simp, by simp, by simp, by simp, by simp, by omega, by omega⟩
theorem oxmL_snoc (l : List Oxm) (x : Oxm) : oxmL l ++ x.enc = oxmL (l ++ [x]) := by unfold oxmL; rw [List.flatMap_append]; simp
set_option maxHeartbeats 4000000 in
theorem mdec_c (b : List (BitVec 8)) (hb : b.length ≤ 1000000) : FnP Tryz.prog 105 [byS b] (.tup [oxmS (mDec b).1, .int .i64 (mDec b).2.1, .agg (gF (mDec b).2.2)]) := by
 have hh := mhead_c b hb
 have hde := mDec_eq b
 unfold oxmS
 cases hq : (mHead b).2 with
 | some c =>
   have h0 := mHead_bad hq
   rw [hq] at hh hde
   rw [h0] at hh
   rw [hde]
   unfold byS at *
   clear hde hq h0
   refine FnP.i Tryz.func105 rfl rfl fun G w => ?_
   repeat' (first | apply WK.s | refine WK.cT rfl ?_ | (refine hQ.h _ _ ?_; clear hQ hA) | (refine WK.rH Tryz.ntmps105 (by kernel_rfl) ?_; intro A hA Q hQ; simp [mF, gF, oN_, *]) | (refine WK.rX (by kernel_rfl) Tryz.ntmps105 (by kernel_rfl) ?_; intro A hA Q hQ; simp [mF, gF, oN_, *]) | (refine hQ.h _ _ _ (by decide +kernel) ?_; clear hQ hA) | (refine RunQ.k rfl rfl rfl rfl rfl ?_ (hh) ?_ ?_ <;> simp (maxDischargeDepth := 120) [mF, gF, oN_, *] <;> refine ⟨?_⟩) | (refine WK.t Tryz.func105 ?_ ?_ <;> simp (maxDischargeDepth := 120) [Tryz.results105, mF, gF, oN_, *]))
 | none =>
 obtain ⟨n4, n1, np⟩ := mHead_good hq
 rw [hq] at hh hde
 obtain ⟨n, hn⟩ : ∃ n, (mHead b).1 = n := ⟨_, rfl⟩
 rw [hn] at hh hde n4 n1 np
 simp only at hde
 have hp := mPad_ge n
 unfold mBody at hde
 have hRl : ((b.drop 4).take (n - 4)).length = n - 4 := by rw [List.length_take, List.length_drop]; omega
 have hRb : ((byL b).drop 4).take (n - 4) = byL ((b.drop 4).take (n - 4)) := by rw [byL_drop, byL_take]
 obtain ⟨R, hR⟩ : ∃ R, (b.drop 4).take (n - 4) = R := ⟨_, rfl⟩
 rw [hR] at hRl hRb hde
 have hst := RwAt.start oRd 4 R
 have u4 : (4 : Int) ≤ n := by omega
 have un : (n : Int) ≤ b.length := by omega
 have un2 : n ≤ b.length := by omega
 have b1 := mbad_c 1
 unfold byS at hh
 clear hn hq hR
 unfold byS
 refine FnP.i Tryz.func105 rfl rfl fun G w => ?_
 repeat' (first | apply WK.s | apply WK.b | apply WK.k | refine WK.cF rfl ?_ | (refine hQ.h _ _ ?_; clear hQ hA) | (refine WK.rH Tryz.ntmps105 (by kernel_rfl) ?_; intro A hA Q hQ; simp [mF, gF, *]) | (refine RunQ.k rfl rfl rfl rfl rfl ?_ (hh) ?_ ?_ <;> simp (maxDischargeDepth := 120) [mF, gF, *] <;> refine ⟨?_⟩))
 refine WK.ghost (Ghost.own 7 900 6 rfl rfl) ?_
 refine WK.lI (fun n => if n = 0 then 2 else if n = 1 then 900 else n) (fun x : Nat × Nat × List Oxm => (⟨(upd (upd (upd (upd (upd J 0 (.sl false b.length (byL b))) 4 (.ptr 0 0)) 5 (.int .i64 n)) 7 (.msl 1 0 x.2.2.length)) 8 (.sl false (R.length - x.2.1) (byL (R.drop x.2.1)))), (upd (upd B0 0 (.var [.junk, .junk, .junk])) 1 (.buf 6 (oxmL x.2.2))), 0⟩ : St)) (fun x => RwAt oRd 4 R x) (fun x => R.length - x.2.1) ((R.length, 0, [])) (by repeat (first | exact TmW.nil | refine TmW.upd ?_ (by simp (maxDischargeDepth := 120) [hRl, oN_]))) (by repeat (first | exact BxW.nil | refine BxW.upd ?_ (by simp (maxDischargeDepth := 120) [hRl, oN_]))) (by first | exact InjW.id | exact InjW.nil | exact InjW.one | exact InjW.two (by simp) | exact InjW.three (by simp) (by simp) (by simp)) (hst) (fun i hi IH => ?_)
 obtain ⟨f, p, acc⟩ := i
 have hle := hi.le
 have hsm := hi.small
 simp only at hle hsm hi ⊢
 clear hh hst hRb
 by_cases h1 : p < R.length
 · have hd := odec_c (R.drop p) (by rw [List.length_drop]; omega)
   obtain ⟨o, k, c, ho⟩ : ∃ o k c, oDec (R.drop p) = (o, k, c) := ⟨_, _, _, rfl⟩
   rw [ho] at hd
   have hrd := oRd_eq ho
   unfold byS at hd
   rw [List.length_drop] at hd
   have hpos : 0 < R.length - p := by omega
   have hpos' : (0 : Int) < ((R.length - p : Nat) : Int) := by omega
   by_cases hc : c = 0
   case neg =>
     rw [if_neg hc] at hrd
     have e := RwAt.bad hi h1 hrd
     rw [e] at hde
     simp only at hde
     rw [hde]
     obtain ⟨L, hL⟩ : ∃ L, R.length - p = L := ⟨_, rfl⟩
     obtain ⟨B, hB⟩ : ∃ B, R.drop p = B := ⟨_, rfl⟩
     rw [hL] at hd hpos hpos' ⊢
     rw [hB] at hd ⊢
     have hfc : oFault c = [.bool true, .int .i64 4, .int .i64 c] := by unfold oFault; rw [if_neg hc]
     rw [hfc] at hd
     unfold Oxm.enc at hd
     clear hde hL hB ho hrd e hi hfc b1
     repeat' (first | apply WK.s | apply WK.b | apply WK.k | refine WK.cT rfl ?_ | (refine hQ.h _ _ ?_; clear hQ hA) | (refine WK.rH Tryz.ntmps105 (by kernel_rfl) ?_; intro A hA Q hQ; simp [gF, oN_, *]) | (refine WK.rX (by kernel_rfl) Tryz.ntmps105 (by kernel_rfl) ?_; intro A hA Q hQ; simp [gF, oN_, *]) | (refine hQ.h _ _ _ (by decide +kernel) ?_; clear hQ hA) | (refine RunQ.k rfl rfl rfl rfl rfl ?_ (hd) ?_ ?_ <;> simp (maxDischargeDepth := 120) [gF, oN_, *] <;> refine ⟨?_⟩) | (refine WK.t Tryz.func105 ?_ ?_ <;> simp (maxDischargeDepth := 120) [Tryz.results105, gF, oN_, *]))
   subst hc
   rw [if_pos rfl] at hrd
   obtain ⟨m, hm, hml, hm0, hn⟩ := RwAt.next (by omega) oRd_keeps hi h1 hrd
   simp only at hml hn
   subst hm
   have hml' : (m : Int) ≤ ((R.length - p : Nat) : Int) := by omega
   have hml2 : m ≤ R.length - p := by omega
   have hdd : ((byL (R.drop p)).drop m).take (R.length - p - m) = byL (R.drop (p + m)) := by
     rw [byL_drop, List.drop_drop]; exact by_full _ _ (by rw [List.length_drop]; omega)
   have hll : R.length - (p + m) = R.length - p - m := by omega
   have hbd : (acc.length + 1) * 48 ≤ 140737488355328 := by omega
   have hsq := oxmL_snoc acc o
   obtain ⟨L, hL⟩ : ∃ L, R.length - p = L := ⟨_, rfl⟩
   obtain ⟨B, hB⟩ : ∃ B, R.drop p = B := ⟨_, rfl⟩
   rw [hL] at hd hpos hpos' hml' hml2 hdd hll ⊢
   rw [hB] at hd hdd ⊢
   have hfc : oFault 0 = [.bool false, .int .i64 0, .int .i64 0] := rfl
   rw [hfc] at hd
   unfold Oxm.enc at hd hsq
   clear hde hL hB ho hrd hi hfc b1
   repeat' (first | apply WK.s | apply WK.b | apply WK.n | apply WK.k | refine WK.cT rfl ?_ | refine WK.cF rfl ?_ | (refine hQ.h _ _ ?_; clear hQ hA) | (refine WK.rH Tryz.ntmps105 (by kernel_rfl) ?_; intro A hA Q hQ; simp [*]) | (refine WK.rX (by kernel_rfl) Tryz.ntmps105 (by kernel_rfl) ?_; intro A hA Q hQ; simp [*]) | (refine hQ.h _ _ _ (by decide +kernel) ?_; clear hQ hA) | (refine RunX.append 902 app_oxm rfl rfl rfl rfl rfl rfl rfl rfl ?_ ?_ ?_ ?_ ?_; (focus (first | omega | (simp [*]; done); done)); (focus (first | omega | (simp [*]; done); done)); (focus (first | omega | (simp [*]; done); done)); (focus (first | omega | (simp [*]; done); done)); refine RunX.e ?_; simp [*]) | (refine RunQ.k rfl rfl rfl rfl rfl ?_ (hd) ?_ ?_ <;> simp (maxDischargeDepth := 120) [*] <;> refine ⟨?_⟩))
   refine WK.next (fun n => if n = 1 then 902 else n) (IH ((f - 1, p + m, acc ++ [o])) (hn) (by first | omega | (dsimp only; omega))) (by repeat (first | exact TmW.nil | refine TmW.upd ?_ (by simp (maxDischargeDepth := 120) [hsq, hll, hdd]))) (by repeat (first | exact BxW.nil | refine BxW.upd ?_ (by simp (maxDischargeDepth := 120) [hsq, hll, hdd]))) (by first | exact InjW.id | exact InjW.nil | exact InjW.one | exact InjW.two (by simp) | exact InjW.three (by simp) (by simp) (by simp))
 · have hstop := RwAt.stop hi h1
   simp only at hstop
   rw [hstop] at hde
   simp only at hde
   have hpos : ¬ 0 < R.length - p := by omega
   have hpos' : ¬ (0 : Int) < ((R.length - p : Nat) : Int) := by omega
   obtain ⟨L, hL⟩ : ∃ L, R.length - p = L := ⟨_, rfl⟩
   rw [hL] at hpos hpos' ⊢
   obtain ⟨B, hB⟩ : ∃ B, R.drop p = B := ⟨_, rfl⟩
   rw [hB]
   have hcl : ClL (oxmL acc) = true := oxmL_cl _
   have hT := oxmL_take acc
   have ck := mcheck_c acc (by omega)
   unfold oxmS at ck
   have hpd := mpad_c n (by omega)
   have hz := containsf_by 133 [] (fun x => !(x == 0#8)) ((b.drop n).take (mPad n - n)) rfl (by rw [List.length_take, List.length_drop]; omega) (fun x _ => decode1_c x)
   have ez : ((b.drop n).take (mPad n - n)).any (fun x => !(x == 0#8)) = !allZ ((b.drop n).take (mPad n - n)) := by unfold allZ; rw [List.any_eq_not_all_not]; simp
   rw [ez] at hz
   have hzl : ((b.drop n).take (mPad n - n)).length = mPad n - n := by rw [List.length_take, List.length_drop]; omega
   have hzb : ((byL b).drop n).take (mPad n - n) = byL ((b.drop n).take (mPad n - n)) := by rw [byL_drop, byL_take]
   obtain ⟨Z, hZ⟩ : ∃ Z, (b.drop n).take (mPad n - n) = Z := ⟨_, rfl⟩
   rw [hZ] at hz hzl hzb hde
   unfold byS at hz
   rw [hzl] at hz
   have v1 : (n : Int) ≤ (mPad n : Nat) := by omega
   have v2 : ((mPad n : Nat) : Int) ≤ b.length := by omega
   have v3 : n ≤ mPad n := by omega
   obtain ⟨q, hqq⟩ : ∃ q, mPad n = q := ⟨_, rfl⟩
   rw [hqq] at hpd hz hzb v1 v2 v3 hde np
   obtain ⟨y, hy⟩ : ∃ y, allZ Z = y := ⟨_, rfl⟩
   rw [hy] at hz hde
   clear hL hB hi hstop hRl hp hzl hZ hqq hy ez
   repeat' (first | apply WK.s | refine WK.exit rfl ?_ | refine WK.cF rfl ?_ | (refine hQ.h _ _ ?_; clear hQ hA) | (refine WK.rH (id := 0) Tryz.ntmps105 (by kernel_rfl) ?_; intro A hA Q hQ; simp [*]) | (refine WK.rH (id := 1) Tryz.ntmps105 (by kernel_rfl) ?_; intro A hA Q hQ; simp [*]) | (refine WK.rH (id := 2) Tryz.ntmps105 (by kernel_rfl) ?_; intro A hA Q hQ; simp [*]) | (refine WK.rH (id := 3) Tryz.ntmps105 (by kernel_rfl) ?_; intro A hA Q hQ; simp [*]) | (refine WK.rH (id := 4) Tryz.ntmps105 (by kernel_rfl) ?_; intro A hA Q hQ; simp [*]) | (refine WK.rH (id := 5) Tryz.ntmps105 (by kernel_rfl) ?_; intro A hA Q hQ; simp [*]) | (refine WK.rH (id := 6) Tryz.ntmps105 (by kernel_rfl) ?_; intro A hA Q hQ; simp [*]))
   refine WK.ghost (Ghost.frzSl 7 6 rfl rfl) ?_
   cases hck : mCheck acc with
   | some c =>
     rw [hck] at ck hde
     simp only at hde
     rw [hde]
     clear hde hck hz hpd b1
     repeat' (first | apply WK.s | refine WK.cT rfl ?_ | (refine hQ.h _ _ ?_; clear hQ hA) | (refine WK.rH Tryz.ntmps105 (by kernel_rfl) ?_; intro A hA Q hQ; simp [mF, gF, oN_, *]) | (refine WK.rX (by kernel_rfl) Tryz.ntmps105 (by kernel_rfl) ?_; intro A hA Q hQ; simp [mF, gF, oN_, *]) | (refine hQ.h _ _ _ (by decide +kernel) ?_; clear hQ hA) | (refine RunQ.k rfl rfl rfl rfl rfl ?_ (ck) ?_ ?_ <;> simp (maxDischargeDepth := 120) [mF, gF, oN_, *] <;> refine ⟨?_⟩) | (refine WK.t Tryz.func105 ?_ ?_ <;> simp (maxDischargeDepth := 120) [Tryz.results105, mF, gF, oN_, *]))
   | none =>
     rw [hck] at ck hde
     simp only at hde
     cases y
     · rw [if_pos rfl] at hde
       rw [hde]
       clear hde hck
       repeat' (first | apply WK.s | apply WK.k | refine WK.cT rfl ?_ | refine WK.cF rfl ?_ | (refine hQ.h _ _ ?_; clear hQ hA) | (refine WK.rH Tryz.ntmps105 (by kernel_rfl) ?_; intro A hA Q hQ; simp [mF, gF, oN_, *]) | (refine RunQ.k rfl rfl rfl rfl rfl ?_ (ck) ?_ ?_ <;> simp (maxDischargeDepth := 120) [mF, gF, oN_, *] <;> refine ⟨?_⟩) | (refine RunQ.k rfl rfl rfl rfl rfl ?_ (hpd) ?_ ?_ <;> simp (maxDischargeDepth := 120) [mF, gF, oN_, *] <;> refine ⟨?_⟩) | (refine RunQ.k rfl rfl rfl rfl rfl ?_ (hz) ?_ ?_ <;> simp (maxDischargeDepth := 120) [mF, gF, oN_, *] <;> refine ⟨?_⟩) | (refine RunQ.k rfl rfl rfl rfl rfl ?_ (b1) ?_ ?_ <;> simp (maxDischargeDepth := 120) [mF, gF, oN_, *] <;> refine ⟨?_⟩) | (refine WK.t Tryz.func105 ?_ ?_ <;> simp (maxDischargeDepth := 120) [Tryz.results105, mF, gF, oN_, *]))
     · rw [if_neg (by simp)] at hde
       rw [hde]
       clear hde hck b1
       repeat' (first | apply WK.s | apply WK.k | refine WK.cF rfl ?_ | (refine hQ.h _ _ ?_; clear hQ hA) | (refine WK.rH Tryz.ntmps105 (by kernel_rfl) ?_; intro A hA Q hQ; simp [mF, gF, oN_, *]) | (refine RunQ.k rfl rfl rfl rfl rfl ?_ (ck) ?_ ?_ <;> simp (maxDischargeDepth := 120) [mF, gF, oN_, *] <;> refine ⟨?_⟩) | (refine RunQ.k rfl rfl rfl rfl rfl ?_ (hpd) ?_ ?_ <;> simp (maxDischargeDepth := 120) [mF, gF, oN_, *] <;> refine ⟨?_⟩) | (refine RunQ.k rfl rfl rfl rfl rfl ?_ (hz) ?_ ?_ <;> simp (maxDischargeDepth := 120) [mF, gF, oN_, *] <;> refine ⟨?_⟩) | (refine WK.t Tryz.func105 ?_ ?_ <;> simp (maxDischargeDepth := 120) [Tryz.results105, mF, gF, oN_, *]))

theorem rgbad_c (c : Int) : FnP Tryz.prog 75 [.int .i64 c] (.agg (gF (some (6, c)))) := by
 refine FnP.i Tryz.func75 rfl rfl fun G w => ?_
 repeat' (first | apply WK.s | (refine hQ.h _ _ ?_; clear hQ hA) | (refine WK.rH Tryz.ntmps75 (by kernel_rfl) ?_; intro A hA Q hQ; simp [*]) | (refine WK.t Tryz.func75 ?_ ?_ <;> simp (maxDischargeDepth := 120) [Tryz.results75, gF, *]))
theorem rgsame_c (a b : GroupMod) (ha : GmFit a) : FnP Tryz.prog 36 [.agg a.enc, .agg b.enc] (.bool (GroupMod.same a b)) := by
 have hsa := rbsameL_c a.buckets b.buckets ha.len ha.acts
 have e : GroupMod.same a b = ((a.command == b.command && (a.kind == b.kind && a.id == b.id)) && eqBy Bucket.same a.buckets b.buckets) := rfl
 obtain ⟨s, hs⟩ : ∃ s, eqBy Bucket.same a.buckets b.buckets = s := ⟨_, rfl⟩
 rw [hs] at hsa e
 unfold bukS at hsa
 refine FnP.i Tryz.func36 rfl rfl fun G w => ?_
 repeat' (first | apply WK.s | (refine hQ.h _ _ ?_; clear hQ hA) | (refine Fork.mk (fun h => ?_) (fun h => ?_) <;> (first | (simp [*] at h; done) | (have h2 := h; simp at h2; exfalso; omega) | (have h2 := h; simp at h2; try simp only [Bool.not_eq_true', Bool.not_eq_false'] at h) | skip)) | (refine WK.rH Tryz.ntmps36 (by kernel_rfl) ?_; intro A hA Q hQ; simp [GroupMod.enc, *]) | (refine RunQ.g rfl (by rw [hA.h]; rfl) ?_; simp [GroupMod.enc, *]) | (refine RunQW.k rfl rfl rfl rfl ?_ (hsa) ?_ ?_ <;> simp (maxDischargeDepth := 120) [GroupMod.enc, *] <;> refine ⟨?_⟩) | (refine WK.t Tryz.func36 ?_ ?_ <;> simp (maxDischargeDepth := 120) [Tryz.results36, GroupMod.enc, *]))
theorem u8_i64' (x : BitVec 8) : IntKind.i64.wrap (bI x) = bI x := by
 have := x.isLt
 unfold bI
 exact wrap_i64 (by omega) (by omega)
theorem getN_two {b : List (BitVec 8)} {p : Nat} (h : p + 2 ≤ b.length) : getN b p 2 = (bI (nth b p) * 256 + bI (nth b (p + 1)), 0) := by
 unfold getN
 rw [if_pos h]
 have : (b.drop p).take 2 = [nth b p, nth b (p + 1)] := by
   rw [nth_eq (by omega), nth_eq (by omega), List.drop_eq_getElem_cons (by omega), List.drop_eq_getElem_cons (by omega)]; rfl
 rw [this]
 simp [valN, bI]
theorem bI_range (x : BitVec 8) : 0 ≤ bI x ∧ bI x < 256 := by have := x.isLt; unfold bI; omega
set_option maxHeartbeats 4000000 in
theorem rgdec_c (b : List (BitVec 8)) (hb : b.length ≤ 1000000) : FnP Tryz.prog 43 [byS b] (.tup [.agg (gmDec b).1.enc, .agg (gF (gmDec b).2)]) := by
 have b11 := rgbad_c 11
 have b10 := rgbad_c 10
 by_cases c0 : b.length < 8
 · have e : gmDec b = (gm0, some (1, 6)) := by unfold gmDec; rw [if_pos (.inl c0)]
   have c0' : (b.length : Int) < 8 := by omega
   rw [e]
   unfold byS
   clear b11 b10
   refine FnP.i Tryz.func43 rfl rfl fun G w => ?_
   repeat' (first | apply WK.s | refine WK.cT rfl ?_ | (refine hQ.h _ _ ?_; clear hQ hA) | (refine WK.rH Tryz.ntmps43 (by kernel_rfl) ?_; intro A hA Q hQ; simp [gF, gm0, GroupMod.enc, *]) | (refine RunQ.g rfl (by rw [hA.h]; rfl) ?_; simp [gF, gm0, GroupMod.enc, *]) | (refine WK.t Tryz.func43 ?_ ?_ <;> simp (maxDischargeDepth := 120) [Tryz.results43, gF, gm0, GroupMod.enc, *]))
 have c0' : ¬ (b.length : Int) < 8 := by omega
 have x0 := by_get b 0 (by omega)
 have x1 := by_get b 1 (by omega)
 have x2 := by_get b 2 (by omega)
 have x3 := by_get b 3 (by omega)
 have y3 := bI_zero (nth b 3)
 have u0 : (0 : Int) < b.length := by omega
 have u1 : (1 : Int) < b.length := by omega
 have u2 : (2 : Int) < b.length := by omega
 have u3 : (3 : Int) < b.length := by omega
 have v0 : 0 < b.length := by omega
 have v1 : 1 < b.length := by omega
 have v2 : 2 < b.length := by omega
 have v3 : 3 < b.length := by omega
 have hdef : gmDec b = if (nth b 3 == 0#8) = false then (gm0, some (1, 6)) else if 2 < bI (nth b 0) * 256 + bI (nth b 1) then (gm0, some (6, 11))
   else if 3 < bI (nth b 2) then (gm0, some (6, 10))
   else match (bkDec (b.drop 8)).2 with
     | some c => (gm0, some c)
     | none => (⟨bI (nth b 0) * 256 + bI (nth b 1), bI (nth b 2), (getN b 4 4).1, (bkDec (b.drop 8)).1⟩, none) := by
   have r0 := bI_range (nth b 0)
   have r1 := bI_range (nth b 1)
   have r2 := bI_range (nth b 2)
   unfold gmDec
   rw [getN_one v3, getN_one v2, getN_two (by omega), Nat.zero_add]
   have g1 : (gmIn (bI (nth b 0) * 256 + bI (nth b 1)) 2 = false) ↔ 2 < bI (nth b 0) * 256 + bI (nth b 1) := by
     unfold gmIn; rw [Bool.and_eq_false_iff, decide_eq_false_iff_not, decide_eq_false_iff_not]; omega
   have g2 : (gmIn (bI (nth b 2)) 3 = false) ↔ 3 < bI (nth b 2) := by
     unfold gmIn; rw [Bool.and_eq_false_iff, decide_eq_false_iff_not, decide_eq_false_iff_not]; omega
   simp only [g1, g2]
   by_cases h : (nth b 3 == 0#8) = false
   · rw [if_pos h, if_pos (.inr (by rw [← y3] at h; simpa using h))]
   · rw [if_neg h, if_neg (by rintro (h' | h'); exact c0 h'; rw [Bool.not_eq_false] at h; rw [h] at y3; exact h' (by simpa using y3))]; rfl
 have r0 := bI_range (nth b 0)
 have r1 := bI_range (nth b 1)
 have w0 := u8_i64' (nth b 0)
 have w1 := u8_i64' (nth b 1)
 have w2 := u8_i64' (nth b 2)
 have wm : IntKind.i64.wrap (bI (nth b 0) * 256) = bI (nth b 0) * 256 := wrap_i64 (by omega) (by omega)
 have wa : IntKind.i64.wrap (bI (nth b 0) * 256 + bI (nth b 1)) = bI (nth b 0) * 256 + bI (nth b 1) := wrap_i64 (by omega) (by omega)
 have g2 := rget_c b 4 4 Sz4 (by omega) (by omega)
 obtain ⟨k3, hk3⟩ : ∃ k, nth b 3 = k := ⟨_, rfl⟩
 obtain ⟨k2, hk2⟩ : ∃ k, bI (nth b 2) = k := ⟨_, rfl⟩
 obtain ⟨k1, hk1⟩ : ∃ k, bI (nth b 1) = k := ⟨_, rfl⟩
 obtain ⟨k0, hk0⟩ : ∃ k, bI (nth b 0) = k := ⟨_, rfl⟩
 rw [hk3] at x3 y3 hdef
 rw [hk2] at x2 hdef w2
 rw [hk1] at x1 hdef w1 wa
 rw [hk0] at x0 hdef w0 wa wm
 obtain ⟨z3, hz3⟩ : ∃ k, (k3 == 0#8) = k := ⟨_, rfl⟩
 rw [hz3] at y3 hdef
 obtain ⟨q2, hq2⟩ : ∃ q, getN b 4 4 = q := ⟨_, rfl⟩
 rw [hq2] at g2 hdef
 have d := rbkdecP_c (b.drop 8) (by rw [List.length_drop]; omega)
 have hs : ((byL b).drop 8).take (b.length - 8) = byL (b.drop 8) := by rw [byL_drop]; exact by_full _ _ (by rw [List.length_drop])
 have u8 : (8 : Int) ≤ b.length := by omega
 simp only [byS, bukS, List.length_drop] at d g2 ⊢
 obtain ⟨S, hS⟩ : ∃ S, b.drop 8 = S := ⟨_, rfl⟩
 rw [hS] at hs d hdef
 clear hk3 hz3 hk0 hk1 hk2 hq2 hS r0 r1
 cases z3
 · rw [if_pos rfl] at hdef
   rw [hdef]
   clear d g2 hs b11 b10
   refine FnP.i Tryz.func43 rfl rfl fun G w => ?_
   repeat' (first | apply WK.s | refine WK.cT rfl ?_ | (refine hQ.h _ _ ?_; clear hQ hA) | (refine WK.rH Tryz.ntmps43 (by kernel_rfl) ?_; intro A hA Q hQ; simp [gF, gm0, GroupMod.enc, bne, *]) | (refine RunQ.g rfl (by rw [hA.h]; rfl) ?_; simp [gF, gm0, GroupMod.enc, bne, *]) | (refine WK.t Tryz.func43 ?_ ?_ <;> simp (maxDischargeDepth := 120) [Tryz.results43, gF, gm0, GroupMod.enc, bne, *]))
 rw [if_neg (by simp)] at hdef
 by_cases i1 : 2 < k0 * 256 + k1
 · rw [if_pos i1] at hdef
   rw [hdef]
   clear d hs b10
   refine FnP.i Tryz.func43 rfl rfl fun G w => ?_
   repeat' (first | apply WK.s | apply WK.k | refine WK.cT rfl ?_ | refine WK.cF rfl ?_ | (refine hQ.h _ _ ?_; clear hQ hA) | (refine WK.rH Tryz.ntmps43 (by kernel_rfl) ?_; intro A hA Q hQ; simp [gF, gm0, GroupMod.enc, bne, *]) | (refine WK.rX (by kernel_rfl) Tryz.ntmps43 (by kernel_rfl) ?_; intro A hA Q hQ; simp [gF, gm0, GroupMod.enc, bne, *]) | (refine hQ.h _ _ _ (by decide +kernel) ?_; clear hQ hA) | (refine RunQ.g rfl (by rw [hA.h]; rfl) ?_; simp [gF, gm0, GroupMod.enc, bne, *]) | (refine RunQ.k rfl rfl rfl rfl rfl ?_ (g2) ?_ ?_ <;> simp (maxDischargeDepth := 120) [gF, gm0, GroupMod.enc, bne, *] <;> refine ⟨?_⟩) | (refine RunQ.k rfl rfl rfl rfl rfl ?_ (b11) ?_ ?_ <;> simp (maxDischargeDepth := 120) [gF, gm0, GroupMod.enc, bne, *] <;> refine ⟨?_⟩) | (refine WK.t Tryz.func43 ?_ ?_ <;> simp (maxDischargeDepth := 120) [Tryz.results43, gF, gm0, GroupMod.enc, bne, *]))
 rw [if_neg i1] at hdef
 by_cases i2 : 3 < k2
 · rw [if_pos i2] at hdef
   rw [hdef]
   clear d hs b11
   refine FnP.i Tryz.func43 rfl rfl fun G w => ?_
   repeat' (first | apply WK.s | apply WK.k | refine WK.cT rfl ?_ | refine WK.cF rfl ?_ | (refine hQ.h _ _ ?_; clear hQ hA) | (refine WK.rH Tryz.ntmps43 (by kernel_rfl) ?_; intro A hA Q hQ; simp [gF, gm0, GroupMod.enc, bne, *]) | (refine WK.rX (by kernel_rfl) Tryz.ntmps43 (by kernel_rfl) ?_; intro A hA Q hQ; simp [gF, gm0, GroupMod.enc, bne, *]) | (refine hQ.h _ _ _ (by decide +kernel) ?_; clear hQ hA) | (refine RunQ.g rfl (by rw [hA.h]; rfl) ?_; simp [gF, gm0, GroupMod.enc, bne, *]) | (refine RunQ.k rfl rfl rfl rfl rfl ?_ (g2) ?_ ?_ <;> simp (maxDischargeDepth := 120) [gF, gm0, GroupMod.enc, bne, *] <;> refine ⟨?_⟩) | (refine RunQ.k rfl rfl rfl rfl rfl ?_ (b10) ?_ ?_ <;> simp (maxDischargeDepth := 120) [gF, gm0, GroupMod.enc, bne, *] <;> refine ⟨?_⟩) | (refine WK.t Tryz.func43 ?_ ?_ <;> simp (maxDischargeDepth := 120) [Tryz.results43, gF, gm0, GroupMod.enc, bne, *]))
 rw [if_neg i2] at hdef
 obtain ⟨R, hR⟩ : ∃ R, bkDec S = R := ⟨_, rfl⟩
 rw [hR] at d hdef
 obtain ⟨l, f⟩ := R
 rw [hdef]
 clear hdef hR b11 b10
 refine FnP.i Tryz.func43 rfl rfl fun G w => ?_
 cases f <;>
 · repeat' (first | apply WK.s | apply WK.k | refine WK.cT rfl ?_ | refine WK.cF rfl ?_ | (refine hQ.h _ _ ?_; clear hQ hA) | (refine WK.rH Tryz.ntmps43 (by kernel_rfl) ?_; intro A hA Q hQ; simp [gF, gm0, GroupMod.enc, bne, *]) | (refine WK.rX (by kernel_rfl) Tryz.ntmps43 (by kernel_rfl) ?_; intro A hA Q hQ; simp [gF, gm0, GroupMod.enc, bne, *]) | (refine hQ.h _ _ _ (by decide +kernel) ?_; clear hQ hA) | (refine RunQ.g rfl (by rw [hA.h]; rfl) ?_; simp [gF, gm0, GroupMod.enc, bne, *]) | (refine RunQ.k rfl rfl rfl rfl rfl ?_ (g2) ?_ ?_ <;> simp (maxDischargeDepth := 120) [gF, gm0, GroupMod.enc, bne, *] <;> refine ⟨?_⟩) | (refine RunQ.k rfl rfl rfl rfl rfl ?_ (d) ?_ ?_ <;> simp (maxDischargeDepth := 120) [gF, gm0, GroupMod.enc, bne, *] <;> refine ⟨?_⟩) | (refine WK.t Tryz.func43 ?_ ?_ <;> simp (maxDischargeDepth := 120) [Tryz.results43, gF, gm0, GroupMod.enc, bne, *]))

theorem two_val {b : List (BitVec 8)} {p : Nat} (h : p + 2 ≤ b.length) : bI (nth b p) * 256 + bI (nth b (p + 1)) = ((valN ((b.drop p).take 2) : Nat) : Int) := by
 have h1 := getN_two h
 rw [getN_val h] at h1
 exact (congrArg Prod.fst h1).symm
theorem kind_val {b : List (BitVec 8)} (h : 2 ≤ b.length) : mKind b = 1 ↔ nth b 0 = 0#8 ∧ nth b 1 = 1#8 := by
 have h1 := two_val (b := b) (p := 0) h
 have h0 : ((mKind b : Nat) : Int) = bI (nth b 0) * 256 + bI (nth b 1) := h1.symm
 have r0 := (nth b 0).isLt
 have r1 := (nth b 1).isLt
 unfold bI at h0
 constructor
 · intro h
   rw [h] at h0
   exact ⟨BitVec.eq_of_toNat_eq (by simp; omega), BitVec.eq_of_toNat_eq (by simp; omega)⟩
 · rintro ⟨h1, h2⟩
   rw [h1, h2] at h0
   have : ((0#8 : BitVec 8).toNat : Int) * 256 + ((1#8 : BitVec 8).toNat : Int) = 1 := by decide
   omega
set_option maxHeartbeats 8000000 in
theorem rmdec_c (b : List (BitVec 8)) (hb : b.length ≤ 1000000) : FnP Tryz.prog 73 [byS b] (.tup [oxmS (mDec b).1, .int .i64 (mDec b).2.1, .agg (gF (mDec b).2.2)]) := by
 have b1 := rmbad_c 1
 have b0 := rmbad_c 0
 unfold oxmS
 by_cases c4 : b.length < 4
 · have c4' : (b.length : Int) < 4 := by omega
   have e : mDec b = ([], 0, some (4, 1)) := by unfold mDec; rw [if_pos c4]
   rw [e]
   unfold byS
   clear b0
   refine FnP.i Tryz.func73 rfl rfl fun G w => ?_
   repeat' (first | apply WK.s | refine WK.cT rfl ?_ | (refine hQ.h _ _ ?_; clear hQ hA) | (refine WK.rH Tryz.ntmps73 (by kernel_rfl) ?_; intro A hA Q hQ; simp [gF, oN_, *]) | (refine RunQ.k rfl rfl rfl rfl rfl ?_ (b1) ?_ ?_ <;> simp (maxDischargeDepth := 120) [gF, oN_, *] <;> refine ⟨?_⟩) | (refine WK.t Tryz.func73 ?_ ?_ <;> simp (maxDischargeDepth := 120) [Tryz.results73, gF, oN_, *]))
 have c4' : ¬ (b.length : Int) < 4 := by omega
 have x0 := by_get b 0 (by omega)
 have x1 := by_get b 1 (by omega)
 have x2 := by_get b 2 (by omega)
 have x3 := by_get b 3 (by omega)
 have u0 : (0 : Int) < b.length := by omega
 have u1 : (1 : Int) < b.length := by omega
 have u2 : (2 : Int) < b.length := by omega
 have u3 : (3 : Int) < b.length := by omega
 have v0 : 0 < b.length := by omega
 have v1 : 1 < b.length := by omega
 have v2 : 2 < b.length := by omega
 have v3 : 3 < b.length := by omega
 have r2 := bI_range (nth b 2)
 have r3 := bI_range (nth b 3)
 have hv2 : bI (nth b 2) * 256 + bI (nth b 3) = ((mVal b : Nat) : Int) := two_val (by omega)
 have hvl : mVal b < 65536 := valN_lt 2 _ (by rw [List.length_take, List.length_drop]; omega)
 have w2 := u8_i64' (nth b 2)
 have w3 := u8_i64' (nth b 3)
 have w23 : IntKind.i64.wrap (bI (nth b 2) * 256) = bI (nth b 2) * 256 := wrap_i64 (by omega) (by omega)
 have w24 : IntKind.i64.wrap (bI (nth b 2) * 256 + bI (nth b 3)) = ((mVal b : Nat) : Int) := by rw [hv2]; exact wrap_i64 (by omega) (by omega)
 have w7 : IntKind.i64.wrap ((mVal b : Int) + 7) = (mVal b : Int) + 7 := wrap_i64 (by omega) (by omega)
 have w8 : IntKind.i64.wrap (((mVal b : Int) + 7).tdiv 8) = (((mVal b + 7) / 8 : Nat) : Int) := by rw [Int.tdiv_eq_ediv_of_nonneg (by omega), wrap_i64 (by omega) (by omega)]; omega
 have w9 : IntKind.i64.wrap ((((mVal b + 7) / 8 : Nat) : Int) * 8) = ((mPad (mVal b) : Nat) : Int) := by rw [wrap_i64 (by omega) (by omega)]; unfold mPad; omega
 have hk := kind_val (b := b) (by omega)
 have k0 := bI_zero (nth b 0)
 have k1 : (bI (nth b 1) == 1) = (nth b 1 == 1#8) := by
   rw [Bool.eq_iff_iff, beq_iff_eq, beq_iff_eq]
   unfold bI
   constructor
   · intro h; exact BitVec.eq_of_toNat_eq (by simp; omega)
   · intro h; rw [h]; rfl
 have hde := mDec_eq b
 have hmh : mHead b = if mVal b < 4 ∨ b.length < mPad (mVal b) then (0, some 1) else if ¬ mKind b = 1 then (0, some 0) else if 1004 < mVal b then (0, some 1) else (mVal b, none) := by unfold mHead; rw [if_neg c4]
 obtain ⟨X2, hX2⟩ : ∃ X, bI (nth b 2) = X := ⟨_, rfl⟩
 obtain ⟨X3, hX3⟩ : ∃ X, bI (nth b 3) = X := ⟨_, rfl⟩
 obtain ⟨X0, hX0⟩ : ∃ X, bI (nth b 0) = X := ⟨_, rfl⟩
 obtain ⟨X1, hX1⟩ : ∃ X, bI (nth b 1) = X := ⟨_, rfl⟩
 rw [hX2] at x2 w2 w23 w24
 rw [hX3] at x3 w3 w24
 rw [hX0] at x0 k0
 rw [hX1] at x1 k1
 obtain ⟨z0, hz0⟩ : ∃ z, (nth b 0 == 0#8) = z := ⟨_, rfl⟩
 obtain ⟨z1, hz1⟩ : ∃ z, (nth b 1 == 1#8) = z := ⟨_, rfl⟩
 have hk' : mKind b = 1 ↔ z0 = true ∧ z1 = true := by rw [hk, ← hz0, ← hz1, beq_iff_eq, beq_iff_eq]
 rw [hz0] at k0
 rw [hz1] at k1
 obtain ⟨n, hn⟩ : ∃ n, mVal b = n := ⟨_, rfl⟩
 obtain ⟨kd, hkd⟩ : ∃ n, mKind b = n := ⟨_, rfl⟩
 rw [hn] at w24 w7 w8 w9 hmh hvl
 rw [hkd] at hmh hk'
 obtain ⟨Q8, hQ8⟩ : ∃ q, (n + 7) / 8 = q := ⟨_, rfl⟩
 rw [hQ8] at w8 w9
 have hp := mPad_ge n
 unfold byS
 clear hX0 hX1 hX2 hX3 hz0 hz1 hk hv2 r2 r3 hkd hQ8
 by_cases h2 : n < 4
 · have h2' : (n : Int) < 4 := by omega
   rw [if_pos (.inl h2)] at hmh
   rw [hmh] at hde
   simp only at hde
   rw [hde]
   clear hde hmh hk' b0 hn
   refine FnP.i Tryz.func73 rfl rfl fun G w => ?_
   repeat' (first | apply WK.s | apply WK.b | apply WK.k | refine WK.cT rfl ?_ | refine WK.cF rfl ?_ | (refine hQ.h _ _ ?_; clear hQ hA) | (refine WK.rH Tryz.ntmps73 (by kernel_rfl) ?_; intro A hA Q hQ; simp [gF, oN_, *]) | (refine WK.rX (by kernel_rfl) Tryz.ntmps73 (by kernel_rfl) ?_; intro A hA Q hQ; simp [gF, oN_, *]) | (refine hQ.h _ _ _ (by decide +kernel) ?_; clear hQ hA) | (refine RunQ.g rfl (by rw [hA.h]; rfl) ?_; simp [gF, oN_, *]) | (refine RunQ.k rfl rfl rfl rfl rfl ?_ (b1) ?_ ?_ <;> simp (maxDischargeDepth := 120) [gF, oN_, *] <;> refine ⟨?_⟩) | (refine WK.t Tryz.func73 ?_ ?_ <;> simp (maxDischargeDepth := 120) [Tryz.results73, gF, oN_, *]))
 have h2' : ¬ (n : Int) < 4 := by omega
 by_cases h3 : b.length < mPad n
 · have h3' : (b.length : Int) < (mPad n : Nat) := by omega
   rw [if_pos (.inr h3)] at hmh
   rw [hmh] at hde
   simp only at hde
   rw [hde]
   clear hde hmh hk' b0 hn
   refine FnP.i Tryz.func73 rfl rfl fun G w => ?_
   repeat' (first | apply WK.s | apply WK.b | apply WK.k | refine WK.cT rfl ?_ | refine WK.cF rfl ?_ | (refine hQ.h _ _ ?_; clear hQ hA) | (refine WK.rH Tryz.ntmps73 (by kernel_rfl) ?_; intro A hA Q hQ; simp [gF, oN_, *]) | (refine WK.rX (by kernel_rfl) Tryz.ntmps73 (by kernel_rfl) ?_; intro A hA Q hQ; simp [gF, oN_, *]) | (refine hQ.h _ _ _ (by decide +kernel) ?_; clear hQ hA) | (refine RunQ.g rfl (by rw [hA.h]; rfl) ?_; simp [gF, oN_, *]) | (refine RunQ.k rfl rfl rfl rfl rfl ?_ (b1) ?_ ?_ <;> simp (maxDischargeDepth := 120) [gF, oN_, *] <;> refine ⟨?_⟩) | (refine WK.t Tryz.func73 ?_ ?_ <;> simp (maxDischargeDepth := 120) [Tryz.results73, gF, oN_, *]))
 have h3' : ¬ (b.length : Int) < (mPad n : Nat) := by omega
 rw [if_neg (by omega)] at hmh
 cases z0
 case false =>
   rw [if_pos (by rw [hk']; simp)] at hmh
   rw [hmh] at hde
   simp only at hde
   rw [hde]
   clear hde hmh hk' b1 hn
   refine FnP.i Tryz.func73 rfl rfl fun G w => ?_
   repeat' (first | apply WK.s | apply WK.b | apply WK.k | refine WK.cT rfl ?_ | refine WK.cF rfl ?_ | (refine hQ.h _ _ ?_; clear hQ hA) | (refine WK.rH Tryz.ntmps73 (by kernel_rfl) ?_; intro A hA Q hQ; simp [gF, oN_, bne, *]) | (refine WK.rX (by kernel_rfl) Tryz.ntmps73 (by kernel_rfl) ?_; intro A hA Q hQ; simp [gF, oN_, bne, *]) | (refine hQ.h _ _ _ (by decide +kernel) ?_; clear hQ hA) | (refine RunQ.g rfl (by rw [hA.h]; rfl) ?_; simp [gF, oN_, bne, *]) | (refine RunQ.k rfl rfl rfl rfl rfl ?_ (b0) ?_ ?_ <;> simp (maxDischargeDepth := 120) [gF, oN_, bne, *] <;> refine ⟨?_⟩) | (refine WK.t Tryz.func73 ?_ ?_ <;> simp (maxDischargeDepth := 120) [Tryz.results73, gF, oN_, bne, *]))
 cases z1
 case false =>
   rw [if_pos (by rw [hk']; simp)] at hmh
   rw [hmh] at hde
   simp only at hde
   rw [hde]
   clear hde hmh hk' b1 hn
   refine FnP.i Tryz.func73 rfl rfl fun G w => ?_
   repeat' (first | apply WK.s | apply WK.b | apply WK.k | refine WK.cT rfl ?_ | refine WK.cF rfl ?_ | (refine hQ.h _ _ ?_; clear hQ hA) | (refine WK.rH Tryz.ntmps73 (by kernel_rfl) ?_; intro A hA Q hQ; simp [gF, oN_, bne, *]) | (refine WK.rX (by kernel_rfl) Tryz.ntmps73 (by kernel_rfl) ?_; intro A hA Q hQ; simp [gF, oN_, bne, *]) | (refine hQ.h _ _ _ (by decide +kernel) ?_; clear hQ hA) | (refine RunQ.g rfl (by rw [hA.h]; rfl) ?_; simp [gF, oN_, bne, *]) | (refine RunQ.k rfl rfl rfl rfl rfl ?_ (b0) ?_ ?_ <;> simp (maxDischargeDepth := 120) [gF, oN_, bne, *] <;> refine ⟨?_⟩) | (refine WK.t Tryz.func73 ?_ ?_ <;> simp (maxDischargeDepth := 120) [Tryz.results73, gF, oN_, bne, *]))
 rw [if_neg (by rw [hk']; simp)] at hmh
 clear hk' b0
 by_cases h5 : 1004 < n
 · have h5' : (1004 : Int) < n := by omega
   rw [if_pos h5] at hmh
   rw [hmh] at hde
   simp only at hde
   rw [hde]
   clear hde hmh hn
   refine FnP.i Tryz.func73 rfl rfl fun G w => ?_
   repeat' (first | apply WK.s | apply WK.b | apply WK.k | refine WK.cT rfl ?_ | refine WK.cF rfl ?_ | (refine hQ.h _ _ ?_; clear hQ hA) | (refine WK.rH Tryz.ntmps73 (by kernel_rfl) ?_; intro A hA Q hQ; simp [gF, oN_, bne, *]) | (refine WK.rX (by kernel_rfl) Tryz.ntmps73 (by kernel_rfl) ?_; intro A hA Q hQ; simp [gF, oN_, bne, *]) | (refine hQ.h _ _ _ (by decide +kernel) ?_; clear hQ hA) | (refine RunQ.g rfl (by rw [hA.h]; rfl) ?_; simp [gF, oN_, bne, *]) | (refine RunQ.k rfl rfl rfl rfl rfl ?_ (b1) ?_ ?_ <;> simp (maxDischargeDepth := 120) [gF, oN_, bne, *] <;> refine ⟨?_⟩) | (refine WK.t Tryz.func73 ?_ ?_ <;> simp (maxDischargeDepth := 120) [Tryz.results73, gF, oN_, bne, *]))
 have h5' : ¬ (1004 : Int) < n := by omega
 rw [if_neg h5] at hmh
 rw [hmh] at hde
 simp only at hde
 unfold mBody at hde
 have hRl : ((b.drop 4).take (n - 4)).length = n - 4 := by rw [List.length_take, List.length_drop]; omega
 obtain ⟨R, hR⟩ : ∃ R, (b.drop 4).take (n - 4) = R := ⟨_, rfl⟩
 rw [hR] at hRl hde
 have hst := RwAt.start oRd 4 R
 clear hn hmh
 refine FnP.i Tryz.func73 rfl rfl fun G w => ?_
 repeat' (first | apply WK.s | apply WK.b | apply WK.n | apply WK.k | refine WK.cF rfl ?_ | (refine hQ.h _ _ ?_; clear hQ hA) | (refine WK.rH Tryz.ntmps73 (by kernel_rfl) ?_; intro A hA Q hQ; simp [bne, *]) | (refine WK.rX (by kernel_rfl) Tryz.ntmps73 (by kernel_rfl) ?_; intro A hA Q hQ; simp [bne, *]) | (refine hQ.h _ _ _ (by decide +kernel) ?_; clear hQ hA) | (refine RunQ.g rfl (by rw [hA.h]; rfl) ?_; simp [bne, *]))
 refine WK.ghost (Ghost.own 7 900 6 rfl rfl) ?_
 refine WK.lI (fun n => if n = 0 then 2 else if n = 1 then 900 else n) (fun x : Nat × Nat × List Oxm => (⟨(upd (upd (upd (upd (upd (upd J 0 (.sl false b.length (byL b))) 4 (.ptr 0 0)) 5 (.int .i64 n)) 6 (.int .i64 (mPad n : Nat))) 7 (.msl 1 0 x.2.2.length)) 8 (.int .i64 (4 + x.2.1 : Nat))), (upd (upd B0 0 (.var [.junk, .junk, .junk])) 1 (.buf 6 (oxmL x.2.2))), 0⟩ : St)) (fun x => RwAt oRd 4 R x) (fun x => R.length - x.2.1) ((R.length, 0, [])) (by repeat (first | exact TmW.nil | refine TmW.upd ?_ (by simp (maxDischargeDepth := 120) [oN_]))) (by repeat (first | exact BxW.nil | refine BxW.upd ?_ (by simp (maxDischargeDepth := 120) [oN_]))) (by first | exact InjW.id | exact InjW.nil | exact InjW.one | exact InjW.two (by simp) | exact InjW.three (by simp) (by simp) (by simp)) (hst) (fun i hi IH => ?_)
 clear x0 x1 x2 x3 u0 u1 u2 u3 v0 v1 v2 v3 w2 w3 w23 w24 w7 w8 w9 k0 k1 hst
 obtain ⟨f, p, acc⟩ := i
 have hle := hi.le
 have hsm := hi.small
 simp only at hle hsm hi ⊢
 obtain ⟨t, ht⟩ : ∃ t, 4 + p = t := ⟨_, rfl⟩
 rw [ht]
 by_cases h1 : p < R.length
 · have hd := rodec_c (R.drop p) (by rw [List.length_drop]; omega)
   obtain ⟨o, k, c, ho⟩ : ∃ o k c, oDec (R.drop p) = (o, k, c) := ⟨_, _, _, rfl⟩
   rw [ho] at hd
   have hrd := oRd_eq ho
   unfold byS at hd
   rw [List.length_drop, hRl] at hd
   have hpos : t < n := by omega
   have hpos' : (t : Int) < n := by omega
   have hlen : n - 4 - p = n - t := by omega
   rw [hlen] at hd
   have hsl : ((byL b).drop t).take (n - t) = byL (R.drop p) := by
     rw [byL_drop, byL_take, ← hR, List.drop_take, List.drop_drop, ht, hlen]
   have hn1 : (t : Int) ≤ n := by omega
   have hn2 : (n : Int) ≤ b.length := by omega
   have hn3 : t ≤ n := by omega
   have hn4 : n ≤ b.length := by omega
   by_cases hc : c = 0
   case neg =>
     rw [if_neg hc] at hrd
     have e := RwAt.bad hi h1 hrd
     rw [e] at hde
     simp only at hde
     rw [hde]
     obtain ⟨B, hB⟩ : ∃ B, R.drop p = B := ⟨_, rfl⟩
     rw [hB] at hd hsl
     have hfc : oFault c = [.bool true, .int .i64 4, .int .i64 c] := by unfold oFault; rw [if_neg hc]
     rw [hfc] at hd
     unfold Oxm.enc at hd
     clear hde hB ho hrd e hi hfc b1 hR
     repeat' (first | apply WK.s | apply WK.b | apply WK.k | refine WK.cT rfl ?_ | (refine hQ.h _ _ ?_; clear hQ hA) | (refine WK.rH Tryz.ntmps73 (by kernel_rfl) ?_; intro A hA Q hQ; simp [gF, oN_, *]) | (refine WK.rX (by kernel_rfl) Tryz.ntmps73 (by kernel_rfl) ?_; intro A hA Q hQ; simp [gF, oN_, *]) | (refine hQ.h _ _ _ (by decide +kernel) ?_; clear hQ hA) | (refine RunQ.k rfl rfl rfl rfl rfl ?_ (hd) ?_ ?_ <;> simp (maxDischargeDepth := 120) [gF, oN_, *] <;> refine ⟨?_⟩) | (refine WK.t Tryz.func73 ?_ ?_ <;> simp (maxDischargeDepth := 120) [Tryz.results73, gF, oN_, *]))
   subst hc
   rw [if_pos rfl] at hrd
   obtain ⟨m, hm, hml, hm0, hn⟩ := RwAt.next (by omega) oRd_keeps hi h1 hrd
   simp only at hml hn
   subst hm
   have wt : IntKind.i64.wrap ((t : Int) + (m : Int)) = ((4 + (p + m) : Nat) : Int) := by rw [wrap_i64 (by omega) (by omega)]; omega
   have hbd : (acc.length + 1) * 48 ≤ 140737488355328 := by omega
   have hsq := oxmL_snoc acc o
   obtain ⟨B, hB⟩ : ∃ B, R.drop p = B := ⟨_, rfl⟩
   rw [hB] at hd hsl
   have hfc : oFault 0 = [.bool false, .int .i64 0, .int .i64 0] := rfl
   rw [hfc] at hd
   unfold Oxm.enc at hd hsq
   clear hde hB ho hrd hi hfc b1 hR
   repeat' (first | apply WK.s | apply WK.b | apply WK.n | apply WK.k | refine WK.cT rfl ?_ | refine WK.cF rfl ?_ | (refine hQ.h _ _ ?_; clear hQ hA) | (refine WK.rH Tryz.ntmps73 (by kernel_rfl) ?_; intro A hA Q hQ; simp [*]) | (refine RunQ.append 902 app_oxm rfl rfl rfl rfl rfl rfl rfl rfl rfl ?_ ?_ ?_ ?_ ?_; (focus (first | omega | (simp [*]; done); done)); (focus (first | omega | (simp [*]; done); done)); (focus (first | omega | (simp [*]; done); done)); (focus (first | omega | (simp [*]; done); done)); refine RunQ.e ?_; simp [*]) | (refine RunQ.k rfl rfl rfl rfl rfl ?_ (hd) ?_ ?_ <;> simp (maxDischargeDepth := 120) [*] <;> refine ⟨?_⟩))
   refine WK.next (fun n => if n = 1 then 902 else n) (IH ((f - 1, p + m, acc ++ [o])) (hn) (by first | omega | (dsimp only; omega))) (by repeat (first | exact TmW.nil | refine TmW.upd ?_ (by simp (maxDischargeDepth := 120) [hsq]))) (by repeat (first | exact BxW.nil | refine BxW.upd ?_ (by simp (maxDischargeDepth := 120) [hsq]))) (by first | exact InjW.id | exact InjW.nil | exact InjW.one | exact InjW.two (by simp) | exact InjW.three (by simp) (by simp) (by simp))
 · have hstop := RwAt.stop hi h1
   simp only at hstop
   rw [hstop] at hde
   simp only at hde
   have htn : t = n := by omega
   rw [htn]
   have hpos : ¬ n < n := by omega
   have hcl : ClL (oxmL acc) = true := oxmL_cl _
   have hT := oxmL_take acc
   have ck := rmcheck_c acc (by omega)
   unfold oxmS at ck
   clear hi hstop ht htn
   repeat' (first | apply WK.s | refine WK.exit rfl ?_ | refine WK.cF rfl ?_ | (refine hQ.h _ _ ?_; clear hQ hA) | (refine WK.rH (id := 0) Tryz.ntmps73 (by kernel_rfl) ?_; intro A hA Q hQ; simp [*]) | (refine WK.rH (id := 1) Tryz.ntmps73 (by kernel_rfl) ?_; intro A hA Q hQ; simp [*]) | (refine WK.rH (id := 2) Tryz.ntmps73 (by kernel_rfl) ?_; intro A hA Q hQ; simp [*]) | (refine WK.rH (id := 3) Tryz.ntmps73 (by kernel_rfl) ?_; intro A hA Q hQ; simp [*]) | (refine WK.rH (id := 4) Tryz.ntmps73 (by kernel_rfl) ?_; intro A hA Q hQ; simp [*]) | (refine WK.rH (id := 5) Tryz.ntmps73 (by kernel_rfl) ?_; intro A hA Q hQ; simp [*]) | (refine WK.rH (id := 6) Tryz.ntmps73 (by kernel_rfl) ?_; intro A hA Q hQ; simp [*]) | (refine WK.rH (id := 7) Tryz.ntmps73 (by kernel_rfl) ?_; intro A hA Q hQ; simp [*]) | (refine WK.rH (id := 8) Tryz.ntmps73 (by kernel_rfl) ?_; intro A hA Q hQ; simp [*]) | (refine WK.rH (id := 9) Tryz.ntmps73 (by kernel_rfl) ?_; intro A hA Q hQ; simp [*]) | (refine WK.rH (id := 10) Tryz.ntmps73 (by kernel_rfl) ?_; intro A hA Q hQ; simp [*]) | (refine WK.rH (id := 11) Tryz.ntmps73 (by kernel_rfl) ?_; intro A hA Q hQ; simp [*]) | (refine WK.rH (id := 12) Tryz.ntmps73 (by kernel_rfl) ?_; intro A hA Q hQ; simp [*]) | (refine WK.rH (id := 13) Tryz.ntmps73 (by kernel_rfl) ?_; intro A hA Q hQ; simp [*]))
   refine WK.ghost (Ghost.frzSl 7 6 rfl rfl) ?_
   cases hck : mCheck acc with
   | some c =>
     rw [hck] at ck hde
     simp only at hde
     rw [hde]
     clear hde hck b1
     repeat' (first | apply WK.s | refine WK.cT rfl ?_ | (refine hQ.h _ _ ?_; clear hQ hA) | (refine WK.rH Tryz.ntmps73 (by kernel_rfl) ?_; intro A hA Q hQ; simp [mF, gF, oN_, *]) | (refine WK.rX (by kernel_rfl) Tryz.ntmps73 (by kernel_rfl) ?_; intro A hA Q hQ; simp [mF, gF, oN_, *]) | (refine hQ.h _ _ _ (by decide +kernel) ?_; clear hQ hA) | (refine RunQ.k rfl rfl rfl rfl rfl ?_ (ck) ?_ ?_ <;> simp (maxDischargeDepth := 120) [mF, gF, oN_, *] <;> refine ⟨?_⟩) | (refine WK.t Tryz.func73 ?_ ?_ <;> simp (maxDischargeDepth := 120) [Tryz.results73, mF, gF, oN_, *]))
   | none =>
   rw [hck] at ck hde
   simp only at hde
   have hlen : ((b.drop n).take (mPad n - n)).length = mPad n - n := by rw [List.length_take, List.length_drop]; omega
   have hnth : ∀ j, n + j < mPad n → nth ((b.drop n).take (mPad n - n)) j = nth b (n + j) := fun j hj => by
     rw [nth_take' (by omega)]
     unfold nth
     rw [List.getD_eq_getElem?_getD, List.getD_eq_getElem?_getD, List.getElem?_drop]
   have hzF : ∀ j, n + j < mPad n → (nth b (n + j) == 0#8) = false → allZ ((b.drop n).take (mPad n - n)) = false := fun j hj h => by
     unfold allZ
     exact all_false (i := j) (by omega) (by rw [hnth j hj]; exact h)
   have hzT : (∀ j, n + j < mPad n → (nth b (n + j) == 0#8) = true) → allZ ((b.drop n).take (mPad n - n)) = true := fun h => by
     unfold allZ
     exact all_true fun j hj => by rw [hnth j (by omega)]; exact h j (by omega)
   obtain ⟨Z, hZ⟩ : ∃ Z, (b.drop n).take (mPad n - n) = Z := ⟨_, rfl⟩
   rw [hZ] at hzF hzT hde
   clear hZ hlen hnth hck hRl
   repeat' (first | apply WK.s | apply WK.b | apply WK.k | refine WK.cF rfl ?_ | (refine hQ.h _ _ ?_; clear hQ hA) | (refine WK.rH Tryz.ntmps73 (by kernel_rfl) ?_; intro A hA Q hQ; simp [mF, gF, *]) | (refine RunQ.k rfl rfl rfl rfl rfl ?_ (ck) ?_ ?_ <;> simp (maxDischargeDepth := 120) [mF, gF, *] <;> refine ⟨?_⟩))
   refine WK.lI (fun n => n) (fun k : Nat => (⟨(upd (upd (upd (upd (upd (upd J 0 (.sl false b.length (byL b))) 4 (.ptr 0 0)) 5 (.int .i64 n)) 6 (.int .i64 (mPad n : Nat))) 7 (.sl false acc.length (oxmL acc))) 13 (.int .i64 k)), (upd B0 0 (.var [.junk, .junk, .junk])), 0⟩ : St)) (fun k => n ≤ k ∧ k ≤ mPad n ∧ ∀ j, n + j < k → (nth b (n + j) == 0#8) = true) (fun k => mPad n - k) (n) (by repeat (first | exact TmW.nil | refine TmW.upd ?_ (by simp (maxDischargeDepth := 120) [hT]))) (by repeat (first | exact BxW.nil | refine BxW.upd ?_ (by simp (maxDischargeDepth := 120) [hT]))) InjW.id (⟨Nat.le_refl _, hp.1, fun j hj => by omega⟩) (fun k hk IHk => ?_)
   obtain ⟨hk1, hk2, hk3⟩ := hk
   by_cases g1 : k < mPad n
   · have g1' : (k : Int) < (mPad n : Nat) := by omega
     have y4 := by_get b k (by omega)
     have y5 : k < b.length := by omega
     have y5' : (k : Int) < b.length := by omega
     have g6 : IntKind.i64.wrap ((k : Int) + 1) = k + 1 := wrap_i64 (by omega) (by omega)
     have y7 := bI_zero (nth b k)
     cases h5 : nth b k == 0#8
     · rw [h5] at y7
       have e := hzF (k - n) (by omega) (by rw [show n + (k - n) = k by omega]; exact h5)
       rw [if_pos e] at hde
       rw [hde]
       clear hde hzT hzF ck e
       repeat' (first | apply WK.s | apply WK.b | apply WK.k | refine WK.cT rfl ?_ | (refine hQ.h _ _ ?_; clear hQ hA) | (refine WK.rH Tryz.ntmps73 (by kernel_rfl) ?_; intro A hA Q hQ; simp [bne, gF, oN_, *]) | (refine RunQ.k rfl rfl rfl rfl rfl ?_ (b1) ?_ ?_ <;> simp (maxDischargeDepth := 120) [bne, gF, oN_, *] <;> refine ⟨?_⟩) | (refine WK.t Tryz.func73 ?_ ?_ <;> simp (maxDischargeDepth := 120) [Tryz.results73, bne, gF, oN_, *]))
     · rw [h5] at y7
       clear hde hzT hzF ck b1
       repeat' (first | apply WK.s | apply WK.b | apply WK.n | apply WK.k | refine WK.cT rfl ?_ | refine WK.cF rfl ?_ | (refine hQ.h _ _ ?_; clear hQ hA) | (refine WK.rH Tryz.ntmps73 (by kernel_rfl) ?_; intro A hA Q hQ; simp [bne, *]))
       refine WK.next (fun n => n) (IHk (k + 1) (⟨by omega, by omega, fun j hj => by by_cases h7 : n + j = k; (rw [h7]; exact h5); exact hk3 j (by omega)⟩) (by first | omega | (dsimp only; omega))) (by repeat (first | exact TmW.nil | refine TmW.upd ?_ (by simp (maxDischargeDepth := 120) [hT]))) (by repeat (first | exact BxW.nil | refine BxW.upd ?_ (by simp (maxDischargeDepth := 120) [hT]))) InjW.id
   · have g1' : ¬ (k : Int) < (mPad n : Nat) := by omega
     have e := hzT fun j hj => hk3 j (by omega)
     rw [if_neg (by rw [e]; simp)] at hde
     rw [hde]
     clear hde hzT hzF ck b1
     repeat' (first | apply WK.s | refine WK.exit rfl ?_ | refine WK.cF rfl ?_ | (refine hQ.h _ _ ?_; clear hQ hA) | (refine WK.rH Tryz.ntmps73 (by kernel_rfl) ?_; intro A hA Q hQ; simp [gF, *]) | (refine WK.t Tryz.func73 ?_ ?_ <;> simp (maxDischargeDepth := 120) [Tryz.results73, gF, *]))
end Go.Proofs.YtcccfbjkcahgfaaGreat
