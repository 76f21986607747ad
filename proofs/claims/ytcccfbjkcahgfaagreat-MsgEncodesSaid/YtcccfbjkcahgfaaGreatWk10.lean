/- Matches: what is wrong with one, by both sides. -/
import Derived.Test.YtcccfbjkcahgfaaGreatAf
import Derived.Test.YtcccfbjkcahgfaaGreatWk9
set_option linter.all false
set_option linter.unnecessarySimpa false
namespace Go.Proofs.YtcccfbjkcahgfaaGreat
open Go Go.AI Go.Proofs
attribute [local irreducible] FnP FnO FnB FnT FnSeq WK RunQ RunQW RunX RunXW
theorem indexf_oxm (fid : Nat) (caps : List AV) (p : Oxm → Bool) (l : List Oxm) (hcl : ClL caps = true) (hl : l.length ≤ 1000000)
   (hf : ∀ x, x ∈ l → FnP Tryz.prog fid (.agg x.enc :: caps) (.bool (p x))) :
   FnP Tryz.prog 189 [oxmS l, .fn fid caps] (.int .i64 (idxI p l)) := by
 unfold oxmS
 refine FnP.intro Tryz.func189 rfl rfl fun G w => ?_
 repeat (apply WK.seq)
 refine WK.reg 100 Tryz.ntmps189 (by kernel_rfl) ?_
 intro A hA Q hQ
 simp
 refine hQ _ _ ?_
 clear hQ hA
 repeat (apply WK.seq)
 refine WK.reg 200 Tryz.ntmps189 (by kernel_rfl) ?_
 intro A hA Q hQ
 simp
 refine hQ _ _ ?_
 clear hQ hA
 repeat (apply WK.block)
 refine WK.lI (fun n => n) (fun i : Nat => (⟨(upd (upd (upd (upd J 0 (.sl false l.length (oxmL l))) 1 (.fn fid caps)) 7 (.int .i64 l.length)) 8 (.int .i64 i)), B0, 0⟩ : St)) (fun i => i ≤ l.length ∧ ∀ j, j < i → p (nth l j) = false) (fun i => l.length - i) (0) (by repeat (first | exact TmW.nil | refine TmW.upd ?_ (by simp (maxDischargeDepth := 120) [hcl]))) (by repeat (first | exact BxW.nil | refine BxW.upd ?_ (by simp (maxDischargeDepth := 120) [hcl]))) InjW.id (⟨by omega, by simp⟩) (fun i hi IH => ?_)
 repeat (apply WK.seq)
 refine WK.reg 300 Tryz.ntmps189 (by kernel_rfl) ?_
 intro A hA Q hQ
 simp
 refine hQ _ _ ?_
 clear hQ hA
 repeat (apply WK.seq)
 refine WK.c2 rfl (fun h1 => ?_) (fun h1 => ?_)
 · simp at h1
   have h2 : i < l.length := by omega
   have h3 : 6 ≤ l.length * 6 - i * 6 := by omega
   have h4 := oxm_sub l i h2
   have h6 : IntKind.i64.wrap ((i : Int) + 1) = i + 1 := wrap_i64 (by omega) (by omega)
   repeat (first | apply WK.seq | apply WK.block | apply WK.skip)
   refine WK.reg 400 Tryz.ntmps189 (by kernel_rfl) ?_
   intro A hA Q hQ
   simp
   refine hQ _ _ ?_
   clear hQ hA
   repeat (apply WK.seq)
   refine WK.reg 500 Tryz.ntmps189 (by kernel_rfl) ?_
   intro A hA Q hQ
   simp [h2, h3, h4]
   refine RunQ.call rfl rfl rfl rfl (by rfl) (by simp (maxDischargeDepth := 120) [hcl]) (hf (nth l i) (nth_mem h2)) (by simp [hcl]) ?_
   refine RunQ.eval ?_
   simp [hcl]
   refine hQ _ _ ?_
   clear hQ hA
   refine WK.c2 rfl (fun h5 => ?_) (fun h5 => ?_)
   · have e := idxI_some h2 h5 hi.2
     repeat (apply WK.seq)
     refine WK.reg 600 Tryz.ntmps189 (by kernel_rfl) ?_
     intro A hA Q hQ
     simp
     refine hQ _ _ ?_
     clear hQ hA
     refine WK.ret Tryz.func189 (by simp (maxDischargeDepth := 120) [Tryz.results189, e]) (by simp [e])
   · repeat (first | apply WK.inBlock | apply WK.skip)
     refine WK.reg 700 Tryz.ntmps189 (by kernel_rfl) ?_
     intro A hA Q hQ
     simp [h6]
     refine hQ _ _ ?_
     clear hQ hA
     refine WK.next (fun n => n) (IH (i + 1) (⟨by omega, fun j hj => by by_cases h7 : j = i; (subst h7; exact h5); exact hi.2 j (by omega)⟩) (by first | omega | (dsimp only; omega))) (by repeat (first | exact TmW.nil | refine TmW.upd ?_ (by simp (maxDischargeDepth := 120) [hcl]))) (by repeat (first | exact BxW.nil | refine BxW.upd ?_ (by simp (maxDischargeDepth := 120) [hcl]))) InjW.id
 · simp at h1
   have e := idxI_none (p := p) (l := l) (fun j hj => hi.2 j (by omega))
   repeat (first | apply WK.seq | refine WK.exit rfl ?_)
   refine WK.reg 800 Tryz.ntmps189 (by kernel_rfl) ?_
   intro A hA Q hQ
   simp
   refine hQ _ _ ?_
   clear hQ hA
   refine WK.ret Tryz.func189 (by simp (maxDischargeDepth := 120) [Tryz.results189, e]) (by simp [e])
theorem containsf_oxm (fid : Nat) (caps : List AV) (p : Oxm → Bool) (l : List Oxm) (hcl : ClL caps = true) (hl : l.length ≤ 1000000)
   (hf : ∀ x, x ∈ l → FnP Tryz.prog fid (.agg x.enc :: caps) (.bool (p x))) :
   FnP Tryz.prog 162 [oxmS l, .fn fid caps] (.bool (l.any p)) := by
 have e := idxI_ge p l
 simp only [ge_iff_le] at e
 refine FnP.intro Tryz.func162 rfl rfl fun G w => ?_
 repeat (apply WK.seq)
 refine WK.reg 100 Tryz.ntmps162 (by kernel_rfl) ?_
 intro A hA Q hQ
 simp
 refine hQ _ _ ?_
 clear hQ hA
 repeat (apply WK.seq)
 refine WK.reg 200 Tryz.ntmps162 (by kernel_rfl) ?_
 intro A hA Q hQ
 simp
 refine RunQ.call rfl rfl rfl rfl (by rfl) (by simp (maxDischargeDepth := 120) [hcl]) (indexf_oxm fid caps p l hcl hl hf) (by simp [hcl]) ?_
 refine RunQ.eval ?_
 simp [hcl]
 refine hQ _ _ ?_
 clear hQ hA
 refine WK.ret Tryz.func162 (by simp (maxDischargeDepth := 120) [Tryz.results162, e]) (by simp [e])
theorem nth_take' {α : Type} [Inhabited α] {l : List α} {i k : Nat} (h : k < i) : nth (l.take i) k = nth l k := by
 unfold nth; rw [List.getD_eq_getElem?_getD, List.getD_eq_getElem?_getD, List.getElem?_take_of_lt h]
theorem any_front {α : Type} [Inhabited α] {p : α → Bool} {l : List α} {i : Nat} (hi : i ≤ l.length) (h : ∀ k, k < i → p (nth l k) = false) : (l.take i).any p = false := by
 refine any_false' fun k hk => ?_
 rw [List.length_take] at hk
 rw [nth_take' (by omega)]; exact h k (by omega)
theorem any_front_true {α : Type} [Inhabited α] {p : α → Bool} {l : List α} {i k : Nat} (hi : i ≤ l.length) (hk : k < i) (h : p (nth l k) = true) : (l.take i).any p = true :=
 any_true' (i := k) (by rw [List.length_take]; omega) (by rw [nth_take' hk]; exact h)
theorem mcheck_c (l : List Oxm) (hl : l.length ≤ 1000000) : FnP Tryz.prog 130 [oxmS l] (.agg (mF (mCheck l))) := by
 have b10 := mbad_c 10
 have b9 := mbad_c 9
 unfold oxmS
 refine FnP.intro Tryz.func130 rfl rfl fun G w => ?_
 repeat' (first | apply WK.seq | apply WK.block | (refine hQ.h _ _ ?_; clear hQ hA) | (refine WK.rH Tryz.ntmps130 (by kernel_rfl) ?_; intro A hA Q hQ; simp [*]))
 refine WK.lI (fun n => n) (fun i : Nat => (⟨(upd (upd (upd (upd (upd J 0 (.sl false l.length (oxmL l))) 2 (.ptr 0 0)) 5 (.sl false l.length (oxmL l))) 6 (.int .i64 l.length)) 7 (.int .i64 i)), (upd B0 0 (.var [.junk, .junk, .junk])), 0⟩ : St)) (fun i => i ≤ l.length ∧ mCheck l = mCheckF (l.take i) (l.drop i)) (fun i => l.length - i) (0) (by repeat (first | exact TmW.nil | refine TmW.upd ?_ (by simp (maxDischargeDepth := 120)))) (by repeat (first | exact BxW.nil | refine BxW.upd ?_ (by simp (maxDischargeDepth := 120)))) InjW.id (⟨by omega, rfl⟩) (fun i hi IH => ?_)
 by_cases h1 : i < l.length
 · have g4 := oxm_sub l i h1
   have g3 : 6 ≤ l.length * 6 - i * 6 := by omega
   have g6 : IntKind.i64.wrap ((i : Int) + 1) = i + 1 := wrap_i64 (by omega) (by omega)
   obtain ⟨hp1, hp2⟩ := oxm_part l i (by omega)
   have hst := hi.2
   rw [mCheck_at h1] at hst
   have cc := containsf_oxm 163 [.iptr (nth l i).enc] (fun p => p.field == (nth l i).field) (l.take i) (by simp [ClL, Cl]) (by omega) (fun x _ => check1_c x (nth l i))
   have cm := met_c (l.take i) (nth l i).field (by omega)
   unfold oxmS at cc cm
   rw [hp2] at cc cm
   have hcl : ClL (oxmL (l.take i)) = true := oxmL_cl _
   have hln : (oxmL (l.take i)).length = i * 6 := by rw [oxmL_len, hp2]
   obtain ⟨o, ho⟩ : ∃ o, nth l i = o := ⟨_, rfl⟩
   rw [ho] at g4 hst cc cm
   obtain ⟨z1, hz1⟩ : ∃ z, ((l.take i).any fun p => p.field == o.field) = z := ⟨_, rfl⟩
   obtain ⟨z2, hz2⟩ : ∃ z, mMet (l.take i) o.field = z := ⟨_, rfl⟩
   rw [hz1] at cc hst
   rw [hz2] at cm hst
   obtain ⟨K, hK⟩ : ∃ K, oxmL (l.take i) = K := ⟨_, rfl⟩
   rw [hK] at cc cm hp1 hcl hln
   have hle := hi.1
   clear hz1 hz2 hK ho hi hp2
   unfold Oxm.enc at g4 cc
   cases z1
   case true =>
     rw [if_pos rfl] at hst
     rw [hst]
     clear cm b9
     repeat' (first | apply WK.seq | apply WK.block | apply WK.skip | refine WK.cT rfl ?_ | (refine hQ.h _ _ ?_; clear hQ hA) | (refine WK.rH (id := 0) Tryz.ntmps130 (by kernel_rfl) ?_; intro A hA Q hQ; simp [*]) | (refine WK.rH (id := 1) Tryz.ntmps130 (by kernel_rfl) ?_; intro A hA Q hQ; simp [*]) | (refine WK.rH (id := 2) Tryz.ntmps130 (by kernel_rfl) ?_; intro A hA Q hQ; simp [*]) | (refine WK.rH (id := 3) Tryz.ntmps130 (by kernel_rfl) ?_; intro A hA Q hQ; simp [*]))
     refine WK.ghost (Ghost.frzVar 4 rfl rfl) ?_
     repeat' (first | apply WK.seq | refine WK.cT rfl ?_ | (refine hQ.h _ _ ?_; clear hQ hA) | (refine WK.rH Tryz.ntmps130 (by kernel_rfl) ?_; intro A hA Q hQ; simp [mF, gF, *]) | (refine RunQ.k rfl rfl rfl rfl rfl ?_ (cc) ?_ ?_ <;> simp (maxDischargeDepth := 120) [mF, gF, *] <;> refine ⟨?_⟩) | (refine RunQ.k rfl rfl rfl rfl rfl ?_ (b10) ?_ ?_ <;> simp (maxDischargeDepth := 120) [mF, gF, *] <;> refine ⟨?_⟩) | (refine WK.ret Tryz.func130 ?_ ?_ <;> simp (maxDischargeDepth := 120) [Tryz.results130, mF, gF, *]))
   rw [if_neg (by simp)] at hst
   cases z2
   case false =>
     rw [if_pos rfl] at hst
     rw [hst]
     clear b10
     repeat' (first | apply WK.seq | apply WK.block | apply WK.skip | refine WK.cT rfl ?_ | (refine hQ.h _ _ ?_; clear hQ hA) | (refine WK.rH (id := 0) Tryz.ntmps130 (by kernel_rfl) ?_; intro A hA Q hQ; simp [*]) | (refine WK.rH (id := 1) Tryz.ntmps130 (by kernel_rfl) ?_; intro A hA Q hQ; simp [*]) | (refine WK.rH (id := 2) Tryz.ntmps130 (by kernel_rfl) ?_; intro A hA Q hQ; simp [*]) | (refine WK.rH (id := 3) Tryz.ntmps130 (by kernel_rfl) ?_; intro A hA Q hQ; simp [*]))
     refine WK.ghost (Ghost.frzVar 4 rfl rfl) ?_
     repeat' (first | apply WK.seq | apply WK.skip | refine WK.cT rfl ?_ | refine WK.cF rfl ?_ | (refine hQ.h _ _ ?_; clear hQ hA) | (refine WK.rH Tryz.ntmps130 (by kernel_rfl) ?_; intro A hA Q hQ; simp [mF, gF, *]) | (refine WK.rX (by kernel_rfl) Tryz.ntmps130 (by kernel_rfl) ?_; intro A hA Q hQ; simp [mF, gF, *]) | (refine hQ.h _ _ _ (by decide +kernel) ?_; clear hQ hA) | (refine RunQ.k rfl rfl rfl rfl rfl ?_ (cc) ?_ ?_ <;> simp (maxDischargeDepth := 120) [mF, gF, *] <;> refine ⟨?_⟩) | (refine RunQ.k rfl rfl rfl rfl rfl ?_ (b9) ?_ ?_ <;> simp (maxDischargeDepth := 120) [mF, gF, *] <;> refine ⟨?_⟩) | (refine RunX.k rfl rfl rfl rfl ?_ (cm) ?_ ?_ <;> simp (maxDischargeDepth := 120) [mF, gF, *] <;> refine ⟨?_⟩) | (refine WK.ret Tryz.func130 ?_ ?_ <;> simp (maxDischargeDepth := 120) [Tryz.results130, mF, gF, *]))
   rw [if_neg (by simp)] at hst
   clear b10 b9
   repeat' (first | apply WK.seq | apply WK.block | apply WK.skip | refine WK.cT rfl ?_ | (refine hQ.h _ _ ?_; clear hQ hA) | (refine WK.rH (id := 0) Tryz.ntmps130 (by kernel_rfl) ?_; intro A hA Q hQ; simp [*]) | (refine WK.rH (id := 1) Tryz.ntmps130 (by kernel_rfl) ?_; intro A hA Q hQ; simp [*]) | (refine WK.rH (id := 2) Tryz.ntmps130 (by kernel_rfl) ?_; intro A hA Q hQ; simp [*]) | (refine WK.rH (id := 3) Tryz.ntmps130 (by kernel_rfl) ?_; intro A hA Q hQ; simp [*]))
   refine WK.ghost (Ghost.frzVar 4 rfl rfl) ?_
   repeat' (first | apply WK.seq | apply WK.inBlock | apply WK.skip | refine WK.cF rfl ?_ | (refine hQ.h _ _ ?_; clear hQ hA) | (refine WK.rH Tryz.ntmps130 (by kernel_rfl) ?_; intro A hA Q hQ; simp [*]) | (refine WK.rX (by kernel_rfl) Tryz.ntmps130 (by kernel_rfl) ?_; intro A hA Q hQ; simp [*]) | (refine hQ.h _ _ _ (by decide +kernel) ?_; clear hQ hA) | (refine RunQ.k rfl rfl rfl rfl rfl ?_ (cc) ?_ ?_ <;> simp (maxDischargeDepth := 120) [*] <;> refine ⟨?_⟩) | (refine RunX.k rfl rfl rfl rfl ?_ (cm) ?_ ?_ <;> simp (maxDischargeDepth := 120) [*] <;> refine ⟨?_⟩))
   refine WK.next (fun n => n) (IH (i + 1) (⟨by omega, hst⟩) (by first | omega | (dsimp only; omega))) (by repeat (first | exact TmW.nil | refine TmW.upd ?_ (by simp (maxDischargeDepth := 120)))) (by repeat (first | exact BxW.nil | refine BxW.upd ?_ (by simp (maxDischargeDepth := 120)))) InjW.id
 · have hst := hi.2
   rw [show i = l.length by omega, mCheck_end] at hst
   rw [hst]
   clear b10 b9
   repeat' (first | apply WK.seq | refine WK.exit rfl ?_ | refine WK.cF rfl ?_ | (refine hQ.h _ _ ?_; clear hQ hA) | (refine WK.rH Tryz.ntmps130 (by kernel_rfl) ?_; intro A hA Q hQ; simp [mF, gF, *]) | (refine WK.ret Tryz.func130 ?_ ?_ <;> simp (maxDischargeDepth := 120) [Tryz.results130, mF, gF, *]))
theorem rone_c (l : List Wide) (v : Wide) (hl : l.length ≤ 1000000) : FnP Tryz.prog 125 [.agg v.enc, wdS l] (.bool ((l.any fun x => v == x) || l.length == 0)) := by
 unfold wdS
 refine FnP.intro Tryz.func125 rfl rfl fun G w => ?_
 repeat' (first | apply WK.seq | apply WK.block | (refine hQ.h _ _ ?_; clear hQ hA) | (refine WK.rH Tryz.ntmps125 (by kernel_rfl) ?_; intro A hA Q hQ; simp [*]))
 refine WK.lI (fun n => n) (fun i : Nat => (⟨(upd (upd (upd J 1 (.sl false l.length (wdL l))) 2 (.ptr 0 0)) 5 (.int .i64 i)), (upd B0 0 (.var v.enc)), 0⟩ : St)) (fun i => i ≤ l.length ∧ ∀ j, j < i → (v == nth l j) = false) (fun i => l.length - i) (0) (by repeat (first | exact TmW.nil | refine TmW.upd ?_ (by simp (maxDischargeDepth := 120)))) (by repeat (first | exact BxW.nil | refine BxW.upd ?_ (by simp (maxDischargeDepth := 120)))) InjW.id (⟨by omega, by simp⟩) (fun i hi IH => ?_)
 by_cases h1 : i < l.length
 · obtain ⟨h4, h3⟩ := wd_load l i h1
   have h6 : IntKind.i64.wrap ((i : Int) + 1) = i + 1 := wrap_i64 (by omega) (by omega)
   have h8 : (nth l i == v) = (v == nth l i) := by rw [Bool.eq_iff_iff, beq_iff_eq, beq_iff_eq]; exact eq_comm
   cases h5 : v == nth l i
   · rw [h5] at h8
     repeat' (first | apply WK.seq | apply WK.block | apply WK.inBlock | apply WK.skip | refine WK.cT rfl ?_ | refine WK.cF rfl ?_ | (refine hQ.h _ _ ?_; clear hQ hA) | (refine WK.rH Tryz.ntmps125 (by kernel_rfl) ?_; intro A hA Q hQ; simp [*]) | (refine WK.rX (by kernel_rfl) Tryz.ntmps125 (by kernel_rfl) ?_; intro A hA Q hQ; simp [*]) | (refine hQ.h _ _ _ (by decide +kernel) ?_; clear hQ hA))
     refine WK.next (fun n => n) (IH (i + 1) (⟨by omega, fun j hj => by by_cases h7 : j = i; (subst h7; exact h5); exact hi.2 j (by omega)⟩) (by first | omega | (dsimp only; omega))) (by repeat (first | exact TmW.nil | refine TmW.upd ?_ (by simp (maxDischargeDepth := 120)))) (by repeat (first | exact BxW.nil | refine BxW.upd ?_ (by simp (maxDischargeDepth := 120)))) InjW.id
   · rw [h5] at h8
     have e := any_true' (p := fun x => v == x) h1 h5
     repeat' (first | apply WK.seq | apply WK.block | apply WK.skip | refine WK.cT rfl ?_ | (refine hQ.h _ _ ?_; clear hQ hA) | (refine WK.rH Tryz.ntmps125 (by kernel_rfl) ?_; intro A hA Q hQ; simp [*]) | (refine WK.rX (by kernel_rfl) Tryz.ntmps125 (by kernel_rfl) ?_; intro A hA Q hQ; simp [*]) | (refine hQ.h _ _ _ (by decide +kernel) ?_; clear hQ hA) | (refine WK.ret Tryz.func125 ?_ ?_ <;> simp (maxDischargeDepth := 120) [Tryz.results125, *]))
 · have e := any_false' (p := fun x => v == x) (l := l) fun j hj => hi.2 j (by omega)
   have e2 : ((l.length : Int) == 0) = (l.length == 0) := by rw [Bool.eq_iff_iff, beq_iff_eq, beq_iff_eq]; omega
   repeat' (first | apply WK.seq | refine WK.exit rfl ?_ | refine WK.cF rfl ?_ | (refine hQ.h _ _ ?_; clear hQ hA) | (refine WK.rH Tryz.ntmps125 (by kernel_rfl) ?_; intro A hA Q hQ; simp [*]) | (refine WK.ret Tryz.func125 ?_ ?_ <;> simp (maxDischargeDepth := 120) [Tryz.results125, e, e2, *]))

theorem oxm_val (l : List Oxm) (i : Nat) (h : i < l.length) : ((oxmL l).drop (i * 6 + 2)).take 2 = (nth l i).value.enc ∧ 2 ≤ l.length * 6 - (i * 6 + 2) := by
 refine ⟨?_, by omega⟩
 unfold oxmL
 rw [← List.drop_drop, fm_drop Oxm.len, drop_nth h]; rfl
theorem oxm_at1 (l : List Oxm) (i : Nat) (h : i < l.length) (h' : i * 6 + 1 < (oxmL l).length) : (oxmL l)[i * 6 + 1] = .bool (nth l i).masked := fm_get Oxm.len l i 1 h (by omega) h'
theorem need_at0 (l : List Need) (i : Nat) (h : i < l.length) (h' : i * 2 < (needL l).length) : (needL l)[i * 2] = .int .i64 (nth l i).field := fm_get Need.len l i 0 h (by omega) h'
theorem need_at1 (l : List Need) (i : Nat) (h : i < l.length) (h' : i * 2 + 1 < (needL l).length) : (needL l)[i * 2 + 1] = .sl false (nth l i).values.length (wdL (nth l i).values) := fm_get Need.len l i 1 h (by omega) h'
set_option maxHeartbeats 4000000 in
theorem rmet_c (l : List Oxm) (f : Int) (hl : l.length ≤ 1000000) : FnP Tryz.prog 91 [oxmS l, .int .i64 f] (.bool (mMet l f)) := by
 have cn := rneeds_c f
 have hsm := needs_small f
 have hF : ∀ i, i < (needs f).length → (l.any fun o => mGives o (nth (needs f) i)) = false → mMet l f = false := fun i h hp => mMet_false h hp
 have hT : (∀ j, j < (needs f).length → (l.any fun o => mGives o (nth (needs f) j)) = true) → mMet l f = true := mMet_true
 obtain ⟨N, hN⟩ : ∃ N, needs f = N := ⟨_, rfl⟩
 rw [hN] at cn hsm hF hT
 unfold needS at cn
 clear hN
 unfold oxmS
 refine FnP.intro Tryz.func91 rfl rfl fun G w => ?_
 repeat' (first | apply WK.seq | apply WK.block | (refine hQ.h _ _ ?_; clear hQ hA) | (refine WK.rH Tryz.ntmps91 (by kernel_rfl) ?_; intro A hA Q hQ; simp [*]) | (refine RunQ.k rfl rfl rfl rfl rfl ?_ (cn) ?_ ?_ <;> simp (maxDischargeDepth := 120) [*] <;> refine ⟨?_⟩))
 refine WK.lI (fun n => n) (fun i : Nat => (⟨(upd (upd (upd J 0 (.sl false l.length (oxmL l))) 5 (.sl false N.length (needL N))) 6 (.int .i64 i)), B0, 0⟩ : St)) (fun i => i ≤ N.length ∧ ∀ j, j < i → (l.any fun o => mGives o (nth N j)) = true) (fun i => N.length - i) (0) (by repeat (first | exact TmW.nil | refine TmW.upd ?_ (by simp (maxDischargeDepth := 120)))) (by repeat (first | exact BxW.nil | refine BxW.upd ?_ (by simp (maxDischargeDepth := 120)))) InjW.id (⟨by omega, by simp⟩) (fun i hi IH => ?_)
 by_cases h1 : i < N.length
 · have m0 := need_at0 N i h1
   have m1 := need_at1 N i h1
   have h6 : IntKind.i64.wrap ((i : Int) + 1) = i + 1 := wrap_i64 (by omega) (by omega)
   have hv := hsm.2 _ (nth_mem h1)
   have hFi := hF i h1
   have hst : (l.any fun o => mGives o (nth N i)) = true → ∀ j, j < i + 1 → (l.any fun o => mGives o (nth N j)) = true := fun h j hj => by
     by_cases h7 : j = i
     · subst h7; exact h
     · exact hi.2 j (by omega)
   obtain ⟨n, hn⟩ : ∃ n, nth N i = n := ⟨_, rfl⟩
   rw [hn] at m0 m1 hv hFi hst
   have hle := hi.1
   clear hn hi hF hT hsm cn
   repeat' (first | apply WK.seq | apply WK.block | apply WK.skip | refine WK.cT rfl ?_ | (refine hQ.h _ _ ?_; clear hQ hA) | (refine WK.rH Tryz.ntmps91 (by kernel_rfl) ?_; intro A hA Q hQ; simp [*]))
   refine WK.lI (fun n => n) (fun j : Nat => (⟨(upd (upd (upd (upd (upd J 0 (.sl false l.length (oxmL l))) 5 (.sl false N.length (needL N))) 6 (.int .i64 i)) 7 (.bool ((l.take j).any fun o => mGives o n))) 8 (.int .i64 j)), B0, 0⟩ : St)) (fun j => j ≤ l.length) (fun j => l.length - j) (0) (by repeat (first | exact TmW.nil | refine TmW.upd ?_ (by simp (maxDischargeDepth := 120)))) (by repeat (first | exact BxW.nil | refine BxW.upd ?_ (by simp (maxDischargeDepth := 120)))) InjW.id (Nat.zero_le _) (fun j hj IHj => ?_)
   by_cases g1 : j < l.length
   · have k0 := oxm_get0 l j g1
     have k1 := oxm_at1 l j g1
     obtain ⟨k2, k3⟩ := oxm_val l j g1
     have g6 : IntKind.i64.wrap ((j : Int) + 1) = j + 1 := wrap_i64 (by omega) (by omega)
     have g7 : j * 6 + 1 < l.length * 6 := by omega
     have g8 : j * 6 + 2 < l.length * 6 := by omega
     have g9 : i * 2 + 1 < N.length * 2 := by omega
     have hs := any_take (fun o => mGives o n) g1
     have c := rone_c n.values (nth l j).value (by omega)
     have e : mGives (nth l j) n = ((nth l j).field == n.field && (n.values.length == 0 || (!(nth l j).masked && n.values.any fun v => (nth l j).value == v))) := rfl
     obtain ⟨o, ho⟩ : ∃ o, nth l j = o := ⟨_, rfl⟩
     rw [ho] at k0 k1 k2 hs c e
     rw [e] at hs
     obtain ⟨z, hz⟩ : ∃ z, (n.values.any fun v => o.value == v) = z := ⟨_, rfl⟩
     obtain ⟨q, hq⟩ : ∃ q, ((l.take j).any fun o => mGives o n) = q := ⟨_, rfl⟩
     rw [hz] at c hs
     rw [hq] at hs ⊢
     unfold wdS at c
     unfold Wide.enc at c k2
     have e2 : ((n.values.length : Int) == 0) = (n.values.length == 0) := by rw [Bool.eq_iff_iff, beq_iff_eq, beq_iff_eq]; omega
     obtain ⟨y, hy⟩ : ∃ y, (n.values.length == 0) = y := ⟨_, rfl⟩
     rw [hy] at c hs e2
     clear hz hq ho e hFi hst hy
     cases q
     case true =>
       rw [Bool.true_or] at hs
       repeat' (first | apply WK.seq | apply WK.block | apply WK.inBlock | apply WK.skip | refine WK.cT rfl ?_ | (refine hQ.h _ _ ?_; clear hQ hA) | (refine WK.rH Tryz.ntmps91 (by kernel_rfl) ?_; intro A hA Q hQ; simp [*]) | (refine WK.rX (by kernel_rfl) Tryz.ntmps91 (by kernel_rfl) ?_; intro A hA Q hQ; simp [*]) | (refine hQ.h _ _ _ (by decide +kernel) ?_; clear hQ hA) | (refine RunX.gd rfl (by rw [hA.h]; rfl) ?_; simp [*]))
       refine WK.next (fun n => n) (IHj (j + 1) (by omega) (by first | omega | (dsimp only; omega))) (by repeat (first | exact TmW.nil | refine TmW.upd ?_ (by simp (maxDischargeDepth := 120) [hs]))) (by repeat (first | exact BxW.nil | refine BxW.upd ?_ (by simp (maxDischargeDepth := 120) [hs]))) InjW.id
     rw [Bool.false_or] at hs
     cases h5 : o.field == n.field
     · rw [h5, Bool.false_and] at hs
       repeat' (first | apply WK.seq | apply WK.block | apply WK.inBlock | apply WK.skip | refine WK.cT rfl ?_ | (refine hQ.h _ _ ?_; clear hQ hA) | (refine WK.rH Tryz.ntmps91 (by kernel_rfl) ?_; intro A hA Q hQ; simp [*]) | (refine WK.rX (by kernel_rfl) Tryz.ntmps91 (by kernel_rfl) ?_; intro A hA Q hQ; simp [*]) | (refine hQ.h _ _ _ (by decide +kernel) ?_; clear hQ hA) | (refine RunX.gd rfl (by rw [hA.h]; rfl) ?_; simp [*]))
       refine WK.next (fun n => n) (IHj (j + 1) (by omega) (by first | omega | (dsimp only; omega))) (by repeat (first | exact TmW.nil | refine TmW.upd ?_ (by simp (maxDischargeDepth := 120) [hs]))) (by repeat (first | exact BxW.nil | refine BxW.upd ?_ (by simp (maxDischargeDepth := 120) [hs]))) InjW.id
     rw [h5, Bool.true_and] at hs
     cases y
     case true =>
       rw [Bool.true_or] at hs
       repeat' (first | apply WK.seq | apply WK.block | apply WK.inBlock | apply WK.skip | refine WK.cT rfl ?_ | (refine hQ.h _ _ ?_; clear hQ hA) | (refine WK.rH Tryz.ntmps91 (by kernel_rfl) ?_; intro A hA Q hQ; simp [*]) | (refine WK.rX (by kernel_rfl) Tryz.ntmps91 (by kernel_rfl) ?_; intro A hA Q hQ; simp [*]) | (refine hQ.h _ _ _ (by decide +kernel) ?_; clear hQ hA) | (refine RunX.gd rfl (by rw [hA.h]; rfl) ?_; simp [*]))
       refine WK.next (fun n => n) (IHj (j + 1) (by omega) (by first | omega | (dsimp only; omega))) (by repeat (first | exact TmW.nil | refine TmW.upd ?_ (by simp (maxDischargeDepth := 120) [hs]))) (by repeat (first | exact BxW.nil | refine BxW.upd ?_ (by simp (maxDischargeDepth := 120) [hs]))) InjW.id
     rw [Bool.false_or] at hs
     rw [Bool.or_false] at c
     cases h7 : o.masked
     · rw [h7, Bool.not_false, Bool.true_and] at hs
       rw [h7] at k1
       repeat' (first | apply WK.seq | apply WK.block | apply WK.inBlock | apply WK.skip | refine WK.cT rfl ?_ | (refine hQ.h _ _ ?_; clear hQ hA) | (refine WK.rH Tryz.ntmps91 (by kernel_rfl) ?_; intro A hA Q hQ; simp [*]) | (refine WK.rX (by kernel_rfl) Tryz.ntmps91 (by kernel_rfl) ?_; intro A hA Q hQ; simp [*]) | (refine hQ.h _ _ _ (by decide +kernel) ?_; clear hQ hA) | (refine RunX.gd rfl (by rw [hA.h]; rfl) ?_; simp [*]) | (refine RunXW.call rfl rfl rfl ?_ (c) ?_ ?_; (focus (simp (maxDischargeDepth := 120) [*]; done)); (focus (simp [*]; done)); refine RunX.e ?_; simp [*]))
       refine WK.next (fun n => n) (IHj (j + 1) (by omega) (by first | omega | (dsimp only; omega))) (by repeat (first | exact TmW.nil | refine TmW.upd ?_ (by simp (maxDischargeDepth := 120) [hs]))) (by repeat (first | exact BxW.nil | refine BxW.upd ?_ (by simp (maxDischargeDepth := 120) [hs]))) InjW.id
     · rw [h7, Bool.not_true, Bool.false_and] at hs
       rw [h7] at k1
       repeat' (first | apply WK.seq | apply WK.block | apply WK.inBlock | apply WK.skip | refine WK.cT rfl ?_ | (refine hQ.h _ _ ?_; clear hQ hA) | (refine WK.rH Tryz.ntmps91 (by kernel_rfl) ?_; intro A hA Q hQ; simp [*]) | (refine WK.rX (by kernel_rfl) Tryz.ntmps91 (by kernel_rfl) ?_; intro A hA Q hQ; simp [*]) | (refine hQ.h _ _ _ (by decide +kernel) ?_; clear hQ hA) | (refine RunX.gd rfl (by rw [hA.h]; rfl) ?_; simp [*]))
       refine WK.next (fun n => n) (IHj (j + 1) (by omega) (by first | omega | (dsimp only; omega))) (by repeat (first | exact TmW.nil | refine TmW.upd ?_ (by simp (maxDischargeDepth := 120) [hs]))) (by repeat (first | exact BxW.nil | refine BxW.upd ?_ (by simp (maxDischargeDepth := 120) [hs]))) InjW.id
   · have hj' : j = l.length := by omega
     subst hj'
     rw [any_take_all]
     obtain ⟨q, hq⟩ : ∃ q, (l.any fun o => mGives o n) = q := ⟨_, rfl⟩
     rw [hq] at hFi hst ⊢
     cases q
     · have e := hFi rfl
       clear hst
       repeat' (first | apply WK.seq | refine WK.exit rfl ?_ | refine WK.cT rfl ?_ | refine WK.cF rfl ?_ | (refine hQ.h _ _ ?_; clear hQ hA) | (refine WK.rH Tryz.ntmps91 (by kernel_rfl) ?_; intro A hA Q hQ; simp [*]) | (refine WK.ret Tryz.func91 ?_ ?_ <;> simp (maxDischargeDepth := 120) [Tryz.results91, *]))
     · have hst2 := hst rfl
       clear hst hFi
       repeat' (first | apply WK.seq | apply WK.inBlock | apply WK.skip | refine WK.exit rfl ?_ | refine WK.cF rfl ?_ | (refine hQ.h _ _ ?_; clear hQ hA) | (refine WK.rH Tryz.ntmps91 (by kernel_rfl) ?_; intro A hA Q hQ; simp [*]))
       refine WK.next (fun n => n) (IH (i + 1) (⟨by omega, hst2⟩) (by first | omega | (dsimp only; omega))) (by repeat (first | exact TmW.nil | refine TmW.upd ?_ (by simp (maxDischargeDepth := 120)))) (by repeat (first | exact BxW.nil | refine BxW.upd ?_ (by simp (maxDischargeDepth := 120)))) InjW.id
 · have e := hT fun j hj => hi.2 j (by omega)
   repeat' (first | apply WK.seq | refine WK.exit rfl ?_ | refine WK.cF rfl ?_ | (refine hQ.h _ _ ?_; clear hQ hA) | (refine WK.rH Tryz.ntmps91 (by kernel_rfl) ?_; intro A hA Q hQ; simp [*]) | (refine WK.ret Tryz.func91 ?_ ?_ <;> simp (maxDischargeDepth := 120) [Tryz.results91, *]))
set_option maxHeartbeats 4000000 in
theorem rmcheck_c (l : List Oxm) (hl : l.length ≤ 1000000) : FnP Tryz.prog 85 [oxmS l] (.agg (mF (mCheck l))) := by
 have b10 := rmbad_c 10
 have b9 := rmbad_c 9
 unfold oxmS
 refine FnP.intro Tryz.func85 rfl rfl fun G w => ?_
 repeat' (first | apply WK.seq | apply WK.block | (refine hQ.h _ _ ?_; clear hQ hA) | (refine WK.rH Tryz.ntmps85 (by kernel_rfl) ?_; intro A hA Q hQ; simp [*]))
 refine WK.lI (fun n => n) (fun i : Nat => (⟨(upd (upd (upd J 0 (.sl false l.length (oxmL l))) 2 (.ptr 0 0)) 3 (.int .i64 i)), (upd B0 0 (.var [.junk, .junk, .junk])), 0⟩ : St)) (fun i => i ≤ l.length ∧ mCheck l = mCheckF (l.take i) (l.drop i)) (fun i => l.length - i) (0) (by repeat (first | exact TmW.nil | refine TmW.upd ?_ (by simp (maxDischargeDepth := 120)))) (by repeat (first | exact BxW.nil | refine BxW.upd ?_ (by simp (maxDischargeDepth := 120)))) InjW.id (⟨by omega, rfl⟩) (fun i hi IH => ?_)
 by_cases h1 : i < l.length
 · have k0 := oxm_get0 l i h1
   have g6 : IntKind.i64.wrap ((i : Int) + 1) = i + 1 := wrap_i64 (by omega) (by omega)
   obtain ⟨hp1, hp2⟩ := oxm_part l i (by omega)
   have hst := hi.2
   have hle := hi.1
   rw [mCheck_at h1] at hst
   have cm := rmet_c (l.take i) (nth l i).field (by omega)
   unfold oxmS at cm
   rw [hp2] at cm
   have hcl : ClL (oxmL (l.take i)) = true := oxmL_cl _
   have hln : (oxmL (l.take i)).length = i * 6 := by rw [oxmL_len, hp2]
   have hA : (∀ k, k < i → ((nth l k).field == (nth l i).field) = false) → ((l.take i).any fun p => p.field == (nth l i).field) = false := any_front (p := fun p => p.field == (nth l i).field) hle
   have hB : ∀ k, k < i → ((nth l k).field == (nth l i).field) = true → ((l.take i).any fun p => p.field == (nth l i).field) = true := fun k hk h => any_front_true (p := fun p => p.field == (nth l i).field) hle hk h
   obtain ⟨o, ho⟩ : ∃ o, nth l i = o := ⟨_, rfl⟩
   rw [ho] at k0 hst cm hA hB
   obtain ⟨z1, hz1⟩ : ∃ z, ((l.take i).any fun p => p.field == o.field) = z := ⟨_, rfl⟩
   obtain ⟨z2, hz2⟩ : ∃ z, mMet (l.take i) o.field = z := ⟨_, rfl⟩
   rw [hz1] at hA hB hst
   rw [hz2] at cm hst
   obtain ⟨K, hK⟩ : ∃ K, oxmL (l.take i) = K := ⟨_, rfl⟩
   rw [hK] at cm hp1 hcl hln
   clear hz1 hz2 hK ho hi hp2
   repeat' (first | apply WK.seq | apply WK.block | apply WK.skip | refine WK.cT rfl ?_ | (refine hQ.h _ _ ?_; clear hQ hA) | (refine WK.rH Tryz.ntmps85 (by kernel_rfl) ?_; intro A hA Q hQ; simp [*]))
   refine WK.lI (fun n => n) (fun j : Nat => (⟨(upd (upd (upd (upd J 0 (.sl false l.length (oxmL l))) 2 (.ptr 0 0)) 3 (.int .i64 i)) 4 (.int .i64 j)), (upd B0 0 (.var [.junk, .junk, .junk])), 0⟩ : St)) (fun j => j ≤ i ∧ ∀ k, k < j → ((nth l k).field == o.field) = false) (fun j => i - j) (0) (by repeat (first | exact TmW.nil | refine TmW.upd ?_ (by simp (maxDischargeDepth := 120)))) (by repeat (first | exact BxW.nil | refine BxW.upd ?_ (by simp (maxDischargeDepth := 120)))) InjW.id (⟨by omega, by simp⟩) (fun j hj IHj => ?_)
   by_cases g1 : j < i
   · have k1 := oxm_get0 l j (by omega)
     have g6 : IntKind.i64.wrap ((j : Int) + 1) = j + 1 := wrap_i64 (by omega) (by omega)
     have g2 : j < l.length := by omega
     cases h5 : (nth l j).field == o.field
     · clear hA hB hst b10 b9 cm
       repeat' (first | apply WK.seq | apply WK.block | apply WK.inBlock | apply WK.skip | refine WK.cT rfl ?_ | refine WK.cF rfl ?_ | (refine hQ.h _ _ ?_; clear hQ hA) | (refine WK.rH Tryz.ntmps85 (by kernel_rfl) ?_; intro A hA Q hQ; simp [*]) | (refine WK.rX (by kernel_rfl) Tryz.ntmps85 (by kernel_rfl) ?_; intro A hA Q hQ; simp [*]) | (refine hQ.h _ _ _ (by decide +kernel) ?_; clear hQ hA))
       refine WK.next (fun n => n) (IHj (j + 1) (⟨by omega, fun k hk => by by_cases h7 : k = j; (subst h7; exact h5); exact hj.2 k (by omega)⟩) (by first | omega | (dsimp only; omega))) (by repeat (first | exact TmW.nil | refine TmW.upd ?_ (by simp (maxDischargeDepth := 120)))) (by repeat (first | exact BxW.nil | refine BxW.upd ?_ (by simp (maxDischargeDepth := 120)))) InjW.id
     · have e := hB j g1 h5
       subst e
       rw [if_pos rfl] at hst
       rw [hst]
       clear hA hB b9 cm
       repeat' (first | apply WK.seq | apply WK.block | apply WK.skip | refine WK.cT rfl ?_ | (refine hQ.h _ _ ?_; clear hQ hA) | (refine WK.rH Tryz.ntmps85 (by kernel_rfl) ?_; intro A hA Q hQ; simp [mF, gF, *]) | (refine WK.rX (by kernel_rfl) Tryz.ntmps85 (by kernel_rfl) ?_; intro A hA Q hQ; simp [mF, gF, *]) | (refine hQ.h _ _ _ (by decide +kernel) ?_; clear hQ hA) | (refine RunQ.k rfl rfl rfl rfl rfl ?_ (b10) ?_ ?_ <;> simp (maxDischargeDepth := 120) [mF, gF, *] <;> refine ⟨?_⟩) | (refine WK.ret Tryz.func85 ?_ ?_ <;> simp (maxDischargeDepth := 120) [Tryz.results85, mF, gF, *]))
   · have e := hA fun k hk => hj.2 k (by omega)
     subst e
     rw [if_neg (by simp)] at hst
     clear hA hB b10
     cases z2
     case false =>
       rw [if_pos rfl] at hst
       rw [hst]
       repeat' (first | apply WK.seq | refine WK.exit rfl ?_ | refine WK.cT rfl ?_ | refine WK.cF rfl ?_ | (refine hQ.h _ _ ?_; clear hQ hA) | (refine WK.rH Tryz.ntmps85 (by kernel_rfl) ?_; intro A hA Q hQ; simp [mF, gF, *]) | (refine WK.rX (by kernel_rfl) Tryz.ntmps85 (by kernel_rfl) ?_; intro A hA Q hQ; simp [mF, gF, *]) | (refine hQ.h _ _ _ (by decide +kernel) ?_; clear hQ hA) | (refine RunQ.k rfl rfl rfl rfl rfl ?_ (b9) ?_ ?_ <;> simp (maxDischargeDepth := 120) [mF, gF, *] <;> refine ⟨?_⟩) | (refine RunX.k rfl rfl rfl rfl ?_ (cm) ?_ ?_ <;> simp (maxDischargeDepth := 120) [mF, gF, *] <;> refine ⟨?_⟩) | (refine WK.ret Tryz.func85 ?_ ?_ <;> simp (maxDischargeDepth := 120) [Tryz.results85, mF, gF, *]))
     rw [if_neg (by simp)] at hst
     clear b9
     repeat' (first | apply WK.seq | apply WK.inBlock | apply WK.skip | refine WK.exit rfl ?_ | refine WK.cF rfl ?_ | (refine hQ.h _ _ ?_; clear hQ hA) | (refine WK.rH Tryz.ntmps85 (by kernel_rfl) ?_; intro A hA Q hQ; simp [*]) | (refine WK.rX (by kernel_rfl) Tryz.ntmps85 (by kernel_rfl) ?_; intro A hA Q hQ; simp [*]) | (refine hQ.h _ _ _ (by decide +kernel) ?_; clear hQ hA) | (refine RunX.k rfl rfl rfl rfl ?_ (cm) ?_ ?_ <;> simp (maxDischargeDepth := 120) [*] <;> refine ⟨?_⟩))
     refine WK.next (fun n => n) (IH (i + 1) (⟨by omega, hst⟩) (by first | omega | (dsimp only; omega))) (by repeat (first | exact TmW.nil | refine TmW.upd ?_ (by simp (maxDischargeDepth := 120)))) (by repeat (first | exact BxW.nil | refine BxW.upd ?_ (by simp (maxDischargeDepth := 120)))) InjW.id
 · have hst := hi.2
   rw [show i = l.length by omega, mCheck_end] at hst
   rw [hst]
   clear b10 b9
   repeat' (first | apply WK.seq | refine WK.exit rfl ?_ | refine WK.cF rfl ?_ | (refine hQ.h _ _ ?_; clear hQ hA) | (refine WK.rH Tryz.ntmps85 (by kernel_rfl) ?_; intro A hA Q hQ; simp [mF, gF, *]) | (refine WK.ret Tryz.func85 ?_ ?_ <;> simp (maxDischargeDepth := 120) [Tryz.results85, mF, gF, *]))

theorem mpad_c (n : Nat) (h : n < 1000000000) : FnP Tryz.prog 132 [.int .i64 n] (.int .i64 (mPad n : Nat)) := by
 have e := mPad_bit n h
 have w : IntKind.i64.wrap ((n : Int) + 7) = n + 7 := wrap_i64 (by omega) (by omega)
 rw [w] at e
 refine FnP.intro Tryz.func132 rfl rfl fun G w => ?_
 repeat' (first | apply WK.seq | (refine hQ.h _ _ ?_; clear hQ hA) | (refine WK.rH Tryz.ntmps132 (by kernel_rfl) ?_; intro A hA Q hQ; simp [*]) | (refine WK.ret Tryz.func132 ?_ ?_ <;> simp (maxDischargeDepth := 120) [Tryz.results132, *]))
def mHd : List (BitVec 8) := [0#8, 1#8, 0#8, 0#8]
def mAcc (l : List Oxm) : List (BitVec 8) := mHd ++ rwFlat oBytes l
theorem mAcc_succ {l : List Oxm} {i : Nat} (h : i < l.length) : mAcc (l.take (i + 1)) = mAcc (l.take i) ++ oBytes (nth l i) := by
 unfold mAcc rwFlat; rw [take_nth h, List.flatMap_append, List.append_assoc]; simp
theorem oFlat_len (l : List Oxm) : (rwFlat oBytes l).length ≤ l.length * 36 := by
 induction l with
 | nil => simp [rwFlat]
 | cons x l ih =>
   have h1 : (oBytes x).length ≤ 36 := oEnc_len x
   have e : rwFlat oBytes (x :: l) = oBytes x ++ rwFlat oBytes l := rfl
   rw [e, List.length_append, List.length_cons]; omega
theorem oBytes_of {o : Oxm} (h : Oxm.right o = true) : oEnc o = (oBytes o, 0) := by unfold oBytes oEnc; rw [if_pos h]
theorem oEnc_wrong {o : Oxm} (h : Oxm.right o = false) : oEnc o = ([], 1) := by unfold oEnc; rw [if_neg (by rw [h]; simp)]
theorem mFit_of {l : List Oxm} (hc : mCheck l = none) (h : ∀ j, j < l.length → Oxm.right (nth l j) = true) : mFit l = true := by
 unfold mFit
 rw [hc, Bool.and_eq_true, List.all_eq_true]
 refine ⟨rfl, fun x hx => ?_⟩
 obtain ⟨j, hj, rfl⟩ := mem_nth hx
 exact h j hj
theorem mEnc_wrong {l : List Oxm} {i : Nat} (h : i < l.length) (hr : Oxm.right (nth l i) = false) : mEnc l = ([], 1) := mEnc_bad1 fun hh => by
 have := (mFit_facts hh.1).2 _ (nth_mem h)
 rw [hr] at this; cases this
theorem mEnc_check {l : List Oxm} {c : Int} (h : mCheck l = some c) : mEnc l = ([], 1) := mEnc_bad1 fun hh => by
 have := (mFit_facts hh.1).1
 rw [h] at this; cases this
theorem mEnc_fit {l : List Oxm} (h : mFit l = true) : mEnc l = if (rwFlat oBytes l).length ≤ 1000 then (mWhole l, 0) else ([], 1) := by
 unfold mEnc
 by_cases hh : (rwFlat oBytes l).length ≤ 1000
 · rw [if_pos hh, if_pos ⟨h, hh⟩]
 · rw [if_neg hh, if_neg fun x => hh x.2]
theorem splice_len (F : List (BitVec 8)) (n : Int) : splice (byL (mHd ++ F)) 2 (byL (beN n 2)) = byL (beN 1 2 ++ (beN n 2 ++ F)) := by
 have e : byL (mHd ++ F) = byL (beN 1 2) ++ (byL [0#8, 0#8] ++ byL F) := by rw [← byL_app, ← byL_app]; rfl
 unfold splice
 rw [e, byL_len, beN_len, List.take_left' (by simp [beN_len]), ← List.append_assoc (byL (beN 1 2)), List.drop_left' (by simp [beN_len]), byL_app, byL_app, List.append_assoc]
theorem mEnc_len1 (l : List Oxm) : (mAcc l).length = 4 + (rwFlat oBytes l).length := by unfold mAcc mHd; simp; omega
set_option maxHeartbeats 4000000 in
theorem menc_c (l : List Oxm) (hl : l.length ≤ 10000) : FnT Tryz.prog 236 [oxmS l] (mEnc l).1.length 1 (byL (mEnc l).1) [.int .i64 (mEnc l).2] := by
 have ck := mcheck_c l (by omega)
 unfold oxmS at *
 cases hc : mCheck l with
 | some c =>
   have e := mEnc_check hc
   rw [hc] at ck
   rw [e]
   clear e hc
   refine FnT.intro Tryz.func236 rfl rfl fun G w => ?_
   repeat' (first | apply WK.seq | refine WK.cT rfl ?_ | (refine hQ.h _ _ ?_; clear hQ hA) | (refine WK.rH Tryz.ntmps236 (by kernel_rfl) ?_; intro A hA Q hQ; simp [mF, gF, *]) | (refine RunQ.k rfl rfl rfl rfl rfl ?_ (ck) ?_ ?_ <;> simp (maxDischargeDepth := 120) [mF, gF, *] <;> refine ⟨?_⟩))
   refine WK.ghost (Ghost.own 2 900 1 rfl rfl) ?_
   refine WK.retT2 Tryz.func236 ?_ ?_ ?_ <;> simp (maxDischargeDepth := 120) [Tryz.results236, b0_]
 | none =>
 rw [hc] at ck
 have c1 := nput_c [] 1 2 Sz2 (by simp)
 have c2 := nput_c [0#8, 1#8] 0 2 Sz2 (by simp)
 rw [show putN [] 1 2 = [0#8, 1#8] from rfl] at c1
 rw [show putN [0#8, 1#8] 0 2 = mHd from rfl] at c2
 unfold byS at c1 c2
 rw [b0_] at c1
 simp only [List.length_cons, List.length_nil, Nat.zero_add, Nat.reduceAdd, show mHd.length = 4 from rfl] at c1 c2
 have hB2 : (byL [0#8, 1#8]).take 2 = byL [0#8, 1#8] := rfl
 have hA0 : mAcc [] = mHd := by unfold mAcc; simp [rwFlat]
 have hA4 : mHd.length = 4 := rfl
 refine FnT.intro Tryz.func236 rfl rfl fun G w => ?_
 repeat' (first | apply WK.seq | apply WK.block | apply WK.skip | refine WK.cF rfl ?_ | (refine hQ.h _ _ ?_; clear hQ hA) | (refine WK.rH Tryz.ntmps236 (by kernel_rfl) ?_; intro A hA Q hQ; simp [mF, gF, *]) | (refine RunQ.callO 900 rfl rfl rfl rfl rfl ?_ (c1) ?_ ?_ ?_ ?_; (focus (simp (maxDischargeDepth := 120) [mF, gF, *]; done)); (focus (simp [mF, gF, *]; done)); (focus (simp [mF, gF, *]; done)); (focus (simp [mF, gF, *]; done)); refine RunQ.e ?_; simp [mF, gF, *]) | (refine RunQ.callOz 901 12 1 rfl rfl rfl rfl rfl rfl rfl ?_ (c2) ?_ ?_ (by simp) (by decide) ?_; (focus (simp (maxDischargeDepth := 120) [mF, gF, *]; done)); (focus (simp [mF, gF, *]; done)); (focus (simp [mF, gF, *]; done)); refine RunQ.e ?_; simp [mF, gF, *]) | (refine RunQ.k rfl rfl rfl rfl rfl ?_ (ck) ?_ ?_ <;> simp (maxDischargeDepth := 120) [mF, gF, *] <;> refine ⟨?_⟩))
 refine WK.lI (fun n => if n = 1 then 901 else n) (fun i : Nat => (⟨(upd (upd (upd (upd J 4 (.msl 1 0 (mAcc (l.take i)).length)) 14 (.sl false l.length (oxmL l))) 15 (.int .i64 l.length)) 16 (.int .i64 i)), (upd B0 1 (.buf 1 (byL (mAcc (l.take i))))), 0⟩ : St)) (fun i => i ≤ l.length ∧ ∀ j, j < i → Oxm.right (nth l j) = true) (fun i => l.length - i) (0) (by repeat (first | exact TmW.nil | refine TmW.upd ?_ (by simp (maxDischargeDepth := 120) [hA0, hA4]))) (by repeat (first | exact BxW.nil | refine BxW.upd ?_ (by simp (maxDischargeDepth := 120) [hA0, hA4]))) (by first | exact InjW.id | exact InjW.nil | exact InjW.one | exact InjW.two (by simp) | exact InjW.three (by simp) (by simp) (by simp)) (⟨by omega, by simp⟩) (fun i hi IH => ?_)
 clear c1 c2 hB2 hA0 hA4 ck
 have hal := mEnc_len1 (l.take i)
 have hfl := oFlat_len (l.take i)
 have htl : (l.take i).length ≤ i := by rw [List.length_take]; omega
 have hil := hi.1
 by_cases h1 : i < l.length
 · have g4 := oxm_sub l i h1
   have g3 : 6 ≤ l.length * 6 - i * 6 := by omega
   have g6 : IntKind.i64.wrap ((i : Int) + 1) = i + 1 := wrap_i64 (by omega) (by omega)
   have p := oenc_c (nth l i)
   have hs := mAcc_succ h1
   have hw : Oxm.right (nth l i) = false → mEnc l = ([], 1) := mEnc_wrong h1
   have hr : Oxm.right (nth l i) = true → ∀ j, j < i + 1 → Oxm.right (nth l j) = true := fun hr j hj => by
     by_cases h7 : j = i
     · subst h7; exact hr
     · exact hi.2 j (by omega)
   have hol : (oBytes (nth l i)).length ≤ 36 := oEnc_len _
   have hoe : Oxm.right (nth l i) = true → oEnc (nth l i) = (oBytes (nth l i), 0) := oBytes_of
   have hob : Oxm.right (nth l i) = false → oEnc (nth l i) = ([], 1) := oEnc_wrong
   obtain ⟨o, ho⟩ : ∃ o, nth l i = o := ⟨_, rfl⟩
   rw [ho] at g4 p hs hw hr hol hoe hob
   obtain ⟨F, hF⟩ : ∃ F, mAcc (l.take i) = F := ⟨_, rfl⟩
   rw [hF] at hal hs ⊢
   unfold Oxm.enc at g4 p
   clear ho hF hi
   cases hrt : Oxm.right o
   · rw [hw hrt]
     rw [hob hrt] at p
     unfold byS at p
     clear hw hr hoe hob hs hrt
     repeat' (first | apply WK.seq | apply WK.block | apply WK.skip | refine WK.cT rfl ?_ | (refine hQ.h _ _ ?_; clear hQ hA) | (refine WK.rH Tryz.ntmps236 (by kernel_rfl) ?_; intro A hA Q hQ; simp [bne, *]) | (refine RunQ.k rfl rfl rfl rfl rfl ?_ (p) ?_ ?_ <;> simp (maxDischargeDepth := 120) [bne, *] <;> refine ⟨?_⟩))
     refine WK.ghost (Ghost.own 2 902 1 rfl rfl) ?_
     refine WK.retT2 Tryz.func236 ?_ ?_ ?_ <;> simp (maxDischargeDepth := 120) [Tryz.results236, b0_]
   · rw [hoe hrt] at p
     have hr2 := hr hrt
     obtain ⟨B, hB⟩ : ∃ B, oBytes o = B := ⟨_, rfl⟩
     rw [hB] at p hs hol
     have hs3 : byL F ++ byL B = byL (mAcc (l.take (i + 1))) := by rw [hs, byL_app]
     have hs4 : (mAcc (l.take (i + 1))).length = F.length + B.length := by rw [hs, List.length_append]
     have hbd : F.length + B.length ≤ 140737488355328 := by omega
     have hfu := by_full B B.length rfl
     unfold byS at p
     clear hw hr hoe hob hs hrt hB hal hfl
     repeat' (first | apply WK.seq | apply WK.block | apply WK.inBlock | apply WK.skip | refine WK.cT rfl ?_ | refine WK.cF rfl ?_ | (refine hQ.h _ _ ?_; clear hQ hA) | (refine WK.rH Tryz.ntmps236 (by kernel_rfl) ?_; intro A hA Q hQ; simp [bne, *]) | (refine RunQ.append 902 appByte rfl rfl rfl rfl rfl rfl rfl rfl rfl ?_ ?_ ?_ ?_ ?_; (focus (first | omega | (simp [bne, *]; done); done)); (focus (first | omega | (simp [bne, *]; done); done)); (focus (first | omega | (simp [bne, *]; done); done)); (focus (first | omega | (simp [bne, *]; done); done)); refine RunQ.e ?_; simp [bne, *]) | (refine RunQ.k rfl rfl rfl rfl rfl ?_ (p) ?_ ?_ <;> simp (maxDischargeDepth := 120) [bne, *] <;> refine ⟨?_⟩))
     refine WK.next (fun n => if n = 1 then 902 else n) (IH (i + 1) (⟨by omega, hr2⟩) (by first | omega | (dsimp only; omega))) (by repeat (first | exact TmW.nil | refine TmW.upd ?_ (by simp (maxDischargeDepth := 120) [hs3, hs4]))) (by repeat (first | exact BxW.nil | refine BxW.upd ?_ (by simp (maxDischargeDepth := 120) [hs3, hs4]))) (by first | exact InjW.id | exact InjW.nil | exact InjW.one | exact InjW.two (by simp) | exact InjW.three (by simp) (by simp) (by simp))
 · have hT : l.take i = l := List.take_of_length_le (by omega)
   have hfit := mFit_of hc (fun j hj => hi.2 j (by omega))
   have hdef := mEnc_fit hfit
   have hwl := mWhole_len l
   rw [hT] at hal hfl ⊢
   have hX : mAcc l = mHd ++ rwFlat oBytes l := rfl
   have hW : mWhole l = beN 1 2 ++ (beN (4 + (rwFlat oBytes l).length : Nat) 2 ++ (rwFlat oBytes l ++ List.replicate (mPad (4 + (rwFlat oBytes l).length) - (4 + (rwFlat oBytes l).length)) 0#8)) := rfl
   obtain ⟨F, hF⟩ : ∃ F, rwFlat oBytes l = F := ⟨_, rfl⟩
   rw [hF] at hdef hal hfl hX hwl hW
   by_cases h6 : F.length ≤ 1000
   · rw [if_pos h6] at hdef
     have hp := mPad_ge (4 + F.length)
     have hm := mpad_c (4 + F.length) (by omega)
     have q := nputP_c [] ((4 + F.length : Nat) : Int) 2 Sz2 (by simp)
     rw [putN_beN (numOk2 (by omega)), List.nil_append] at q
     have hsp := splice_len F ((4 + F.length : Nat) : Int)
     rw [← hX] at hsp
     have hYl : (beN 1 2 ++ (beN ((4 + F.length : Nat) : Int) 2 ++ F)).length = 4 + F.length := by simp [beN_len]; omega
     have hWY : mWhole l = (beN 1 2 ++ (beN ((4 + F.length : Nat) : Int) 2 ++ F)) ++ List.replicate (mPad (4 + F.length) - (4 + F.length)) 0#8 := by rw [hW]; simp only [List.append_assoc]
     have hlast : byL (beN 1 2 ++ (beN ((4 + F.length : Nat) : Int) 2 ++ F)) ++ List.replicate (mPad (4 + F.length) - (4 + F.length)) (AV.int .u8 0) = byL (mWhole l) := by rw [hWY, byL_rep, ← byL_app]
     obtain ⟨Y, hY⟩ : ∃ Y, beN 1 2 ++ (beN ((4 + F.length : Nat) : Int) 2 ++ F) = Y := ⟨_, rfl⟩
     obtain ⟨B, hB⟩ : ∃ B, beN ((4 + F.length : Nat) : Int) 2 = B := ⟨_, rfl⟩
     have hBl : B.length = 2 := by rw [← hB, beN_len]
     rw [hY] at hsp hYl hlast
     rw [hB] at q hsp
     obtain ⟨Z, hZ⟩ : ∃ Z, mWhole l = Z := ⟨_, rfl⟩
     rw [hZ] at hlast hdef hwl
     obtain ⟨A, hA⟩ : ∃ A, mAcc l = A := ⟨_, rfl⟩
     rw [hA] at hal hsp ⊢
     obtain ⟨m, hmm⟩ : ∃ m, 4 + F.length = m := ⟨_, rfl⟩
     rw [hmm] at hal hp hm q hwl hYl hlast
     rw [hdef]
     simp only
     rw [hal, hwl]
     unfold byS at q
     rw [hBl, b0_] at q
     have hm4 : m ≤ 1004 := by omega
     have hm2 : 2 ≤ m := by omega
     have hm2' : (2 : Int) ≤ m := by omega
     have hm3 : ¬ (1004 : Int) < m := by omega
     have hm5 : 2 < m := by omega
     have hm8 : 2 ≤ m - 2 := by omega
     have hAb : (byL A).length = m := by rw [byL_len, hal]
     have hBb : (byL B).length = 2 := by rw [byL_len, hBl]
     unfold splice at hsp
     rw [hBb, List.append_assoc] at hsp
     simp only [Nat.reduceAdd] at hsp
     have w1 : IntKind.i64.wrap ((mPad m : Int) - m) = ((mPad m - m : Nat) : Int) := by rw [wrap_i64 (by omega) (by omega)]; omega
     have hm6 : m + (mPad m - m) = mPad m := by omega
     have hm7 : mPad m ≤ 140737488355328 := by omega
     clear hdef hW hX hWY hF hY hB hZ hA hmm hi hc hfit hT hfl hil
     repeat' (first | apply WK.seq | apply WK.skip | refine WK.exit rfl ?_ | refine WK.cF rfl ?_ | (refine hQ.h _ _ ?_; clear hQ hA) | (refine WK.rH (id := 0) Tryz.ntmps236 (by kernel_rfl) ?_; intro A hA Q hQ; simp [*]) | (refine WK.rH (id := 1) Tryz.ntmps236 (by kernel_rfl) ?_; intro A hA Q hQ; simp [*]) | (refine WK.rH (id := 2) Tryz.ntmps236 (by kernel_rfl) ?_; intro A hA Q hQ; simp [*]) | (refine WK.rH (id := 3) Tryz.ntmps236 (by kernel_rfl) ?_; intro A hA Q hQ; simp [*]) | (refine WK.rH (id := 4) Tryz.ntmps236 (by kernel_rfl) ?_; intro A hA Q hQ; simp [*]) | (refine WK.rH (id := 5) Tryz.ntmps236 (by kernel_rfl) ?_; intro A hA Q hQ; simp [*]) | (refine WK.rH (id := 6) Tryz.ntmps236 (by kernel_rfl) ?_; intro A hA Q hQ; simp [*]) | (refine WK.rH (id := 7) Tryz.ntmps236 (by kernel_rfl) ?_; intro A hA Q hQ; simp [*]) | (refine WK.rH (id := 8) Tryz.ntmps236 (by kernel_rfl) ?_; intro A hA Q hQ; simp [*]) | (refine WK.rH (id := 9) Tryz.ntmps236 (by kernel_rfl) ?_; intro A hA Q hQ; simp [*]) | (refine WK.rH (id := 10) Tryz.ntmps236 (by kernel_rfl) ?_; intro A hA Q hQ; simp [*]) | (refine WK.rH (id := 11) Tryz.ntmps236 (by kernel_rfl) ?_; intro A hA Q hQ; simp [*]) | (refine WK.rH (id := 12) Tryz.ntmps236 (by kernel_rfl) ?_; intro A hA Q hQ; simp [*]) | (refine WK.rH (id := 13) Tryz.ntmps236 (by kernel_rfl) ?_; intro A hA Q hQ; simp [*]))
     repeat' (first | apply WK.seq | (refine hQ.h _ _ ?_; clear hQ hA) | (refine WK.rH Tryz.ntmps236 (by kernel_rfl) ?_; intro A hA Q hQ; simp [*]) | (refine WK.rX (by kernel_rfl) Tryz.ntmps236 (by kernel_rfl) ?_; intro A hA Q hQ; simp [*]) | (refine hQ.h _ _ _ (by decide +kernel) ?_; clear hQ hA) | (refine RunX.slOwn (a := 2) (b := m) appByte rfl rfl rfl rfl ?_ ?_ ?_; (focus (simp [boundsA, intA, *]; done)); (focus (first | exact .inr rfl | (left; omega); done)); refine RunX.e ?_; simp [*]) | (refine RunX.copy appByte rfl rfl rfl rfl rfl rfl rfl rfl ?_ ?_ ?_ ?_ ?_; (focus (first | omega | (simp [*]; done); done)); (focus (first | omega | (simp [*]; done); done)); (focus (first | omega | (simp [*]; done); done)); (focus (first | omega | (simp [*]; done); done)); refine RunX.e ?_; simp [*]) | (refine RunQ.appendZ (m := (mPad m - m)) (kk := .i64) (zv := .int .u8 0) 905 appByte rfl rfl rfl rfl (by simp) (by simp) rfl ?_ rfl rfl rfl ?_ ?_ ?_ ?_; (focus (simp (maxDischargeDepth := 120) [*]; done)); (focus (first | omega | (simp [*]; done); done)); (focus (first | omega | (simp [*]; done); done)); (focus (simp [*]; done)); refine RunQ.e ?_; simp [*]) | (refine RunQ.k rfl rfl rfl rfl rfl ?_ (hm) ?_ ?_ <;> simp (maxDischargeDepth := 120) [*] <;> refine ⟨?_⟩) | (refine RunX.k rfl rfl rfl rfl ?_ (q) ?_ ?_ <;> simp (maxDischargeDepth := 120) [*] <;> refine ⟨?_⟩) | (refine WK.retT2 Tryz.func236 ?_ ?_ ?_ <;> simp (maxDischargeDepth := 120) [Tryz.results236, *]))
   · rw [if_neg h6] at hdef
     rw [hdef]
     have hm3 : (1004 : Int) < (mAcc l).length := by omega
     obtain ⟨A, hA⟩ : ∃ A, mAcc l = A := ⟨_, rfl⟩
     rw [hA] at hm3 ⊢
     clear hdef hW hX hF hi hc hfit hT hfl hil hal hA
     repeat' (first | apply WK.seq | refine WK.exit rfl ?_ | refine WK.cT rfl ?_ | refine WK.cF rfl ?_ | (refine hQ.h _ _ ?_; clear hQ hA) | (refine WK.rH Tryz.ntmps236 (by kernel_rfl) ?_; intro A hA Q hQ; simp [*]))
     refine WK.ghost (Ghost.own 2 902 1 rfl rfl) ?_
     refine WK.retT2 Tryz.func236 ?_ ?_ ?_ <;> simp (maxDischargeDepth := 120) [Tryz.results236, b0_]

def mVal (b : List (BitVec 8)) : Nat := valN ((b.drop 2).take 2)
def mKind (b : List (BitVec 8)) : Nat := valN ((b.drop 0).take 2)
def mHead (b : List (BitVec 8)) : Nat × Option Int :=
 if b.length < 4 then (0, some 1) else if mVal b < 4 ∨ b.length < mPad (mVal b) then (0, some 1) else if ¬ mKind b = 1 then (0, some 0) else if 1004 < mVal b then (0, some 1) else (mVal b, none)
def mBody (b : List (BitVec 8)) (n : Nat) : List Oxm × Nat × Option (Int × Int) :=
 match (rwDec oRd ((b.drop 4).take (n - 4))).2 with
 | some c => ([], 0, some c)
 | none => match mCheck (rwDec oRd ((b.drop 4).take (n - 4))).1 with
   | some c => ([], 0, some (4, c))
   | none => if allZ ((b.drop n).take (mPad n - n)) = false then ([], 0, some (4, 1)) else ((rwDec oRd ((b.drop 4).take (n - 4))).1, mPad n, none)
theorem mDec_eq (b : List (BitVec 8)) : mDec b = match (mHead b).2 with | some c => ([], 0, some (4, c)) | none => mBody b (mHead b).1 := by
 unfold mDec mHead
 by_cases h1 : b.length < 4
 · rw [if_pos h1, if_pos h1]
 rw [if_neg h1, if_neg h1]
 show (if mVal b < 4 ∨ b.length < mPad (mVal b) then _ else if ¬ mKind b = 1 then _ else if 1004 < mVal b then _ else mBody b (mVal b)) = _
 by_cases h2 : mVal b < 4 ∨ b.length < mPad (mVal b)
 · rw [if_pos h2, if_pos h2]
 rw [if_neg h2, if_neg h2]
 by_cases h3 : ¬ mKind b = 1
 · rw [if_pos h3, if_pos h3]
 rw [if_neg h3, if_neg h3]
 by_cases h4 : 1004 < mVal b
 · rw [if_pos h4, if_pos h4]
 · rw [if_neg h4, if_neg h4]
theorem mHead_bad {b : List (BitVec 8)} {c : Int} (h : (mHead b).2 = some c) : (mHead b).1 = 0 := by
 unfold mHead at *
 split
 · rfl
 split
 · rfl
 split
 · rfl
 split
 · rfl
 · rename_i h1 h2 h3 h4
   rw [if_neg h1, if_neg h2, if_neg h3, if_neg h4] at h; cases h
theorem mHead_good {b : List (BitVec 8)} (h : (mHead b).2 = none) : 4 ≤ (mHead b).1 ∧ (mHead b).1 ≤ 1004 ∧ mPad (mHead b).1 ≤ b.length := by
 unfold mHead at *
 split at h
 · cases h
 rename_i h1
 rw [if_neg h1]
 split at h
 · cases h
 rename_i h2
 rw [if_neg h2]
 split at h
 · cases h
 rename_i h3
 rw [if_neg h3]
 split at h
 · cases h
 rename_i h4
 rw [if_neg h4]
 simp only
 omega
set_option maxHeartbeats 4000000 in
theorem mhead_c (b : List (BitVec 8)) (hb : b.length ≤ 1000000) : FnP Tryz.prog 128 [byS b] (.tup [.int .i64 (mHead b).1, .agg (mF (mHead b).2)]) := by
 have g0 := nget_c b 0 2 Sz2 (by omega) (by omega)
 have g2 := nget_c b 2 2 Sz2 (by omega) (by omega)
 have b1 := mbad_c 1
 have b0 := mbad_c 0
 by_cases h1 : b.length < 4
 · have e : mHead b = (0, some 1) := by unfold mHead; rw [if_pos h1]
   have e2 : getN b 2 2 = (0, 3) := by unfold getN; rw [if_neg (by omega)]
   rw [e]
   rw [e2] at g2
   obtain ⟨q0, hq0⟩ : ∃ q, getN b 0 2 = q := ⟨_, rfl⟩
   rw [hq0] at g0
   unfold byS at *
   clear e e2 hq0 b0
   refine FnP.intro Tryz.func128 rfl rfl fun G w => ?_
   repeat' (first | apply WK.seq | apply WK.block | refine WK.cT rfl ?_ | (refine hQ.h _ _ ?_; clear hQ hA) | (refine WK.rH Tryz.ntmps128 (by kernel_rfl) ?_; intro A hA Q hQ; simp [mF, gF, bne, *]) | (refine RunQ.gd rfl (by rw [hA.h]; rfl) ?_; simp [mF, gF, bne, *]) | (refine RunQ.k rfl rfl rfl rfl rfl ?_ (g0) ?_ ?_ <;> simp (maxDischargeDepth := 120) [mF, gF, bne, *] <;> refine ⟨?_⟩) | (refine RunQ.k rfl rfl rfl rfl rfl ?_ (g2) ?_ ?_ <;> simp (maxDischargeDepth := 120) [mF, gF, bne, *] <;> refine ⟨?_⟩) | (refine RunQ.k rfl rfl rfl rfl rfl ?_ (b1) ?_ ?_ <;> simp (maxDischargeDepth := 120) [mF, gF, bne, *] <;> refine ⟨?_⟩) | (refine WK.ret Tryz.func128 ?_ ?_ <;> simp (maxDischargeDepth := 120) [Tryz.results128, mF, gF, bne, *]))
 have e0 : getN b 0 2 = (((mKind b : Nat) : Int), 0) := getN_val (by omega)
 have e2 : getN b 2 2 = (((mVal b : Nat) : Int), 0) := getN_val (by omega)
 have hv : mVal b < 65536 := valN_lt 2 _ (by rw [List.length_take, List.length_drop]; omega)
 have hp := mpad_c (mVal b) (by omega)
 have hd : mHead b = if mVal b < 4 ∨ b.length < mPad (mVal b) then (0, some 1) else if ¬ mKind b = 1 then (0, some 0) else if 1004 < mVal b then (0, some 1) else (mVal b, none) := by unfold mHead; rw [if_neg h1]
 rw [e0] at g0
 rw [e2] at g2
 obtain ⟨v, hvv⟩ : ∃ v, mVal b = v := ⟨_, rfl⟩
 obtain ⟨k, hk⟩ : ∃ v, mKind b = v := ⟨_, rfl⟩
 rw [hvv] at g2 hv hp hd
 rw [hk] at g0 hd
 clear hvv hk e0 e2
 unfold byS at *
 by_cases h2 : v < 4
 · have h2' : (v : Int) < 4 := by omega
   rw [if_pos (.inl h2)] at hd
   rw [hd]
   clear hd b0 hp
   refine FnP.intro Tryz.func128 rfl rfl fun G w => ?_
   repeat' (first | apply WK.seq | apply WK.block | refine WK.cT rfl ?_ | (refine hQ.h _ _ ?_; clear hQ hA) | (refine WK.rH Tryz.ntmps128 (by kernel_rfl) ?_; intro A hA Q hQ; simp [mF, gF, bne, *]) | (refine RunQ.gd rfl (by rw [hA.h]; rfl) ?_; simp [mF, gF, bne, *]) | (refine RunQ.k rfl rfl rfl rfl rfl ?_ (g0) ?_ ?_ <;> simp (maxDischargeDepth := 120) [mF, gF, bne, *] <;> refine ⟨?_⟩) | (refine RunQ.k rfl rfl rfl rfl rfl ?_ (g2) ?_ ?_ <;> simp (maxDischargeDepth := 120) [mF, gF, bne, *] <;> refine ⟨?_⟩) | (refine RunQ.k rfl rfl rfl rfl rfl ?_ (b1) ?_ ?_ <;> simp (maxDischargeDepth := 120) [mF, gF, bne, *] <;> refine ⟨?_⟩) | (refine WK.ret Tryz.func128 ?_ ?_ <;> simp (maxDischargeDepth := 120) [Tryz.results128, mF, gF, bne, *]))
 have h2' : ¬ (v : Int) < 4 := by omega
 by_cases h3 : b.length < mPad v
 · have h3' : (b.length : Int) < (mPad v : Nat) := by omega
   rw [if_pos (.inr h3)] at hd
   rw [hd]
   clear hd b0
   refine FnP.intro Tryz.func128 rfl rfl fun G w => ?_
   repeat' (first | apply WK.seq | apply WK.block | refine WK.cT rfl ?_ | (refine hQ.h _ _ ?_; clear hQ hA) | (refine WK.rH Tryz.ntmps128 (by kernel_rfl) ?_; intro A hA Q hQ; simp [mF, gF, bne, *]) | (refine RunQ.gd rfl (by rw [hA.h]; rfl) ?_; simp [mF, gF, bne, *]) | (refine RunQ.k rfl rfl rfl rfl rfl ?_ (g0) ?_ ?_ <;> simp (maxDischargeDepth := 120) [mF, gF, bne, *] <;> refine ⟨?_⟩) | (refine RunQ.k rfl rfl rfl rfl rfl ?_ (g2) ?_ ?_ <;> simp (maxDischargeDepth := 120) [mF, gF, bne, *] <;> refine ⟨?_⟩) | (refine RunQ.k rfl rfl rfl rfl rfl ?_ (b1) ?_ ?_ <;> simp (maxDischargeDepth := 120) [mF, gF, bne, *] <;> refine ⟨?_⟩) | (refine RunQW.k rfl rfl rfl rfl ?_ (hp) ?_ ?_ <;> simp (maxDischargeDepth := 120) [mF, gF, bne, *] <;> refine ⟨?_⟩) | (refine WK.ret Tryz.func128 ?_ ?_ <;> simp (maxDischargeDepth := 120) [Tryz.results128, mF, gF, bne, *]))
 have h3' : ¬ (b.length : Int) < (mPad v : Nat) := by omega
 rw [if_neg (by omega)] at hd
 by_cases h4 : k = 1
 case neg =>
   have j4 : ((k : Int) == 1) = false := by rw [beq_eq_false_iff_ne]; omega
   rw [if_pos h4] at hd
   rw [hd]
   clear hd b1
   refine FnP.intro Tryz.func128 rfl rfl fun G w => ?_
   repeat' (first | apply WK.seq | apply WK.block | refine WK.cT rfl ?_ | refine WK.cF rfl ?_ | (refine hQ.h _ _ ?_; clear hQ hA) | (refine WK.rH Tryz.ntmps128 (by kernel_rfl) ?_; intro A hA Q hQ; simp [mF, gF, bne, *]) | (refine RunQ.gd rfl (by rw [hA.h]; rfl) ?_; simp [mF, gF, bne, *]) | (refine RunQ.k rfl rfl rfl rfl rfl ?_ (g0) ?_ ?_ <;> simp (maxDischargeDepth := 120) [mF, gF, bne, *] <;> refine ⟨?_⟩) | (refine RunQ.k rfl rfl rfl rfl rfl ?_ (g2) ?_ ?_ <;> simp (maxDischargeDepth := 120) [mF, gF, bne, *] <;> refine ⟨?_⟩) | (refine RunQ.k rfl rfl rfl rfl rfl ?_ (b0) ?_ ?_ <;> simp (maxDischargeDepth := 120) [mF, gF, bne, *] <;> refine ⟨?_⟩) | (refine RunQW.k rfl rfl rfl rfl ?_ (hp) ?_ ?_ <;> simp (maxDischargeDepth := 120) [mF, gF, bne, *] <;> refine ⟨?_⟩) | (refine WK.ret Tryz.func128 ?_ ?_ <;> simp (maxDischargeDepth := 120) [Tryz.results128, mF, gF, bne, *]))
 have j4 : ((k : Int) == 1) = true := by rw [beq_iff_eq]; omega
 rw [if_neg (by simpa using h4)] at hd
 clear h4
 by_cases h5 : 1004 < v
 · have h5' : (1004 : Int) < v := by omega
   rw [if_pos h5] at hd
   rw [hd]
   clear hd b0
   refine FnP.intro Tryz.func128 rfl rfl fun G w => ?_
   repeat' (first | apply WK.seq | apply WK.block | refine WK.cT rfl ?_ | refine WK.cF rfl ?_ | (refine hQ.h _ _ ?_; clear hQ hA) | (refine WK.rH Tryz.ntmps128 (by kernel_rfl) ?_; intro A hA Q hQ; simp [mF, gF, bne, *]) | (refine RunQ.gd rfl (by rw [hA.h]; rfl) ?_; simp [mF, gF, bne, *]) | (refine RunQ.k rfl rfl rfl rfl rfl ?_ (g0) ?_ ?_ <;> simp (maxDischargeDepth := 120) [mF, gF, bne, *] <;> refine ⟨?_⟩) | (refine RunQ.k rfl rfl rfl rfl rfl ?_ (g2) ?_ ?_ <;> simp (maxDischargeDepth := 120) [mF, gF, bne, *] <;> refine ⟨?_⟩) | (refine RunQ.k rfl rfl rfl rfl rfl ?_ (b1) ?_ ?_ <;> simp (maxDischargeDepth := 120) [mF, gF, bne, *] <;> refine ⟨?_⟩) | (refine RunQW.k rfl rfl rfl rfl ?_ (hp) ?_ ?_ <;> simp (maxDischargeDepth := 120) [mF, gF, bne, *] <;> refine ⟨?_⟩) | (refine WK.ret Tryz.func128 ?_ ?_ <;> simp (maxDischargeDepth := 120) [Tryz.results128, mF, gF, bne, *]))
 · have h5' : ¬ (1004 : Int) < v := by omega
   rw [if_neg h5] at hd
   rw [hd]
   clear hd b0 b1
   refine FnP.intro Tryz.func128 rfl rfl fun G w => ?_
   repeat' (first | apply WK.seq | apply WK.block | apply WK.inBlock | apply WK.skip | refine WK.cF rfl ?_ | (refine hQ.h _ _ ?_; clear hQ hA) | (refine WK.rH Tryz.ntmps128 (by kernel_rfl) ?_; intro A hA Q hQ; simp [mF, gF, bne, *]) | (refine RunQ.gd rfl (by rw [hA.h]; rfl) ?_; simp [mF, gF, bne, *]) | (refine RunQ.k rfl rfl rfl rfl rfl ?_ (g0) ?_ ?_ <;> simp (maxDischargeDepth := 120) [mF, gF, bne, *] <;> refine ⟨?_⟩) | (refine RunQ.k rfl rfl rfl rfl rfl ?_ (g2) ?_ ?_ <;> simp (maxDischargeDepth := 120) [mF, gF, bne, *] <;> refine ⟨?_⟩) | (refine RunQW.k rfl rfl rfl rfl ?_ (hp) ?_ ?_ <;> simp (maxDischargeDepth := 120) [mF, gF, bne, *] <;> refine ⟨?_⟩) | (refine WK.ret Tryz.func128 ?_ ?_ <;> simp (maxDischargeDepth := 120) [Tryz.results128, mF, gF, bne, *]))
theorem oRd_keeps : RdKeeps oRd 4 := fun b y n h => by
 obtain ⟨_, k, hk, h4, hl, _⟩ := oRd_back h
 exact ⟨k, hk, h4, hl⟩
theorem oRd_eq {b : List (BitVec 8)} {o : Oxm} {n c : Int} (h : oDec b = (o, n, c)) : oRd b = (o, n, if c = 0 then none else some (4, c)) := by unfold oRd; rw [h]
theorem decode1_c (x : BitVec 8) : FnP Tryz.prog 133 [.int .u8 (bI x)] (.bool (!(x == 0#8))) := by
 have e := bI_zero x
 refine FnP.intro Tryz.func133 rfl rfl fun G w => ?_
 repeat' (first | apply WK.seq | (refine hQ.h _ _ ?_; clear hQ hA) | (refine WK.rH Tryz.ntmps133 (by kernel_rfl) ?_; intro A hA Q hQ; simp [bne, *]) | (refine WK.ret Tryz.func133 ?_ ?_ <;> simp (maxDischargeDepth := 120) [Tryz.results133, bne, *]))
theorem app_oxm : AppOk Tryz.prog 23 138 6 48 := ⟨by simp, by simp, by simp, by simp, by simp, by simp, by omega, by omega⟩
theorem oxmL_snoc (l : List Oxm) (x : Oxm) : oxmL l ++ x.enc = oxmL (l ++ [x]) := by unfold oxmL; rw [List.flatMap_append]; simp
set_option maxHeartbeats 4000000 in
theorem mdec_c (b : List (BitVec 8)) (hb : b.length ≤ 1000000) : FnP Tryz.prog 105 [byS b] (.tup [oxmS (mDec b).1, .int .i64 (mDec b).2.1, .agg (gF (mDec b).2.2)]) := by
 have hh := mhead_c b hb
 have hde := mDec_eq b
 unfold oxmS
 cases hq : (mHead b).2 with
 | some c =>
   have h0 := mHead_bad hq
   rw [hq] at hh hde
   rw [h0] at hh
   rw [hde]
   unfold byS at *
   clear hde hq h0
   refine FnP.intro Tryz.func105 rfl rfl fun G w => ?_
   repeat' (first | apply WK.seq | refine WK.cT rfl ?_ | (refine hQ.h _ _ ?_; clear hQ hA) | (refine WK.rH Tryz.ntmps105 (by kernel_rfl) ?_; intro A hA Q hQ; simp [mF, gF, oN_, *]) | (refine WK.rX (by kernel_rfl) Tryz.ntmps105 (by kernel_rfl) ?_; intro A hA Q hQ; simp [mF, gF, oN_, *]) | (refine hQ.h _ _ _ (by decide +kernel) ?_; clear hQ hA) | (refine RunQ.k rfl rfl rfl rfl rfl ?_ (hh) ?_ ?_ <;> simp (maxDischargeDepth := 120) [mF, gF, oN_, *] <;> refine ⟨?_⟩) | (refine WK.ret Tryz.func105 ?_ ?_ <;> simp (maxDischargeDepth := 120) [Tryz.results105, mF, gF, oN_, *]))
 | none =>
 obtain ⟨n4, n1, np⟩ := mHead_good hq
 rw [hq] at hh hde
 obtain ⟨n, hn⟩ : ∃ n, (mHead b).1 = n := ⟨_, rfl⟩
 rw [hn] at hh hde n4 n1 np
 simp only at hde
 have hp := mPad_ge n
 unfold mBody at hde
 have hRl : ((b.drop 4).take (n - 4)).length = n - 4 := by rw [List.length_take, List.length_drop]; omega
 have hRb : ((byL b).drop 4).take (n - 4) = byL ((b.drop 4).take (n - 4)) := by rw [byL_drop, byL_take]
 obtain ⟨R, hR⟩ : ∃ R, (b.drop 4).take (n - 4) = R := ⟨_, rfl⟩
 rw [hR] at hRl hRb hde
 have hst := RwAt.start oRd 4 R
 have u4 : (4 : Int) ≤ n := by omega
 have un : (n : Int) ≤ b.length := by omega
 have un2 : n ≤ b.length := by omega
 have b1 := mbad_c 1
 unfold byS at hh
 clear hn hq hR
 unfold byS
 refine FnP.intro Tryz.func105 rfl rfl fun G w => ?_
 repeat' (first | apply WK.seq | apply WK.block | apply WK.skip | refine WK.cF rfl ?_ | (refine hQ.h _ _ ?_; clear hQ hA) | (refine WK.rH Tryz.ntmps105 (by kernel_rfl) ?_; intro A hA Q hQ; simp [mF, gF, *]) | (refine RunQ.k rfl rfl rfl rfl rfl ?_ (hh) ?_ ?_ <;> simp (maxDischargeDepth := 120) [mF, gF, *] <;> refine ⟨?_⟩))
 refine WK.ghost (Ghost.own 7 900 6 rfl rfl) ?_
 refine WK.lI (fun n => if n = 0 then 2 else if n = 1 then 900 else n) (fun x : Nat × Nat × List Oxm => (⟨(upd (upd (upd (upd (upd J 0 (.sl false b.length (byL b))) 4 (.ptr 0 0)) 5 (.int .i64 n)) 7 (.msl 1 0 x.2.2.length)) 8 (.sl false (R.length - x.2.1) (byL (R.drop x.2.1)))), (upd (upd B0 0 (.var [.junk, .junk, .junk])) 1 (.buf 6 (oxmL x.2.2))), 0⟩ : St)) (fun x => RwAt oRd 4 R x) (fun x => R.length - x.2.1) ((R.length, 0, [])) (by repeat (first | exact TmW.nil | refine TmW.upd ?_ (by simp (maxDischargeDepth := 120) [hRl, oN_]))) (by repeat (first | exact BxW.nil | refine BxW.upd ?_ (by simp (maxDischargeDepth := 120) [hRl, oN_]))) (by first | exact InjW.id | exact InjW.nil | exact InjW.one | exact InjW.two (by simp) | exact InjW.three (by simp) (by simp) (by simp)) (hst) (fun i hi IH => ?_)
 obtain ⟨f, p, acc⟩ := i
 have hle := hi.le
 have hsm := hi.small
 simp only at hle hsm hi ⊢
 clear hh hst hRb
 by_cases h1 : p < R.length
 · have hd := odec_c (R.drop p) (by rw [List.length_drop]; omega)
   obtain ⟨o, k, c, ho⟩ : ∃ o k c, oDec (R.drop p) = (o, k, c) := ⟨_, _, _, rfl⟩
   rw [ho] at hd
   have hrd := oRd_eq ho
   unfold byS at hd
   rw [List.length_drop] at hd
   have hpos : 0 < R.length - p := by omega
   have hpos' : (0 : Int) < ((R.length - p : Nat) : Int) := by omega
   by_cases hc : c = 0
   case neg =>
     rw [if_neg hc] at hrd
     have e := RwAt.bad hi h1 hrd
     rw [e] at hde
     simp only at hde
     rw [hde]
     obtain ⟨L, hL⟩ : ∃ L, R.length - p = L := ⟨_, rfl⟩
     obtain ⟨B, hB⟩ : ∃ B, R.drop p = B := ⟨_, rfl⟩
     rw [hL] at hd hpos hpos' ⊢
     rw [hB] at hd ⊢
     have hfc : oFault c = [.bool true, .int .i64 4, .int .i64 c] := by unfold oFault; rw [if_neg hc]
     rw [hfc] at hd
     unfold Oxm.enc at hd
     clear hde hL hB ho hrd e hi hfc b1
     repeat' (first | apply WK.seq | apply WK.block | apply WK.skip | refine WK.cT rfl ?_ | (refine hQ.h _ _ ?_; clear hQ hA) | (refine WK.rH Tryz.ntmps105 (by kernel_rfl) ?_; intro A hA Q hQ; simp [gF, oN_, *]) | (refine WK.rX (by kernel_rfl) Tryz.ntmps105 (by kernel_rfl) ?_; intro A hA Q hQ; simp [gF, oN_, *]) | (refine hQ.h _ _ _ (by decide +kernel) ?_; clear hQ hA) | (refine RunQ.k rfl rfl rfl rfl rfl ?_ (hd) ?_ ?_ <;> simp (maxDischargeDepth := 120) [gF, oN_, *] <;> refine ⟨?_⟩) | (refine WK.ret Tryz.func105 ?_ ?_ <;> simp (maxDischargeDepth := 120) [Tryz.results105, gF, oN_, *]))
   subst hc
   rw [if_pos rfl] at hrd
   obtain ⟨m, hm, hml, hm0, hn⟩ := RwAt.next (by omega) oRd_keeps hi h1 hrd
   simp only at hml hn
   subst hm
   have hml' : (m : Int) ≤ ((R.length - p : Nat) : Int) := by omega
   have hml2 : m ≤ R.length - p := by omega
   have hdd : ((byL (R.drop p)).drop m).take (R.length - p - m) = byL (R.drop (p + m)) := by
     rw [byL_drop, List.drop_drop]; exact by_full _ _ (by rw [List.length_drop]; omega)
   have hll : R.length - (p + m) = R.length - p - m := by omega
   have hbd : (acc.length + 1) * 48 ≤ 140737488355328 := by omega
   have hsq := oxmL_snoc acc o
   obtain ⟨L, hL⟩ : ∃ L, R.length - p = L := ⟨_, rfl⟩
   obtain ⟨B, hB⟩ : ∃ B, R.drop p = B := ⟨_, rfl⟩
   rw [hL] at hd hpos hpos' hml' hml2 hdd hll ⊢
   rw [hB] at hd hdd ⊢
   have hfc : oFault 0 = [.bool false, .int .i64 0, .int .i64 0] := rfl
   rw [hfc] at hd
   unfold Oxm.enc at hd hsq
   clear hde hL hB ho hrd hi hfc b1
   repeat' (first | apply WK.seq | apply WK.block | apply WK.inBlock | apply WK.skip | refine WK.cT rfl ?_ | refine WK.cF rfl ?_ | (refine hQ.h _ _ ?_; clear hQ hA) | (refine WK.rH Tryz.ntmps105 (by kernel_rfl) ?_; intro A hA Q hQ; simp [*]) | (refine WK.rX (by kernel_rfl) Tryz.ntmps105 (by kernel_rfl) ?_; intro A hA Q hQ; simp [*]) | (refine hQ.h _ _ _ (by decide +kernel) ?_; clear hQ hA) | (refine RunX.append 902 app_oxm rfl rfl rfl rfl rfl rfl rfl rfl ?_ ?_ ?_ ?_ ?_; (focus (first | omega | (simp [*]; done); done)); (focus (first | omega | (simp [*]; done); done)); (focus (first | omega | (simp [*]; done); done)); (focus (first | omega | (simp [*]; done); done)); refine RunX.e ?_; simp [*]) | (refine RunQ.k rfl rfl rfl rfl rfl ?_ (hd) ?_ ?_ <;> simp (maxDischargeDepth := 120) [*] <;> refine ⟨?_⟩))
   refine WK.next (fun n => if n = 1 then 902 else n) (IH ((f - 1, p + m, acc ++ [o])) (hn) (by first | omega | (dsimp only; omega))) (by repeat (first | exact TmW.nil | refine TmW.upd ?_ (by simp (maxDischargeDepth := 120) [hsq, hll, hdd]))) (by repeat (first | exact BxW.nil | refine BxW.upd ?_ (by simp (maxDischargeDepth := 120) [hsq, hll, hdd]))) (by first | exact InjW.id | exact InjW.nil | exact InjW.one | exact InjW.two (by simp) | exact InjW.three (by simp) (by simp) (by simp))
 · have hstop := RwAt.stop hi h1
   simp only at hstop
   rw [hstop] at hde
   simp only at hde
   have hpos : ¬ 0 < R.length - p := by omega
   have hpos' : ¬ (0 : Int) < ((R.length - p : Nat) : Int) := by omega
   obtain ⟨L, hL⟩ : ∃ L, R.length - p = L := ⟨_, rfl⟩
   rw [hL] at hpos hpos' ⊢
   obtain ⟨B, hB⟩ : ∃ B, R.drop p = B := ⟨_, rfl⟩
   rw [hB]
   have hcl : ClL (oxmL acc) = true := oxmL_cl _
   have hT := oxmL_take acc
   have ck := mcheck_c acc (by omega)
   unfold oxmS at ck
   have hpd := mpad_c n (by omega)
   have hz := containsf_by 133 [] (fun x => !(x == 0#8)) ((b.drop n).take (mPad n - n)) rfl (by rw [List.length_take, List.length_drop]; omega) (fun x _ => decode1_c x)
   have ez : ((b.drop n).take (mPad n - n)).any (fun x => !(x == 0#8)) = !allZ ((b.drop n).take (mPad n - n)) := by unfold allZ; rw [List.any_eq_not_all_not]; simp
   rw [ez] at hz
   have hzl : ((b.drop n).take (mPad n - n)).length = mPad n - n := by rw [List.length_take, List.length_drop]; omega
   have hzb : ((byL b).drop n).take (mPad n - n) = byL ((b.drop n).take (mPad n - n)) := by rw [byL_drop, byL_take]
   obtain ⟨Z, hZ⟩ : ∃ Z, (b.drop n).take (mPad n - n) = Z := ⟨_, rfl⟩
   rw [hZ] at hz hzl hzb hde
   unfold byS at hz
   rw [hzl] at hz
   have v1 : (n : Int) ≤ (mPad n : Nat) := by omega
   have v2 : ((mPad n : Nat) : Int) ≤ b.length := by omega
   have v3 : n ≤ mPad n := by omega
   obtain ⟨q, hqq⟩ : ∃ q, mPad n = q := ⟨_, rfl⟩
   rw [hqq] at hpd hz hzb v1 v2 v3 hde np
   obtain ⟨y, hy⟩ : ∃ y, allZ Z = y := ⟨_, rfl⟩
   rw [hy] at hz hde
   clear hL hB hi hstop hRl hp hzl hZ hqq hy ez
   repeat' (first | apply WK.seq | refine WK.exit rfl ?_ | refine WK.cF rfl ?_ | (refine hQ.h _ _ ?_; clear hQ hA) | (refine WK.rH (id := 0) Tryz.ntmps105 (by kernel_rfl) ?_; intro A hA Q hQ; simp [*]) | (refine WK.rH (id := 1) Tryz.ntmps105 (by kernel_rfl) ?_; intro A hA Q hQ; simp [*]) | (refine WK.rH (id := 2) Tryz.ntmps105 (by kernel_rfl) ?_; intro A hA Q hQ; simp [*]) | (refine WK.rH (id := 3) Tryz.ntmps105 (by kernel_rfl) ?_; intro A hA Q hQ; simp [*]) | (refine WK.rH (id := 4) Tryz.ntmps105 (by kernel_rfl) ?_; intro A hA Q hQ; simp [*]) | (refine WK.rH (id := 5) Tryz.ntmps105 (by kernel_rfl) ?_; intro A hA Q hQ; simp [*]) | (refine WK.rH (id := 6) Tryz.ntmps105 (by kernel_rfl) ?_; intro A hA Q hQ; simp [*]))
   refine WK.ghost (Ghost.frzSl 7 6 rfl rfl) ?_
   cases hck : mCheck acc with
   | some c =>
     rw [hck] at ck hde
     simp only at hde
     rw [hde]
     clear hde hck hz hpd b1
     repeat' (first | apply WK.seq | refine WK.cT rfl ?_ | (refine hQ.h _ _ ?_; clear hQ hA) | (refine WK.rH Tryz.ntmps105 (by kernel_rfl) ?_; intro A hA Q hQ; simp [mF, gF, oN_, *]) | (refine WK.rX (by kernel_rfl) Tryz.ntmps105 (by kernel_rfl) ?_; intro A hA Q hQ; simp [mF, gF, oN_, *]) | (refine hQ.h _ _ _ (by decide +kernel) ?_; clear hQ hA) | (refine RunQ.k rfl rfl rfl rfl rfl ?_ (ck) ?_ ?_ <;> simp (maxDischargeDepth := 120) [mF, gF, oN_, *] <;> refine ⟨?_⟩) | (refine WK.ret Tryz.func105 ?_ ?_ <;> simp (maxDischargeDepth := 120) [Tryz.results105, mF, gF, oN_, *]))
   | none =>
     rw [hck] at ck hde
     simp only at hde
     cases y
     · rw [if_pos rfl] at hde
       rw [hde]
       clear hde hck
       repeat' (first | apply WK.seq | apply WK.skip | refine WK.cT rfl ?_ | refine WK.cF rfl ?_ | (refine hQ.h _ _ ?_; clear hQ hA) | (refine WK.rH Tryz.ntmps105 (by kernel_rfl) ?_; intro A hA Q hQ; simp [mF, gF, oN_, *]) | (refine RunQ.k rfl rfl rfl rfl rfl ?_ (ck) ?_ ?_ <;> simp (maxDischargeDepth := 120) [mF, gF, oN_, *] <;> refine ⟨?_⟩) | (refine RunQ.k rfl rfl rfl rfl rfl ?_ (hpd) ?_ ?_ <;> simp (maxDischargeDepth := 120) [mF, gF, oN_, *] <;> refine ⟨?_⟩) | (refine RunQ.k rfl rfl rfl rfl rfl ?_ (hz) ?_ ?_ <;> simp (maxDischargeDepth := 120) [mF, gF, oN_, *] <;> refine ⟨?_⟩) | (refine RunQ.k rfl rfl rfl rfl rfl ?_ (b1) ?_ ?_ <;> simp (maxDischargeDepth := 120) [mF, gF, oN_, *] <;> refine ⟨?_⟩) | (refine WK.ret Tryz.func105 ?_ ?_ <;> simp (maxDischargeDepth := 120) [Tryz.results105, mF, gF, oN_, *]))
     · rw [if_neg (by simp)] at hde
       rw [hde]
       clear hde hck b1
       repeat' (first | apply WK.seq | apply WK.skip | refine WK.cF rfl ?_ | (refine hQ.h _ _ ?_; clear hQ hA) | (refine WK.rH Tryz.ntmps105 (by kernel_rfl) ?_; intro A hA Q hQ; simp [mF, gF, oN_, *]) | (refine RunQ.k rfl rfl rfl rfl rfl ?_ (ck) ?_ ?_ <;> simp (maxDischargeDepth := 120) [mF, gF, oN_, *] <;> refine ⟨?_⟩) | (refine RunQ.k rfl rfl rfl rfl rfl ?_ (hpd) ?_ ?_ <;> simp (maxDischargeDepth := 120) [mF, gF, oN_, *] <;> refine ⟨?_⟩) | (refine RunQ.k rfl rfl rfl rfl rfl ?_ (hz) ?_ ?_ <;> simp (maxDischargeDepth := 120) [mF, gF, oN_, *] <;> refine ⟨?_⟩) | (refine WK.ret Tryz.func105 ?_ ?_ <;> simp (maxDischargeDepth := 120) [Tryz.results105, mF, gF, oN_, *]))

theorem oFlat_succ {l : List Oxm} {i : Nat} (h : i < l.length) : rwFlat oBytes (l.take (i + 1)) = rwFlat oBytes (l.take i) ++ oBytes (nth l i) := by
 unfold rwFlat; rw [take_nth h, List.flatMap_append]; simp
theorem mPad_stop {m k : Nat} (h1 : m ≤ k) (h2 : k ≤ mPad m) : (k % 8 = 0 ↔ k = mPad m) := by unfold mPad at *; omega
theorem byL_zero (Y : List (BitVec 8)) (m k : Nat) (h : m ≤ k) : byL (Y ++ List.replicate (k - m) 0#8) ++ [AV.int .u8 0] = byL (Y ++ List.replicate (k + 1 - m) 0#8) := by
 rw [show k + 1 - m = (k - m) + 1 by omega, List.replicate_succ', ← List.append_assoc, byL_app (Y ++ List.replicate (k - m) 0#8)]; rfl
set_option maxHeartbeats 4000000 in
theorem rmenc_c (l : List Oxm) (hl : l.length ≤ 10000) : FnT Tryz.prog 54 [oxmS l] (mEnc l).1.length 1 (byL (mEnc l).1) [.int .i64 (mEnc l).2] := by
 have ck := rmcheck_c l (by omega)
 unfold oxmS at *
 cases hc : mCheck l with
 | some c =>
   have e := mEnc_check hc
   rw [hc] at ck
   rw [e]
   clear e hc
   refine FnT.intro Tryz.func54 rfl rfl fun G w => ?_
   repeat' (first | apply WK.seq | refine WK.cT rfl ?_ | (refine hQ.h _ _ ?_; clear hQ hA) | (refine WK.rH Tryz.ntmps54 (by kernel_rfl) ?_; intro A hA Q hQ; simp [mF, gF, *]) | (refine RunQ.k rfl rfl rfl rfl rfl ?_ (ck) ?_ ?_ <;> simp (maxDischargeDepth := 120) [mF, gF, *] <;> refine ⟨?_⟩))
   refine WK.ghost (Ghost.own 2 900 1 rfl rfl) ?_
   refine WK.retT2 Tryz.func54 ?_ ?_ ?_ <;> simp (maxDischargeDepth := 120) [Tryz.results54, b0_]
 | none =>
 rw [hc] at ck
 refine FnT.intro Tryz.func54 rfl rfl fun G w => ?_
 repeat' (first | apply WK.seq | apply WK.block | apply WK.skip | refine WK.cF rfl ?_ | (refine hQ.h _ _ ?_; clear hQ hA) | (refine WK.rH Tryz.ntmps54 (by kernel_rfl) ?_; intro A hA Q hQ; simp [mF, gF, *]) | (refine RunQ.k rfl rfl rfl rfl rfl ?_ (ck) ?_ ?_ <;> simp (maxDischargeDepth := 120) [mF, gF, *] <;> refine ⟨?_⟩))
 refine WK.ghost (Ghost.own 4 901 1 rfl rfl) ?_
 refine WK.lI (fun n => if n = 1 then 901 else n) (fun i : Nat => (⟨(upd (upd (upd J 0 (.sl false l.length (oxmL l))) 4 (.msl 1 0 (rwFlat oBytes (l.take i)).length)) 5 (.int .i64 i)), (upd B0 1 (.buf 1 (byL (rwFlat oBytes (l.take i))))), 0⟩ : St)) (fun i => i ≤ l.length ∧ ∀ j, j < i → Oxm.right (nth l j) = true) (fun i => l.length - i) (0) (by repeat (first | exact TmW.nil | refine TmW.upd ?_ (by simp (maxDischargeDepth := 120) [rwFlat, b0_]))) (by repeat (first | exact BxW.nil | refine BxW.upd ?_ (by simp (maxDischargeDepth := 120) [rwFlat, b0_]))) (by first | exact InjW.id | exact InjW.nil | exact InjW.one | exact InjW.two (by simp) | exact InjW.three (by simp) (by simp) (by simp)) (⟨by omega, by simp⟩) (fun i hi IH => ?_)
 clear ck
 have hfl := oFlat_len (l.take i)
 have htl : (l.take i).length ≤ i := by rw [List.length_take]; omega
 have hil := hi.1
 by_cases h1 : i < l.length
 · have g4 := oxm_sub l i h1
   have g3 : 6 ≤ l.length * 6 - i * 6 := by omega
   have g6 : IntKind.i64.wrap ((i : Int) + 1) = i + 1 := wrap_i64 (by omega) (by omega)
   have p := roenc_c (nth l i)
   have hs := oFlat_succ h1
   have hw : Oxm.right (nth l i) = false → mEnc l = ([], 1) := mEnc_wrong h1
   have hr : Oxm.right (nth l i) = true → ∀ j, j < i + 1 → Oxm.right (nth l j) = true := fun hr j hj => by
     by_cases h7 : j = i
     · subst h7; exact hr
     · exact hi.2 j (by omega)
   have hol : (oBytes (nth l i)).length ≤ 36 := oEnc_len _
   have hoe : Oxm.right (nth l i) = true → oEnc (nth l i) = (oBytes (nth l i), 0) := oBytes_of
   have hob : Oxm.right (nth l i) = false → oEnc (nth l i) = ([], 1) := oEnc_wrong
   obtain ⟨o, ho⟩ : ∃ o, nth l i = o := ⟨_, rfl⟩
   rw [ho] at g4 p hs hw hr hol hoe hob
   obtain ⟨F, hF⟩ : ∃ F, rwFlat oBytes (l.take i) = F := ⟨_, rfl⟩
   rw [hF] at hfl hs ⊢
   unfold Oxm.enc at g4 p
   clear ho hF hi
   cases hrt : Oxm.right o
   · rw [hw hrt]
     rw [hob hrt] at p
     unfold byS at p
     clear hw hr hoe hob hs hrt
     repeat' (first | apply WK.seq | apply WK.block | apply WK.skip | refine WK.cT rfl ?_ | (refine hQ.h _ _ ?_; clear hQ hA) | (refine WK.rH Tryz.ntmps54 (by kernel_rfl) ?_; intro A hA Q hQ; simp [bne, *]) | (refine RunQ.k rfl rfl rfl rfl rfl ?_ (p) ?_ ?_ <;> simp (maxDischargeDepth := 120) [bne, *] <;> refine ⟨?_⟩))
     refine WK.ghost (Ghost.own 2 902 1 rfl rfl) ?_
     refine WK.retT2 Tryz.func54 ?_ ?_ ?_ <;> simp (maxDischargeDepth := 120) [Tryz.results54, b0_]
   · rw [hoe hrt] at p
     have hr2 := hr hrt
     obtain ⟨B, hB⟩ : ∃ B, oBytes o = B := ⟨_, rfl⟩
     rw [hB] at p hs hol
     have hs3 : byL F ++ byL B = byL (rwFlat oBytes (l.take (i + 1))) := by rw [hs, byL_app]
     have hs4 : (rwFlat oBytes (l.take (i + 1))).length = F.length + B.length := by rw [hs, List.length_append]
     have hbd : F.length + B.length ≤ 140737488355328 := by omega
     have hfu := by_full B B.length rfl
     unfold byS at p
     clear hw hr hoe hob hs hrt hB
     repeat' (first | apply WK.seq | apply WK.block | apply WK.inBlock | apply WK.skip | refine WK.cT rfl ?_ | refine WK.cF rfl ?_ | (refine hQ.h _ _ ?_; clear hQ hA) | (refine WK.rH Tryz.ntmps54 (by kernel_rfl) ?_; intro A hA Q hQ; simp [bne, *]) | (refine RunQ.append 902 appByte rfl rfl rfl rfl rfl rfl rfl rfl rfl ?_ ?_ ?_ ?_ ?_; (focus (first | omega | (simp [bne, *]; done); done)); (focus (first | omega | (simp [bne, *]; done); done)); (focus (first | omega | (simp [bne, *]; done); done)); (focus (first | omega | (simp [bne, *]; done); done)); refine RunQ.e ?_; simp [bne, *]) | (refine RunQ.k rfl rfl rfl rfl rfl ?_ (p) ?_ ?_ <;> simp (maxDischargeDepth := 120) [bne, *] <;> refine ⟨?_⟩))
     refine WK.next (fun n => if n = 1 then 902 else n) (IH (i + 1) (⟨by omega, hr2⟩) (by first | omega | (dsimp only; omega))) (by repeat (first | exact TmW.nil | refine TmW.upd ?_ (by simp (maxDischargeDepth := 120) [hs3, hs4]))) (by repeat (first | exact BxW.nil | refine BxW.upd ?_ (by simp (maxDischargeDepth := 120) [hs3, hs4]))) (by first | exact InjW.id | exact InjW.nil | exact InjW.one | exact InjW.two (by simp) | exact InjW.three (by simp) (by simp) (by simp))
 · have hT : l.take i = l := List.take_of_length_le (by omega)
   have hfit := mFit_of hc (fun j hj => hi.2 j (by omega))
   have hdef := mEnc_fit hfit
   have hwl := mWhole_len l
   rw [hT] at hfl ⊢
   have hW : mWhole l = beN 1 2 ++ (beN (4 + (rwFlat oBytes l).length : Nat) 2 ++ (rwFlat oBytes l ++ List.replicate (mPad (4 + (rwFlat oBytes l).length) - (4 + (rwFlat oBytes l).length)) 0#8)) := rfl
   obtain ⟨F, hF⟩ : ∃ F, rwFlat oBytes l = F := ⟨_, rfl⟩
   rw [hF] at hdef hfl hwl hW ⊢
   by_cases h6 : F.length ≤ 1000
   case neg =>
     rw [if_neg h6] at hdef
     rw [hdef]
     have hm3 : (1000 : Int) < F.length := by omega
     clear hdef hW hF hi hc hfit hT hfl hil
     repeat' (first | apply WK.seq | refine WK.exit rfl ?_ | refine WK.cT rfl ?_ | refine WK.cF rfl ?_ | (refine hQ.h _ _ ?_; clear hQ hA) | (refine WK.rH Tryz.ntmps54 (by kernel_rfl) ?_; intro A hA Q hQ; simp [*]))
     refine WK.ghost (Ghost.own 2 902 1 rfl rfl) ?_
     refine WK.retT2 Tryz.func54 ?_ ?_ ?_ <;> simp (maxDischargeDepth := 120) [Tryz.results54, b0_]
   rw [if_pos h6] at hdef
   have hp := mPad_ge (4 + F.length)
   have c1 := rput_c [] 1 2 Sz2 (by simp)
   rw [show putN [] 1 2 = [0#8, 1#8] from rfl] at c1
   have c2 := rput_c [0#8, 1#8] ((4 + F.length : Nat) : Int) 2 Sz2 (by simp)
   rw [putN_beN (numOk2 (by omega))] at c2
   have hHl : ([0#8, 1#8] ++ beN ((4 + F.length : Nat) : Int) 2).length = 4 := by simp [beN_len]
   have hWY : mWhole l = (([0#8, 1#8] ++ beN ((4 + F.length : Nat) : Int) 2) ++ F) ++ List.replicate (mPad (4 + F.length) - (4 + F.length)) 0#8 := by rw [hW]; simp only [List.append_assoc]; rfl
   have hB2 : (byL [0#8, 1#8]).take 2 = byL [0#8, 1#8] := rfl
   obtain ⟨H, hH⟩ : ∃ H, [0#8, 1#8] ++ beN ((4 + F.length : Nat) : Int) 2 = H := ⟨_, rfl⟩
   rw [hH] at c2 hHl hWY
   have hYY : byL H ++ byL F = byL (H ++ F) := (byL_app H F).symm
   have hYl : (H ++ F).length = 4 + F.length := by rw [List.length_append, hHl]
   obtain ⟨Y, hY⟩ : ∃ Y, H ++ F = Y := ⟨_, rfl⟩
   rw [hY] at hYY hWY hYl
   have hfu := by_full F F.length rfl
   have w4 : IntKind.i64.wrap (4 + (F.length : Int)) = 4 + (F.length : Int) := wrap_i64 (by omega) (by omega)
   have hm3 : ¬ (1000 : Int) < F.length := by omega
   have hbd : 4 + F.length ≤ 140737488355328 := by omega
   unfold byS at c1 c2
   simp only [hHl, b0_, List.length_cons, List.length_nil, Nat.zero_add, Nat.reduceAdd, Int.natCast_add, Int.cast_ofNat_Int] at c1 c2
   clear hW hF hi hc hfit hT hfl hil hH hY
   repeat' (first | apply WK.seq | apply WK.block | apply WK.skip | refine WK.exit rfl ?_ | refine WK.cF rfl ?_ | (refine hQ.h _ _ ?_; clear hQ hA) | (refine WK.rH Tryz.ntmps54 (by kernel_rfl) ?_; intro A hA Q hQ; simp [*]) | (refine RunQ.callO 902 rfl rfl rfl rfl rfl ?_ (c1) ?_ ?_ ?_ ?_; (focus (simp (maxDischargeDepth := 120) [*]; done)); (focus (simp [*]; done)); (focus (simp [*]; done)); (focus (simp [*]; done)); refine RunQ.e ?_; simp [*]) | (refine RunQ.callOz 903 35 1 rfl rfl rfl rfl rfl rfl rfl ?_ (c2) ?_ ?_ (by simp) (by decide) ?_; (focus (simp (maxDischargeDepth := 120) [*]; done)); (focus (simp [*]; done)); (focus (simp [*]; done)); refine RunQ.e ?_; simp [*]) | (refine RunQ.appendFz 904 appByte rfl rfl rfl rfl rfl rfl rfl rfl rfl rfl ?_ ?_ ?_ ?_ ?_ ?_; (focus (first | omega | (simp [*]; done); done)); (focus (first | omega | (simp [*]; done); done)); (focus (first | omega | (simp [*]; done); done)); (focus (simp [*]; done)); (focus (simp [*]; done)); refine RunQ.e ?_; simp [*]))
   refine WK.lI (fun n => if n = 1 then 904 else n) (fun k : Nat => (⟨(upd J 8 (.msl 1 0 k)), (upd B0 1 (.buf 1 (byL (Y ++ List.replicate (k - (4 + F.length)) 0#8)))), 0⟩ : St)) (fun k => 4 + F.length ≤ k ∧ k ≤ mPad (4 + F.length)) (fun k => mPad (4 + F.length) - k) (4 + F.length) (by repeat (first | exact TmW.nil | refine TmW.upd ?_ (by simp (maxDischargeDepth := 120) [hYY]))) (by repeat (first | exact BxW.nil | refine BxW.upd ?_ (by simp (maxDischargeDepth := 120) [hYY]))) (by first | exact InjW.id | exact InjW.nil | exact InjW.one | exact InjW.two (by simp) | exact InjW.three (by simp) (by simp) (by simp)) (⟨by omega, hp.1⟩) (fun k hk IHk => ?_)
   have hst := mPad_stop hk.1 hk.2
   have z7 : ((k : Int).tmod 8 == 0) = (k % 8 == 0) := by rw [Int.tmod_eq_emod_of_nonneg (by omega), Bool.eq_iff_iff, beq_iff_eq, beq_iff_eq]; omega
   have hkl : (Y ++ List.replicate (k - (4 + F.length)) 0#8).length = k := by rw [List.length_append, List.length_replicate, hYl]; omega
   by_cases g1 : k % 8 = 0
   · have e := hst.1 g1
     have d2 : (k % 8 == 0) = true := by simpa using g1
     have w : IntKind.i64.wrap ((k : Int).tmod 8) = (k : Int).tmod 8 := by rw [Int.tmod_eq_emod_of_nonneg (by omega)]; exact wrap_i64 (by omega) (by omega)
     rw [e] at hkl ⊢
     rw [hdef]
     simp only
     rw [hwl, hWY]
     rw [d2, e] at z7
     rw [e] at w
     clear hdef hwl hWY g1 hk hst d2 e c1 c2 hB2 hYY hp
     repeat' (first | apply WK.seq | refine WK.exit rfl ?_ | refine WK.cF rfl ?_ | (refine hQ.h _ _ ?_; clear hQ hA) | (refine WK.rH Tryz.ntmps54 (by kernel_rfl) ?_; intro A hA Q hQ; simp [bne, *]) | (refine WK.retT2 Tryz.func54 ?_ ?_ ?_ <;> simp (maxDischargeDepth := 120) [Tryz.results54, bne, *]))
   · have hlt : k < mPad (4 + F.length) := by
       rcases Nat.lt_or_ge k (mPad (4 + F.length)) with h | h
       · exact h
       · exact absurd (hst.2 (by omega)) g1
     have d2 : (k % 8 == 0) = false := by simpa using g1
     have w : IntKind.i64.wrap ((k : Int).tmod 8) = (k : Int).tmod 8 := by rw [Int.tmod_eq_emod_of_nonneg (by omega)]; exact wrap_i64 (by omega) (by omega)
     rw [d2] at z7
     have hz := byL_zero Y (4 + F.length) k hk.1
     have hb2 : k + 1 ≤ 140737488355328 := by omega
     have hbk : (byL (Y ++ List.replicate (k - (4 + F.length)) 0#8)).length = k := by rw [byL_len, hkl]
     obtain ⟨Z, hZ⟩ : ∃ Z, byL (Y ++ List.replicate (k - (4 + F.length)) 0#8) = Z := ⟨_, rfl⟩
     rw [hZ] at hz hbk ⊢
     clear hdef hwl hWY g1 hst d2 c1 c2 hB2 hYY hp hkl hZ
     repeat' (first | apply WK.seq | apply WK.block | apply WK.inBlock | apply WK.skip | refine WK.cT rfl ?_ | (refine hQ.h _ _ ?_; clear hQ hA) | (refine WK.rH Tryz.ntmps54 (by kernel_rfl) ?_; intro A hA Q hQ; simp [bne, *]) | (refine RunQ.append 905 appByte rfl rfl rfl rfl rfl rfl rfl rfl rfl ?_ ?_ ?_ ?_ ?_; (focus (first | omega | (simp [bne, *]; done); done)); (focus (first | omega | (simp [bne, *]; done); done)); (focus (first | omega | (simp [bne, *]; done); done)); (focus (first | omega | (simp [bne, *]; done); done)); refine RunQ.e ?_; simp [bne, *]))
     refine WK.next (fun n => if n = 1 then 905 else n) (IHk (k + 1) (⟨by omega, by omega⟩) (by first | omega | (dsimp only; omega))) (by repeat (first | exact TmW.nil | refine TmW.upd ?_ (by simp (maxDischargeDepth := 120) [hz]))) (by repeat (first | exact BxW.nil | refine BxW.upd ?_ (by simp (maxDischargeDepth := 120) [hz]))) (by first | exact InjW.id | exact InjW.nil | exact InjW.one | exact InjW.two (by simp) | exact InjW.three (by simp) (by simp) (by simp))
end Go.Proofs.YtcccfbjkcahgfaaGreat
