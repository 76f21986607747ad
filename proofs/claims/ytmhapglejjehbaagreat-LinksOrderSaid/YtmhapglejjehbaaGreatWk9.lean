/- Switches: whether one may be. -/
import Derived.Test.YtmhapglejjehbaaGreatAf
import Derived.Test.YtmhapglejjehbaaGreatWk8
import Derived.Test.YtmhapglejjehbaaGreatWk7
import Derived.Test.YtmhapglejjehbaaGreatWk5
import Derived.Test.YtmhapglejjehbaaGreatAg
set_option linter.all false
set_option linter.unnecessarySimpa false
namespace Go.Proofs.YtmhapglejjehbaaGreat
open Go Go.AI Go.Proofs
attribute [local irreducible] FnP FnO FnB FnT FnSeq FnV FnSeqV WK RunQ RunQW RunX RunXW RunN
theorem containsf_grp (fid : Nat) (caps : List AV) (p : Group → Bool) (l : List Group) (hcl : ClL caps = true) (hl : l.length ≤ 1000000)
   (hf : ∀ x, x ∈ l → FnP Tryz.prog fid (.agg x.enc :: caps) (.bool (p x))) :
   FnP Tryz.prog 42 [grpS l, .fn fid caps] (.bool (l.any p)) := by
 have e := idxI_ge p l
 simp only [ge_iff_le] at e
 refine FnP.i Tryz.func42 rfl rfl fun G w => ?_
 repeat apply WK.s
 refine WK.g 100 Tryz.ntmps42 (by kernel_rfl) ?_
 intro A hA Q hQ
 simp
 apply hQ
 clear hQ hA
 repeat apply WK.s
 refine WK.g 200 Tryz.ntmps42 (by kernel_rfl) ?_
 intro A hA Q hQ
 simp
 refine RunQ.call rfl rfl rfl rfl (by rfl) (by simp (maxDischargeDepth := 120) [hcl]) (indexf_grp fid caps p l hcl hl hf) (by simp [hcl]) ?_
 refine RunQ.eval ?_
 simp [hcl]
 apply hQ
 clear hQ hA
 refine WK.t Tryz.func42 (by simp (maxDischargeDepth := 120) [Tryz.results42, e]) (by simp [e])
theorem stlarge_c (g : Group) (hg : GrB g) : FnP Tryz.prog 39 [.agg g.enc] (.bool (!((bkEnc g.buckets).2 == 0))) := by
 have c := bkencP_c g.buckets (by have := hg.len; omega) hg.acts
 unfold bukS byS at c
 refine FnP.i Tryz.func39 rfl rfl fun G w => ?_
 repeat' (first | apply WK.s | (refine hQ.h _ _ ?_; clear hQ hA) | (refine WK.rH Tryz.ntmps39 (by kernel_rfl) ?_; intro A hA Q hQ; simp [Group.enc, bne, *]) | (refine RunQ.k rfl rfl rfl rfl rfl ?_ (c) ?_ ?_ <;> simp (maxDischargeDepth := 120) [Group.enc, bne, *] <;> refine ⟨?_⟩) | (refine WK.t Tryz.func39 ?_ ?_ <;> simp (maxDischargeDepth := 120) [Tryz.results39, Group.enc, bne, *]))
set_option maxRecDepth 100000 in
theorem stwrong_c (s : Switch) (t : Nat) (f : Flow) (hs : SwB s) (hf : FlB f) : FnP Tryz.prog 43 [.agg f.enc, .iptr [.int .i64 t], .iptr [.iptr s.enc]] (.bool (!stFine s.groups t f)) := by
 have c1 := stmod_c f t hf.pl.ok
 have c2 := fmright_c (stMod f t) (hf.mod t)
 have c3 := stmay_c s t f.insts hs (by have := hf.insts; omega) (fun x hx => by have := hf.acts x hx; omega)
 have hfi : stFine s.groups t f = (fmRight (stMod f t) && (stMay s.groups t f.insts).isNone) := rfl
 have hsc : ClL s.enc = true := by simp [Switch.enc]
 rw [hfi]
 obtain ⟨B, hB⟩ : ∃ B, fmRight (stMod f t) = B := ⟨_, rfl⟩
 obtain ⟨M, hM⟩ : ∃ M, stMay s.groups t f.insts = M := ⟨_, rfl⟩
 obtain ⟨D, hD, hDc⟩ : ∃ D, (stMod f t).enc = D ∧ ClL D = true := ⟨_, rfl, by simp⟩
 obtain ⟨S, hS⟩ : ∃ S, s.enc = S := ⟨_, rfl⟩
 rw [hB] at c2 ⊢
 rw [hM] at c3 ⊢
 rw [hD] at c1 c2
 rw [hS] at c3 hsc ⊢
 unfold instS Flow.enc at *
 clear hB hM hD hS hs hf hfi
 cases B
 · clear c3
   refine FnP.i Tryz.func43 rfl rfl fun G w => ?_
   repeat' (first | apply WK.s | (refine hQ.h _ _ ?_; clear hQ hA) | (refine WK.rH Tryz.ntmps43 (by kernel_rfl) ?_; intro A hA Q hQ; simp [*]) | (refine RunQ.g rfl (by rw [hA.h]; rfl) ?_; simp [*]) | (refine RunQ.k rfl rfl rfl rfl rfl ?_ (c1) ?_ ?_ <;> simp (maxDischargeDepth := 120) [*] <;> refine ⟨?_⟩) | (refine RunQ.k rfl rfl rfl rfl rfl ?_ (c2) ?_ ?_ <;> simp (maxDischargeDepth := 120) [*] <;> refine ⟨?_⟩) | (refine WK.t Tryz.func43 ?_ ?_ <;> simp (maxDischargeDepth := 120) [Tryz.results43, bne, *]))
 cases M with
 | none =>
   rw [show stErr none = .niface from rfl] at c3
   refine FnP.i Tryz.func43 rfl rfl fun G w => ?_
   repeat' (first | apply WK.s | (refine hQ.h _ _ ?_; clear hQ hA) | (refine WK.rH Tryz.ntmps43 (by kernel_rfl) ?_; intro A hA Q hQ; simp [bne, *]) | (refine RunQ.g rfl (by rw [hA.h]; rfl) ?_; simp [bne, *]) | (refine RunQW.by (fun hw => ?_); refine RunQ.nilI (td88) rfl rfl rfl hw rfl ?_; clear hw; refine RunQ.evalH ?_; simp [bne, *]) | (refine RunQ.k rfl rfl rfl rfl rfl ?_ (c1) ?_ ?_ <;> simp (maxDischargeDepth := 120) [bne, *] <;> refine ⟨?_⟩) | (refine RunQ.k rfl rfl rfl rfl rfl ?_ (c2) ?_ ?_ <;> simp (maxDischargeDepth := 120) [bne, *] <;> refine ⟨?_⟩) | (refine RunQ.k rfl rfl rfl rfl rfl ?_ (c3) ?_ ?_ <;> simp (maxDischargeDepth := 120) [bne, *] <;> refine ⟨?_⟩) | (refine RunQW.k rfl rfl rfl rfl ?_ (c1) ?_ ?_ <;> simp (maxDischargeDepth := 120) [bne, *] <;> refine ⟨?_⟩) | (refine RunQW.k rfl rfl rfl rfl ?_ (c2) ?_ ?_ <;> simp (maxDischargeDepth := 120) [bne, *] <;> refine ⟨?_⟩) | (refine RunQW.k rfl rfl rfl rfl ?_ (c3) ?_ ?_ <;> simp (maxDischargeDepth := 120) [bne, *] <;> refine ⟨?_⟩) | (refine WK.t Tryz.func43 ?_ ?_ <;> simp (maxDischargeDepth := 120) [Tryz.results43, bne, *]))
 | some c =>
   rw [show stErr (some c) = .iface 172 (.agg [.bool true, .int .i64 c.1, .int .i64 c.2]) from rfl] at c3
   refine FnP.i Tryz.func43 rfl rfl fun G w => ?_
   repeat' (first | apply WK.s | (refine hQ.h _ _ ?_; clear hQ hA) | (refine WK.rH Tryz.ntmps43 (by kernel_rfl) ?_; intro A hA Q hQ; simp [bne, *]) | (refine RunQ.g rfl (by rw [hA.h]; rfl) ?_; simp [bne, *]) | (refine RunQ.k rfl rfl rfl rfl rfl ?_ (c1) ?_ ?_ <;> simp (maxDischargeDepth := 120) [bne, *] <;> refine ⟨?_⟩) | (refine RunQ.k rfl rfl rfl rfl rfl ?_ (c2) ?_ ?_ <;> simp (maxDischargeDepth := 120) [bne, *] <;> refine ⟨?_⟩) | (refine RunQ.k rfl rfl rfl rfl rfl ?_ (c3) ?_ ?_ <;> simp (maxDischargeDepth := 120) [bne, *] <;> refine ⟨?_⟩) | (refine RunQW.k rfl rfl rfl rfl ?_ (c1) ?_ ?_ <;> simp (maxDischargeDepth := 120) [bne, *] <;> refine ⟨?_⟩) | (refine RunQW.k rfl rfl rfl rfl ?_ (c2) ?_ ?_ <;> simp (maxDischargeDepth := 120) [bne, *] <;> refine ⟨?_⟩) | (refine RunQW.k rfl rfl rfl rfl ?_ (c3) ?_ ?_ <;> simp (maxDischargeDepth := 120) [bne, *] <;> refine ⟨?_⟩) | (refine WK.t Tryz.func43 ?_ ?_ <;> simp (maxDischargeDepth := 120) [Tryz.results43, bne, *]))
def stTab (s : Switch) (t : Nat) : Bool := tRight (s.tab t) && (s.tab t).all (stFine s.groups t)
theorem any_not_all {α : Type} (l : List α) (p : α → Bool) : (l.any fun x => !p x) = !l.all p := by
 induction l with
 | nil => rfl
 | cons x l ih => simp only [List.any_cons, List.all_cons, ih, Bool.not_and]
theorem four {α : Type} (Tb : Nat → α) (i : Nat) (h : i < 4) (h' : i < [Tb 0, Tb 1, Tb 2, Tb 3].length) : [Tb 0, Tb 1, Tb 2, Tb 3][i] = Tb i := by
 have : i = 0 ∨ i = 1 ∨ i = 2 ∨ i = 3 := by omega
 rcases this with rfl | rfl | rfl | rfl <;> rfl
theorem SwB.ok {s : Switch} (hs : SwB s) (t : Nat) : ∀ f, f ∈ s.tab t → FOk f := fun f hf => (hs.fl t f hf).pl.ok
set_option maxHeartbeats 8000000 in
set_option maxRecDepth 100000 in
theorem stright_c (s : Switch) (hs : SwB s) : FnP Tryz.prog 28 [.agg s.enc] (.bool (stRight s)) := by
 have cg := gright_grp_c s.groups hs.groups hs.gr
 have cl := containsf_grp 39 [] (fun g => !((bkEnc g.buckets).2 == 0)) s.groups (by simp) hs.groups (fun x hx => stlarge_c x (hs.gr x hx))
 rw [any_not_all] at cl
 have ct : ∀ t : Nat, FnP Tryz.prog 47 [flowS (s.tab t)] (.bool (tRight (s.tab t))) := fun t => tright_c _ (hs.ok t)
 have cw : ∀ t : Nat, FnP Tryz.prog 48 [flowS (s.tab t), .fn 43 [.iptr [.int .i64 t], .iptr [.iptr s.enc]]] (.bool (!(s.tab t).all (stFine s.groups t))) := fun t => by
   rw [← any_not_all]
   exact containsf_flow 43 [.iptr [.int .i64 t], .iptr [.iptr s.enc]] _ (s.tab t) (by simp [ClL, Cl, Switch.enc]) (by have := hs.flows t; omega) (fun x hx => stwrong_c s t x hs (hs.fl t x hx))
 have er : stRight s = (gRightL s.groups && ((s.groups.all fun g => (bkEnc g.buckets).2 == 0) && (List.range 4).all (stTab s))) := rfl
 rw [er]
 have ha : (∀ t, t < 4 → stTab s t = true) → (List.range 4).all (stTab s) = true := fun h => by
   rw [List.all_eq_true]; intro t ht; exact h t (by simpa using ht)
 have hn : ∀ t, t < 4 → stTab s t = false → (List.range 4).all (stTab s) = false := fun t ht h => by
   rw [List.all_eq_false]; exact ⟨t, by simpa using ht, by simp [h]⟩
 obtain ⟨R, hR⟩ : ∃ R, (List.range 4).all (stTab s) = R := ⟨_, rfl⟩
 rw [hR] at ha ⊢
 simp only [hR] at hn
 have hT : ∀ t, stTab s t = (tRight (s.tab t) && (s.tab t).all (stFine s.groups t)) := fun _ => rfl
 simp only [hT] at ha hn
 have e0 : s.enc = [flowS (s.tab 0), flowS (s.tab 1), flowS (s.tab 2), flowS (s.tab 3), grpS s.groups] := rfl
 rw [e0] at cw ⊢
 obtain ⟨Tb, hA, hAc⟩ : ∃ Tb : Nat → AV, (∀ t, flowS (s.tab t) = Tb t) ∧ ∀ t, Cl (Tb t) = true := ⟨fun t => flowS (s.tab t), fun _ => rfl, fun t => flowS_cl _⟩
 simp only [hA] at cw ct ⊢
 obtain ⟨p, hp⟩ : ∃ p : Nat → Bool, ∀ t, tRight (s.tab t) = p t := ⟨_, fun _ => rfl⟩
 obtain ⟨q, hq⟩ : ∃ q : Nat → Bool, ∀ t, (s.tab t).all (stFine s.groups t) = q t := ⟨_, fun _ => rfl⟩
 simp only [hp, hq] at cw ct ha hn
 obtain ⟨b1, h1⟩ : ∃ b, gRightL s.groups = b := ⟨_, rfl⟩
 obtain ⟨b2, h2⟩ : ∃ b, (s.groups.all fun g => (bkEnc g.buckets).2 == 0) = b := ⟨_, rfl⟩
 rw [h1] at cg ⊢
 rw [h2] at cl ⊢
 obtain ⟨gs, hgs⟩ : ∃ gs, s.groups = gs := ⟨_, rfl⟩
 rw [hgs] at cg cl cw ⊢
 clear hR hT e0 hA hp hq h1 h2 hgs er hs
 unfold grpS at *
 cases b1
 · clear cl cw ct ha hn
   refine FnP.i Tryz.func28 rfl rfl fun G w => ?_
   repeat' (first | apply WK.s | refine WK.cT rfl ?_ | (refine hQ.h _ _ ?_; clear hQ hA) | (refine WK.rH Tryz.ntmps28 (by kernel_rfl) ?_; intro A hA Q hQ; simp [*]) | (refine RunQ.g rfl (by rw [hA.h]; rfl) ?_; simp [*]) | (refine RunQ.k rfl rfl rfl rfl rfl ?_ (cg) ?_ ?_ <;> simp (maxDischargeDepth := 120) [*] <;> refine ⟨?_⟩) | (refine WK.t Tryz.func28 ?_ ?_ <;> simp (maxDischargeDepth := 120) [Tryz.results28, *]))
 cases b2
 · clear cw ct ha hn
   refine FnP.i Tryz.func28 rfl rfl fun G w => ?_
   repeat' (first | apply WK.s | refine WK.cT rfl ?_ | (refine hQ.h _ _ ?_; clear hQ hA) | (refine WK.rH Tryz.ntmps28 (by kernel_rfl) ?_; intro A hA Q hQ; simp [*]) | (refine RunQ.g rfl (by rw [hA.h]; rfl) ?_; simp [*]) | (refine RunQ.k rfl rfl rfl rfl rfl ?_ (cg) ?_ ?_ <;> simp (maxDischargeDepth := 120) [*] <;> refine ⟨?_⟩) | (refine RunQW.k rfl rfl rfl rfl ?_ (cl) ?_ ?_ <;> simp (maxDischargeDepth := 120) [*] <;> refine ⟨?_⟩) | (refine WK.t Tryz.func28 ?_ ?_ <;> simp (maxDischargeDepth := 120) [Tryz.results28, *]))
 refine FnP.i Tryz.func28 rfl rfl fun G w => ?_
 repeat' (first | apply WK.s | apply WK.k | refine WK.cF rfl ?_ | (refine hQ.h _ _ ?_; clear hQ hA) | (refine WK.rH (id := 0) Tryz.ntmps28 (by kernel_rfl) ?_; intro A hA Q hQ; simp [*]) | (refine WK.rH (id := 1) Tryz.ntmps28 (by kernel_rfl) ?_; intro A hA Q hQ; simp [*]) | (refine WK.rH (id := 2) Tryz.ntmps28 (by kernel_rfl) ?_; intro A hA Q hQ; simp [*]) | (refine WK.rH (id := 3) Tryz.ntmps28 (by kernel_rfl) ?_; intro A hA Q hQ; simp [*]) | (refine WK.rH (id := 4) Tryz.ntmps28 (by kernel_rfl) ?_; intro A hA Q hQ; simp [*]) | (refine RunQ.g rfl (by rw [hA.h]; rfl) ?_; simp [*]) | (refine RunQ.k rfl rfl rfl rfl rfl ?_ (cg) ?_ ?_ <;> simp (maxDischargeDepth := 120) [*] <;> refine ⟨?_⟩) | (refine RunQW.k rfl rfl rfl rfl ?_ (cl) ?_ ?_ <;> simp (maxDischargeDepth := 120) [*] <;> refine ⟨?_⟩))
 refine WK.ghost (Ghost.frzCellP 303 0 302 0 rfl rfl rfl (by decide)) ?_
 refine WK.ghost (Ghost.frzVar 4 rfl rfl) ?_
 repeat' (first | apply WK.b | (refine hQ.h _ _ ?_; clear hQ hA) | (refine WK.rH (id := 0) Tryz.ntmps28 (by kernel_rfl) ?_; intro A hA Q hQ; simp [*]) | (refine WK.rH (id := 1) Tryz.ntmps28 (by kernel_rfl) ?_; intro A hA Q hQ; simp [*]) | (refine WK.rH (id := 2) Tryz.ntmps28 (by kernel_rfl) ?_; intro A hA Q hQ; simp [*]) | (refine WK.rH (id := 3) Tryz.ntmps28 (by kernel_rfl) ?_; intro A hA Q hQ; simp [*]) | (refine WK.rH (id := 4) Tryz.ntmps28 (by kernel_rfl) ?_; intro A hA Q hQ; simp [*]) | (refine WK.rH (id := 5) Tryz.ntmps28 (by kernel_rfl) ?_; intro A hA Q hQ; simp [*]))
 have k0 := hAc 0
 have k1 := hAc 1
 have k2 := hAc 2
 have k3 := hAc 3
 refine WK.lI (fun n => n) (fun i : Nat => (⟨(upd (upd (upd J 4 (.iptr [.iptr [Tb 0, Tb 1, Tb 2, Tb 3, .sl false gs.length (grpL gs)]])) 25 (.agg [Tb 0, Tb 1, Tb 2, Tb 3])) 26 (.int .i64 i)), B0, 0⟩ : St)) (fun i => i ≤ 4 ∧ ∀ t, t < i → (p t && q t) = true) (fun i => 4 - i) (0) (by repeat (first | exact TmW.nil | refine TmW.upd ?_ (by simp (maxDischargeDepth := 120) [k0, k1, k2, k3]))) (by repeat (first | exact BxW.nil | refine BxW.upd ?_ (by simp (maxDischargeDepth := 120) [k0, k1, k2, k3]))) InjW.id (⟨by omega, by simp⟩) (fun i hi IH => ?_)
 by_cases h1 : i < 4
 · have h1' : (i : Int) < 4 := by omega
   have h6 : IntKind.i64.wrap ((i : Int) + 1) = i + 1 := wrap_i64 (by omega) (by omega)
   have hget := four Tb i h1
   have c1 := ct i
   have c2 := cw i
   have ki := hAc i
   have hno := hn i h1
   have hi2 := hi.2
   have hst : (p i && q i) = true → ∀ t, t < i + 1 → (p t && q t) = true := fun h t ht => by
     by_cases h7 : t = i
     · subst h7; exact h
     · exact hi2 t (by omega)
   obtain ⟨b1, e1⟩ : ∃ b, p i = b := ⟨_, rfl⟩
   obtain ⟨b2, e2⟩ : ∃ b, q i = b := ⟨_, rfl⟩
   rw [e1] at c1 hno hst
   rw [e2] at c2 hno hst
   clear e1 e2 ha hn ct cw cg cl hi
   cases b1
   · have e := hno (by cases b2 <;> rfl)
     subst e
     clear hno hst IH c2
     repeat' (first | apply WK.s | apply WK.b | apply WK.k | refine WK.cT rfl ?_ | (refine hQ.h _ _ ?_; clear hQ hA) | (refine WK.rH (id := 0) Tryz.ntmps28 (by kernel_rfl) ?_; intro A hA Q hQ; simp [*]) | (refine WK.rH (id := 1) Tryz.ntmps28 (by kernel_rfl) ?_; intro A hA Q hQ; simp [*]) | (refine WK.rH (id := 2) Tryz.ntmps28 (by kernel_rfl) ?_; intro A hA Q hQ; simp [*]) | (refine WK.rH (id := 3) Tryz.ntmps28 (by kernel_rfl) ?_; intro A hA Q hQ; simp [*]) | (refine WK.rH (id := 4) Tryz.ntmps28 (by kernel_rfl) ?_; intro A hA Q hQ; simp [*]) | (refine WK.rH (id := 5) Tryz.ntmps28 (by kernel_rfl) ?_; intro A hA Q hQ; simp [*]) | (refine WK.rH (id := 6) Tryz.ntmps28 (by kernel_rfl) ?_; intro A hA Q hQ; simp [*]) | (refine WK.rH (id := 7) Tryz.ntmps28 (by kernel_rfl) ?_; intro A hA Q hQ; simp [*]))
     refine WK.ghost (Ghost.frzVar 5 rfl rfl) ?_
     repeat' (first | apply WK.s | refine WK.cT rfl ?_ | (refine hQ.h _ _ ?_; clear hQ hA) | (refine WK.rH Tryz.ntmps28 (by kernel_rfl) ?_; intro A hA Q hQ; simp [*]) | (refine RunQ.g rfl (by rw [hA.h]; rfl) ?_; simp [*]) | (refine RunQ.k rfl rfl rfl rfl rfl ?_ (c1) ?_ ?_ <;> simp (maxDischargeDepth := 120) [*] <;> refine ⟨?_⟩) | (refine WK.t Tryz.func28 ?_ ?_ <;> simp (maxDischargeDepth := 120) [Tryz.results28, *]))
   cases b2
   · have e := hno rfl
     subst e
     clear hno hst IH
     repeat' (first | apply WK.s | apply WK.b | apply WK.k | refine WK.cT rfl ?_ | (refine hQ.h _ _ ?_; clear hQ hA) | (refine WK.rH (id := 0) Tryz.ntmps28 (by kernel_rfl) ?_; intro A hA Q hQ; simp [*]) | (refine WK.rH (id := 1) Tryz.ntmps28 (by kernel_rfl) ?_; intro A hA Q hQ; simp [*]) | (refine WK.rH (id := 2) Tryz.ntmps28 (by kernel_rfl) ?_; intro A hA Q hQ; simp [*]) | (refine WK.rH (id := 3) Tryz.ntmps28 (by kernel_rfl) ?_; intro A hA Q hQ; simp [*]) | (refine WK.rH (id := 4) Tryz.ntmps28 (by kernel_rfl) ?_; intro A hA Q hQ; simp [*]) | (refine WK.rH (id := 5) Tryz.ntmps28 (by kernel_rfl) ?_; intro A hA Q hQ; simp [*]) | (refine WK.rH (id := 6) Tryz.ntmps28 (by kernel_rfl) ?_; intro A hA Q hQ; simp [*]) | (refine WK.rH (id := 7) Tryz.ntmps28 (by kernel_rfl) ?_; intro A hA Q hQ; simp [*]))
     refine WK.ghost (Ghost.frzVar 5 rfl rfl) ?_
     repeat' (first | apply WK.s | refine WK.cT rfl ?_ | (refine hQ.h _ _ ?_; clear hQ hA) | (refine WK.rH Tryz.ntmps28 (by kernel_rfl) ?_; intro A hA Q hQ; simp [*]) | (refine RunQ.g rfl (by rw [hA.h]; rfl) ?_; simp [*]) | (refine RunQ.k rfl rfl rfl rfl rfl ?_ (c1) ?_ ?_ <;> simp (maxDischargeDepth := 120) [*] <;> refine ⟨?_⟩) | (refine RunQ.k rfl rfl rfl rfl rfl ?_ (c2) ?_ ?_ <;> simp (maxDischargeDepth := 120) [*] <;> refine ⟨?_⟩) | (refine RunQW.k rfl rfl rfl rfl ?_ (c1) ?_ ?_ <;> simp (maxDischargeDepth := 120) [*] <;> refine ⟨?_⟩) | (refine RunQW.k rfl rfl rfl rfl ?_ (c2) ?_ ?_ <;> simp (maxDischargeDepth := 120) [*] <;> refine ⟨?_⟩) | (refine WK.t Tryz.func28 ?_ ?_ <;> simp (maxDischargeDepth := 120) [Tryz.results28, *]))
   · have hst := hst rfl
     clear hno
     repeat' (first | apply WK.s | apply WK.b | apply WK.k | refine WK.cT rfl ?_ | (refine hQ.h _ _ ?_; clear hQ hA) | (refine WK.rH (id := 0) Tryz.ntmps28 (by kernel_rfl) ?_; intro A hA Q hQ; simp [*]) | (refine WK.rH (id := 1) Tryz.ntmps28 (by kernel_rfl) ?_; intro A hA Q hQ; simp [*]) | (refine WK.rH (id := 2) Tryz.ntmps28 (by kernel_rfl) ?_; intro A hA Q hQ; simp [*]) | (refine WK.rH (id := 3) Tryz.ntmps28 (by kernel_rfl) ?_; intro A hA Q hQ; simp [*]) | (refine WK.rH (id := 4) Tryz.ntmps28 (by kernel_rfl) ?_; intro A hA Q hQ; simp [*]) | (refine WK.rH (id := 5) Tryz.ntmps28 (by kernel_rfl) ?_; intro A hA Q hQ; simp [*]) | (refine WK.rH (id := 6) Tryz.ntmps28 (by kernel_rfl) ?_; intro A hA Q hQ; simp [*]) | (refine WK.rH (id := 7) Tryz.ntmps28 (by kernel_rfl) ?_; intro A hA Q hQ; simp [*]))
     refine WK.ghost (Ghost.frzVar 5 rfl rfl) ?_
     repeat' (first | apply WK.s | apply WK.n | apply WK.k | refine WK.cF rfl ?_ | (refine hQ.h _ _ ?_; clear hQ hA) | (refine WK.rH Tryz.ntmps28 (by kernel_rfl) ?_; intro A hA Q hQ; simp [*]) | (refine RunQ.g rfl (by rw [hA.h]; rfl) ?_; simp [*]) | (refine RunQ.k rfl rfl rfl rfl rfl ?_ (c1) ?_ ?_ <;> simp (maxDischargeDepth := 120) [*] <;> refine ⟨?_⟩) | (refine RunQ.k rfl rfl rfl rfl rfl ?_ (c2) ?_ ?_ <;> simp (maxDischargeDepth := 120) [*] <;> refine ⟨?_⟩) | (refine RunQW.k rfl rfl rfl rfl ?_ (c1) ?_ ?_ <;> simp (maxDischargeDepth := 120) [*] <;> refine ⟨?_⟩) | (refine RunQW.k rfl rfl rfl rfl ?_ (c2) ?_ ?_ <;> simp (maxDischargeDepth := 120) [*] <;> refine ⟨?_⟩))
     refine WK.next (fun n => n) (IH (i + 1) (⟨by omega, hst⟩) (by first | omega | (dsimp only; omega))) (by repeat (first | exact TmW.nil | refine TmW.upd ?_ (by simp (maxDischargeDepth := 120) [k0, k1, k2, k3]))) (by repeat (first | exact BxW.nil | refine BxW.upd ?_ (by simp (maxDischargeDepth := 120) [k0, k1, k2, k3]))) InjW.id
 · have h1' : ¬ (i : Int) < 4 := by omega
   have e := ha (fun t ht => hi.2 t (by omega))
   subst e
   clear ha hn ct cw cg cl IH hi
   repeat' (first | apply WK.s | refine WK.exit rfl ?_ | refine WK.cF rfl ?_ | (refine hQ.h _ _ ?_; clear hQ hA) | (refine WK.rH Tryz.ntmps28 (by kernel_rfl) ?_; intro A hA Q hQ; simp [*]) | (refine WK.t Tryz.func28 ?_ ?_ <;> simp (maxDischargeDepth := 120) [Tryz.results28, *]))

def groupsPlain (l : List Group) (many bk : Int) : Bool := decide ((l.length : Int) ≤ many) && l.all fun g => bucketsPlain g.buckets bk
theorem pgrp1_c (g : Group) (bk : Int) (hb : bk ≤ 1000) : FnP Tryz.prog 62 [.agg g.enc, .iptr [.int .i64 bk]] (.bool (!bucketsPlain g.buckets bk)) := by
 have c := pbuckets_c g.buckets bk hb
 unfold bukS at c
 refine FnP.i Tryz.func62 rfl rfl fun G w => ?_
 repeat' (first | apply WK.s | (refine hQ.h _ _ ?_; clear hQ hA) | (refine WK.rH Tryz.ntmps62 (by kernel_rfl) ?_; intro A hA Q hQ; simp [Group.enc, *]) | (refine RunQ.k rfl rfl rfl rfl rfl ?_ (c) ?_ ?_ <;> simp (maxDischargeDepth := 120) [Group.enc, *] <;> refine ⟨?_⟩) | (refine WK.t Tryz.func62 ?_ ?_ <;> simp (maxDischargeDepth := 120) [Tryz.results62, Group.enc, *]))
theorem pgroups_c (l : List Group) (many bk : Int) (hm : many ≤ 1000000) (hb : bk ≤ 1000) : FnP Tryz.prog 37 [grpS l, .int .i64 many, .int .i64 bk] (.bool (groupsPlain l many bk)) := by
 unfold groupsPlain
 by_cases h1 : (l.length : Int) ≤ many
 case neg =>
   rw [decide_eq_false h1]
   unfold grpS
   refine FnP.i Tryz.func37 rfl rfl fun G w => ?_
   repeat' (first | apply WK.s | (refine hQ.h _ _ ?_; clear hQ hA) | (refine WK.rH Tryz.ntmps37 (by kernel_rfl) ?_; intro A hA Q hQ; simp [*]) | (refine RunQ.g rfl (by rw [hA.h]; rfl) ?_; simp [*]) | (refine WK.t Tryz.func37 ?_ ?_ <;> simp (maxDischargeDepth := 120) [Tryz.results37, *]))
 have c := containsf_grp 62 [.iptr [.int .i64 bk]] (fun g => !bucketsPlain g.buckets bk) l (by simp) (by omega) (fun x _ => pgrp1_c x bk hb)
 rw [any_not_all] at c
 rw [decide_eq_true h1]
 obtain ⟨B, hB⟩ : ∃ B, (l.all fun g => bucketsPlain g.buckets bk) = B := ⟨_, rfl⟩
 rw [hB] at c ⊢
 unfold grpS at *
 clear hB
 refine FnP.i Tryz.func37 rfl rfl fun G w => ?_
 repeat apply WK.s
 refine WK.g 100 Tryz.ntmps37 (by kernel_rfl) ?_
 intro A hA Q hQ
 simp
 apply hQ
 clear hQ hA
 repeat apply WK.s
 refine WK.ghost (Ghost.frzVar 5 rfl rfl) ?_
 repeat' (first | (refine hQ.h _ _ ?_; clear hQ hA) | (refine WK.rH Tryz.ntmps37 (by kernel_rfl) ?_; intro A hA Q hQ; simp [*]) | (refine RunQ.g rfl (by rw [hA.h]; rfl) ?_; simp [*]) | (refine RunQW.k rfl rfl rfl rfl ?_ (c) ?_ ?_ <;> simp (maxDischargeDepth := 120) [*] <;> refine ⟨?_⟩) | (refine WK.t Tryz.func37 ?_ ?_ <;> simp (maxDischargeDepth := 120) [Tryz.results37, *]))
def swPlain (s : Switch) (n : Int) : Bool := ((List.range 4).all fun t => flowsPlain (s.tab t) n) && groupsPlain s.groups 9 3
set_option maxRecDepth 100000 in
theorem pswitch_c (s : Switch) (n : Int) (hn : n ≤ 1000000) : FnP Tryz.prog 21 [.agg s.enc, .int .i64 n] (.bool (swPlain s n)) := by
 have ct : ∀ t : Nat, FnP Tryz.prog 36 [flowS (s.tab t), .int .i64 n] (.bool (flowsPlain (s.tab t) n)) := fun t => pFlows_c _ n hn
 have cg := pgroups_c s.groups 9 3 (by omega) (by omega)
 have ha : (∀ t, t < 4 → flowsPlain (s.tab t) n = true) → ((List.range 4).all fun t => flowsPlain (s.tab t) n) = true := fun h => by
   rw [List.all_eq_true]; intro t ht; exact h t (by simpa using ht)
 have hno : ∀ t, t < 4 → flowsPlain (s.tab t) n = false → ((List.range 4).all fun t => flowsPlain (s.tab t) n) = false := fun t ht h => by
   rw [List.all_eq_false]; exact ⟨t, by simpa using ht, by simp [h]⟩
 unfold swPlain
 obtain ⟨R, hR⟩ : ∃ R, ((List.range 4).all fun t => flowsPlain (s.tab t) n) = R := ⟨_, rfl⟩
 rw [hR] at ha ⊢
 simp only [hR] at hno
 have e0 : s.enc = [flowS (s.tab 0), flowS (s.tab 1), flowS (s.tab 2), flowS (s.tab 3), grpS s.groups] := rfl
 rw [e0]
 obtain ⟨Tb, hA, hAc⟩ : ∃ Tb : Nat → AV, (∀ t, flowS (s.tab t) = Tb t) ∧ ∀ t, Cl (Tb t) = true := ⟨fun t => flowS (s.tab t), fun _ => rfl, fun t => flowS_cl _⟩
 simp only [hA] at ct ⊢
 obtain ⟨p, hp⟩ : ∃ p : Nat → Bool, ∀ t, flowsPlain (s.tab t) n = p t := ⟨_, fun _ => rfl⟩
 simp only [hp] at ct ha hno
 obtain ⟨b, hb⟩ : ∃ b, groupsPlain s.groups 9 3 = b := ⟨_, rfl⟩
 rw [hb] at cg ⊢
 obtain ⟨gs, hgs⟩ : ∃ gs, s.groups = gs := ⟨_, rfl⟩
 rw [hgs] at cg ⊢
 clear hR e0 hA hp hb hgs
 unfold grpS at *
 have k0 := hAc 0
 have k1 := hAc 1
 have k2 := hAc 2
 have k3 := hAc 3
 refine FnP.i Tryz.func21 rfl rfl fun G w => ?_
 repeat' (first | apply WK.s | apply WK.b | (refine hQ.h _ _ ?_; clear hQ hA) | (refine WK.rH Tryz.ntmps21 (by kernel_rfl) ?_; intro A hA Q hQ; simp [*]))
 refine WK.lI (fun n => n) (fun i : Nat => (⟨(upd (upd (upd (upd J 1 (.int .i64 n)) 2 (.ptr 0 0)) 8 (.agg [Tb 0, Tb 1, Tb 2, Tb 3])) 9 (.int .i64 i)), (upd B0 0 (.var [Tb 0, Tb 1, Tb 2, Tb 3, .sl false gs.length (grpL gs)])), 0⟩ : St)) (fun i => i ≤ 4 ∧ ∀ t, t < i → p t = true) (fun i => 4 - i) (0) (by repeat (first | exact TmW.nil | refine TmW.upd ?_ (by simp (maxDischargeDepth := 120) [k0, k1, k2, k3]))) (by repeat (first | exact BxW.nil | refine BxW.upd ?_ (by simp (maxDischargeDepth := 120) [k0, k1, k2, k3]))) InjW.id (⟨by omega, by simp⟩) (fun i hi IH => ?_)
 by_cases h1 : i < 4
 · have h1' : (i : Int) < 4 := by omega
   have h6 : IntKind.i64.wrap ((i : Int) + 1) = i + 1 := wrap_i64 (by omega) (by omega)
   have hget := four Tb i h1
   have c1 := ct i
   have hno := hno i h1
   have hi2 := hi.2
   have ki := hAc i
   have hst : p i = true → ∀ t, t < i + 1 → p t = true := fun h t ht => by
     by_cases h7 : t = i
     · subst h7; exact h
     · exact hi2 t (by omega)
   obtain ⟨b1, e1⟩ : ∃ b, p i = b := ⟨_, rfl⟩
   rw [e1] at c1 hno hst
   clear e1 ha ct cg hi
   cases b1
   · have e := hno rfl
     subst e
     clear hno hst IH
     repeat' (first | apply WK.s | apply WK.b | apply WK.k | refine WK.cT rfl ?_ | (refine hQ.h _ _ ?_; clear hQ hA) | (refine WK.rH Tryz.ntmps21 (by kernel_rfl) ?_; intro A hA Q hQ; simp [*]) | (refine RunQ.k rfl rfl rfl rfl rfl ?_ (c1) ?_ ?_ <;> simp (maxDischargeDepth := 120) [*] <;> refine ⟨?_⟩) | (refine WK.t Tryz.func21 ?_ ?_ <;> simp (maxDischargeDepth := 120) [Tryz.results21, *]))
   · have hst := hst rfl
     clear hno
     repeat' (first | apply WK.s | apply WK.b | apply WK.n | apply WK.k | refine WK.cT rfl ?_ | refine WK.cF rfl ?_ | (refine hQ.h _ _ ?_; clear hQ hA) | (refine WK.rH Tryz.ntmps21 (by kernel_rfl) ?_; intro A hA Q hQ; simp [*]) | (refine RunQ.k rfl rfl rfl rfl rfl ?_ (c1) ?_ ?_ <;> simp (maxDischargeDepth := 120) [*] <;> refine ⟨?_⟩))
     refine WK.next (fun n => n) (IH (i + 1) (⟨by omega, hst⟩) (by first | omega | (dsimp only; omega))) (by repeat (first | exact TmW.nil | refine TmW.upd ?_ (by simp (maxDischargeDepth := 120) [k0, k1, k2, k3]))) (by repeat (first | exact BxW.nil | refine BxW.upd ?_ (by simp (maxDischargeDepth := 120) [k0, k1, k2, k3]))) InjW.id
 · have h1' : ¬ (i : Int) < 4 := by omega
   have e := ha (fun t ht => hi.2 t (by omega))
   subst e
   clear ha hno ct IH hi
   repeat' (first | apply WK.s | refine WK.exit rfl ?_ | refine WK.cF rfl ?_ | (refine hQ.h _ _ ?_; clear hQ hA) | (refine WK.rH Tryz.ntmps21 (by kernel_rfl) ?_; intro A hA Q hQ; simp [*]) | (refine RunQ.k rfl rfl rfl rfl rfl ?_ (cg) ?_ ?_ <;> simp (maxDischargeDepth := 120) [*] <;> refine ⟨?_⟩) | (refine WK.t Tryz.func21 ?_ ?_ <;> simp (maxDischargeDepth := 120) [Tryz.results21, *]))
theorem swPlain_ok {s : Switch} {n : Int} (hn : n ≤ 100000) (h : swPlain s n = true) (h4 : ∀ t, 4 ≤ t → s.tab t = []) : SwB s := by
 unfold swPlain at h
 rw [Bool.and_eq_true, List.all_eq_true] at h
 obtain ⟨h1, h2⟩ := h
 unfold groupsPlain at h2
 rw [Bool.and_eq_true, decide_eq_true_eq, List.all_eq_true] at h2
 have hf : ∀ t, t < 4 → ((s.tab t).length : Int) ≤ n ∧ ∀ f, f ∈ s.tab t → Flow.plain f = true := fun t ht => by
   have := h1 t (by simpa using ht)
   unfold flowsPlain at this
   rw [Bool.and_eq_true, decide_eq_true_eq, List.all_eq_true] at this
   exact this
 refine ⟨fun t => ?_, fun t f hm => ?_, by omega, fun g hg => ?_⟩
 · by_cases ht : t < 4
   · have := (hf t ht).1; omega
   · rw [h4 t (by omega)]; simp
 · by_cases ht : t < 4
   · exact FlB.plain ((hf t ht).2 f hm)
   · rw [h4 t (by omega)] at hm; simp at hm
 · have h3 := h2.2 g hg
   unfold bucketsPlain at h3
   rw [Bool.and_eq_true, decide_eq_true_eq, List.all_eq_true] at h3
   exact ⟨by omega, fun x hx => by have := h3.2 x hx; unfold actsPlain at this; simp at this; omega⟩
def Switch.cut (s : Switch) : Switch := ⟨fun t => if t < 4 then s.tab t else [], s.groups⟩
theorem Switch.cut_tab {s : Switch} {t : Nat} (h : 4 ≤ t) : s.cut.tab t = [] := by
 have : ¬ t < 4 := by omega
 simp [Switch.cut, this]

structure Link where
 from_ : Int
 out : Int
 to_ : Int
 inn : Int
 deriving DecidableEq, Inhabited
def Link.enc (l : Link) : List AV := [.int .i64 l.from_, .int .i64 l.out, .int .i64 l.to_, .int .i64 l.inn]
theorem Link.len (l : Link) : l.enc.length = 4 := rfl
@[simp] theorem Link.cl (l : Link) : ClL l.enc = true := rfl
instance : Inhabited Switch := ⟨sw0⟩
theorem Switch.len (s : Switch) : s.enc.length = 5 := rfl
@[simp] theorem Switch.cl (s : Switch) : ClL s.enc = true := by simp [Switch.enc, ClL]
def linkL (l : List Link) : List AV := l.flatMap Link.enc
def linkS (l : List Link) : AV := .sl false l.length (linkL l)
@[simp] theorem linkL_len (l : List Link) : (linkL l).length = l.length * 4 := fm_length Link.len l
@[simp] theorem linkL_cl (l : List Link) : ClL (linkL l) = true := ClL_flatMap _ Link.cl l
theorem link_sub (l : List Link) (i : Nat) (h : i < l.length) : ((linkL l).drop (i * 4)).take 4 = (nth l i).enc := fm_nth Link.len l i h
theorem link_load (l : List Link) (i : Nat) (h : i < l.length) : ((linkL l).drop (i * 4)).take 4 = (nth l i).enc ∧ 4 ≤ l.length * 4 - i * 4 := ⟨link_sub l i h, by omega⟩
@[simp] theorem linkS_cl (l : List Link) : Cl (linkS l) = true := by simp [linkS, Cl]
@[simp] theorem linkL_take (l : List Link) : (linkL l).take (l.length * 4) = linkL l := List.take_of_length_le (by simp)
@[simp] theorem linkL_nil : linkL [] = [] := rfl
theorem linkL_app (l m : List Link) : linkL (l ++ m) = linkL l ++ linkL m := List.flatMap_append
@[simp] theorem Link.take (x : Link) : x.enc.take 4 = x.enc := rfl
@[simp] theorem Link.drop (x : Link) : x.enc.drop 4 = [] := rfl
theorem link_get (l : List Link) (i k : Nat) (h : i < l.length) (hk : k < 4) (h' : i * 4 + k < (linkL l).length) : (linkL l)[i * 4 + k] = ((nth l i).enc)[k]'(by rw [Link.len]; exact hk) := fm_get Link.len l i k h hk h'
def swL (l : List Switch) : List AV := l.flatMap Switch.enc
def swS (l : List Switch) : AV := .sl false l.length (swL l)
@[simp] theorem swL_len (l : List Switch) : (swL l).length = l.length * 5 := fm_length Switch.len l
@[simp] theorem swL_cl (l : List Switch) : ClL (swL l) = true := ClL_flatMap _ Switch.cl l
theorem sw_sub (l : List Switch) (i : Nat) (h : i < l.length) : ((swL l).drop (i * 5)).take 5 = (nth l i).enc := fm_nth Switch.len l i h
theorem sw_load (l : List Switch) (i : Nat) (h : i < l.length) : ((swL l).drop (i * 5)).take 5 = (nth l i).enc ∧ 5 ≤ l.length * 5 - i * 5 := ⟨sw_sub l i h, by omega⟩
@[simp] theorem swS_cl (l : List Switch) : Cl (swS l) = true := by simp [swS, Cl]
@[simp] theorem swL_take (l : List Switch) : (swL l).take (l.length * 5) = swL l := List.take_of_length_le (by simp)
@[simp] theorem swL_nil : swL [] = [] := rfl
@[simp] theorem Switch.take (x : Switch) : x.enc.take 5 = x.enc := rfl
@[simp] theorem Switch.drop (x : Switch) : x.enc.drop 5 = [] := rfl
theorem indexf_link (fid : Nat) (caps : List AV) (p : Link → Bool) (l : List Link) (hcl : ClL caps = true) (hl : l.length ≤ 1000000)
   (hf : ∀ x, x ∈ l → FnP Tryz.prog fid (.agg x.enc :: caps) (.bool (p x))) :
   FnP Tryz.prog 22 [linkS l, .fn fid caps] (.int .i64 (idxI p l)) := by
 unfold linkS
 refine FnP.i Tryz.func22 rfl rfl fun G w => ?_
 repeat apply WK.s
 refine WK.g 100 Tryz.ntmps22 (by kernel_rfl) ?_
 intro A hA Q hQ
 simp
 apply hQ
 clear hQ hA
 repeat apply WK.s
 refine WK.g 200 Tryz.ntmps22 (by kernel_rfl) ?_
 intro A hA Q hQ
 simp
 apply hQ
 clear hQ hA
 repeat (apply WK.b)
 refine WK.lI (fun n => n) (fun i : Nat => (⟨(upd (upd (upd (upd J 0 (.sl false l.length (linkL l))) 1 (.fn fid caps)) 7 (.int .i64 l.length)) 8 (.int .i64 i)), B0, 0⟩ : St)) (fun i => i ≤ l.length ∧ ∀ j, j < i → p (nth l j) = false) (fun i => l.length - i) (0) (by repeat (first | exact TmW.nil | refine TmW.upd ?_ (by simp (maxDischargeDepth := 120) [hcl]))) (by repeat (first | exact BxW.nil | refine BxW.upd ?_ (by simp (maxDischargeDepth := 120) [hcl]))) InjW.id (⟨by omega, by simp⟩) (fun i hi IH => ?_)
 repeat apply WK.s
 refine WK.g 300 Tryz.ntmps22 (by kernel_rfl) ?_
 intro A hA Q hQ
 simp
 apply hQ
 clear hQ hA
 repeat apply WK.s
 refine WK.c2 rfl (fun h1 => ?_) (fun h1 => ?_)
 · simp at h1
   have h2 : i < l.length := by omega
   have h3 : 4 ≤ l.length * 4 - i * 4 := by omega
   have h4 := link_sub l i h2
   have h6 : IntKind.i64.wrap ((i : Int) + 1) = i + 1 := wrap_i64 (by omega) (by omega)
   repeat (first | apply WK.s | apply WK.b | apply WK.k)
   refine WK.g 400 Tryz.ntmps22 (by kernel_rfl) ?_
   intro A hA Q hQ
   simp
   apply hQ
   clear hQ hA
   repeat apply WK.s
   refine WK.g 500 Tryz.ntmps22 (by kernel_rfl) ?_
   intro A hA Q hQ
   simp [h2, h3, h4]
   refine RunQ.call rfl rfl rfl rfl (by rfl) (by simp (maxDischargeDepth := 120) [hcl]) (hf (nth l i) (nth_mem h2)) (by simp [hcl]) ?_
   refine RunQ.eval ?_
   simp [hcl]
   apply hQ
   clear hQ hA
   refine WK.c2 rfl (fun h5 => ?_) (fun h5 => ?_)
   · have e := idxI_some h2 h5 hi.2
     repeat apply WK.s
     refine WK.g 600 Tryz.ntmps22 (by kernel_rfl) ?_
     intro A hA Q hQ
     simp
     apply hQ
     clear hQ hA
     refine WK.t Tryz.func22 (by simp (maxDischargeDepth := 120) [Tryz.results22, e]) (by simp [e])
   · repeat (first | apply WK.n | apply WK.k)
     refine WK.g 700 Tryz.ntmps22 (by kernel_rfl) ?_
     intro A hA Q hQ
     simp [h6]
     apply hQ
     clear hQ hA
     refine WK.next (fun n => n) (IH (i + 1) (⟨by omega, fun j hj => by by_cases h7 : j = i; (subst h7; exact h5); exact hi.2 j (by omega)⟩) (by first | omega | (dsimp only; omega))) (by repeat (first | exact TmW.nil | refine TmW.upd ?_ (by simp (maxDischargeDepth := 120) [hcl]))) (by repeat (first | exact BxW.nil | refine BxW.upd ?_ (by simp (maxDischargeDepth := 120) [hcl]))) InjW.id
 · simp at h1
   have e := idxI_none (p := p) (l := l) (fun j hj => hi.2 j (by omega))
   repeat (first | apply WK.s | refine WK.exit rfl ?_)
   refine WK.g 800 Tryz.ntmps22 (by kernel_rfl) ?_
   intro A hA Q hQ
   simp
   apply hQ
   clear hQ hA
   refine WK.t Tryz.func22 (by simp (maxDischargeDepth := 120) [Tryz.results22, e]) (by simp [e])
theorem indexf_sw (fid : Nat) (caps : List AV) (p : Switch → Bool) (l : List Switch) (hcl : ClL caps = true) (hl : l.length ≤ 1000000)
   (hf : ∀ x, x ∈ l → FnP Tryz.prog fid (.agg x.enc :: caps) (.bool (p x))) :
   FnP Tryz.prog 35 [swS l, .fn fid caps] (.int .i64 (idxI p l)) := by
 unfold swS
 refine FnP.i Tryz.func35 rfl rfl fun G w => ?_
 repeat apply WK.s
 refine WK.g 100 Tryz.ntmps35 (by kernel_rfl) ?_
 intro A hA Q hQ
 simp
 apply hQ
 clear hQ hA
 repeat apply WK.s
 refine WK.g 200 Tryz.ntmps35 (by kernel_rfl) ?_
 intro A hA Q hQ
 simp
 apply hQ
 clear hQ hA
 repeat (apply WK.b)
 refine WK.lI (fun n => n) (fun i : Nat => (⟨(upd (upd (upd (upd J 0 (.sl false l.length (swL l))) 1 (.fn fid caps)) 7 (.int .i64 l.length)) 8 (.int .i64 i)), B0, 0⟩ : St)) (fun i => i ≤ l.length ∧ ∀ j, j < i → p (nth l j) = false) (fun i => l.length - i) (0) (by repeat (first | exact TmW.nil | refine TmW.upd ?_ (by simp (maxDischargeDepth := 120) [hcl]))) (by repeat (first | exact BxW.nil | refine BxW.upd ?_ (by simp (maxDischargeDepth := 120) [hcl]))) InjW.id (⟨by omega, by simp⟩) (fun i hi IH => ?_)
 repeat apply WK.s
 refine WK.g 300 Tryz.ntmps35 (by kernel_rfl) ?_
 intro A hA Q hQ
 simp
 apply hQ
 clear hQ hA
 repeat apply WK.s
 refine WK.c2 rfl (fun h1 => ?_) (fun h1 => ?_)
 · simp at h1
   have h2 : i < l.length := by omega
   have h3 : 5 ≤ l.length * 5 - i * 5 := by omega
   have h4 := sw_sub l i h2
   have h6 : IntKind.i64.wrap ((i : Int) + 1) = i + 1 := wrap_i64 (by omega) (by omega)
   repeat (first | apply WK.s | apply WK.b | apply WK.k)
   refine WK.g 400 Tryz.ntmps35 (by kernel_rfl) ?_
   intro A hA Q hQ
   simp
   apply hQ
   clear hQ hA
   repeat apply WK.s
   refine WK.g 500 Tryz.ntmps35 (by kernel_rfl) ?_
   intro A hA Q hQ
   simp [h2, h3, h4]
   refine RunQ.call rfl rfl rfl rfl (by rfl) (by simp (maxDischargeDepth := 120) [hcl]) (hf (nth l i) (nth_mem h2)) (by simp [hcl]) ?_
   refine RunQ.eval ?_
   simp [hcl]
   apply hQ
   clear hQ hA
   refine WK.c2 rfl (fun h5 => ?_) (fun h5 => ?_)
   · have e := idxI_some h2 h5 hi.2
     repeat apply WK.s
     refine WK.g 600 Tryz.ntmps35 (by kernel_rfl) ?_
     intro A hA Q hQ
     simp
     apply hQ
     clear hQ hA
     refine WK.t Tryz.func35 (by simp (maxDischargeDepth := 120) [Tryz.results35, e]) (by simp [e])
   · repeat (first | apply WK.n | apply WK.k)
     refine WK.g 700 Tryz.ntmps35 (by kernel_rfl) ?_
     intro A hA Q hQ
     simp [h6]
     apply hQ
     clear hQ hA
     refine WK.next (fun n => n) (IH (i + 1) (⟨by omega, fun j hj => by by_cases h7 : j = i; (subst h7; exact h5); exact hi.2 j (by omega)⟩) (by first | omega | (dsimp only; omega))) (by repeat (first | exact TmW.nil | refine TmW.upd ?_ (by simp (maxDischargeDepth := 120) [hcl]))) (by repeat (first | exact BxW.nil | refine BxW.upd ?_ (by simp (maxDischargeDepth := 120) [hcl]))) InjW.id
 · simp at h1
   have e := idxI_none (p := p) (l := l) (fun j hj => hi.2 j (by omega))
   repeat (first | apply WK.s | refine WK.exit rfl ?_)
   refine WK.g 800 Tryz.ntmps35 (by kernel_rfl) ?_
   intro A hA Q hQ
   simp
   apply hQ
   clear hQ hA
   refine WK.t Tryz.func35 (by simp (maxDischargeDepth := 120) [Tryz.results35, e]) (by simp [e])
theorem containsf_sw (fid : Nat) (caps : List AV) (p : Switch → Bool) (l : List Switch) (hcl : ClL caps = true) (hl : l.length ≤ 1000000)
   (hf : ∀ x, x ∈ l → FnP Tryz.prog fid (.agg x.enc :: caps) (.bool (p x))) :
   FnP Tryz.prog 19 [swS l, .fn fid caps] (.bool (l.any p)) := by
 have e := idxI_ge p l
 simp only [ge_iff_le] at e
 refine FnP.i Tryz.func19 rfl rfl fun G w => ?_
 repeat apply WK.s
 refine WK.g 100 Tryz.ntmps19 (by kernel_rfl) ?_
 intro A hA Q hQ
 simp
 apply hQ
 clear hQ hA
 repeat apply WK.s
 refine WK.g 200 Tryz.ntmps19 (by kernel_rfl) ?_
 intro A hA Q hQ
 simp
 refine RunQ.call rfl rfl rfl rfl (by rfl) (by simp (maxDischargeDepth := 120) [hcl]) (indexf_sw fid caps p l hcl hl hf) (by simp [hcl]) ?_
 refine RunQ.eval ?_
 simp [hcl]
 apply hQ
 clear hQ hA
 refine WK.t Tryz.func19 (by simp (maxDischargeDepth := 120) [Tryz.results19, e]) (by simp [e])
structure Net where
 sws : List Switch
 links : List Link
def Net.enc (n : Net) : List AV := [swS n.sws, linkS n.links]
@[simp] theorem Net.cl (n : Net) : ClL n.enc = true := by simp [Net.enc, ClL]
def nThere (n : Net) (at_ : Int) : Bool := decide (0 ≤ at_) && decide (at_ < n.sws.length)
theorem lthere_c (n : Net) (at_ : Int) : FnP Tryz.prog 24 [.agg n.enc, .int .i64 at_] (.bool (nThere n at_)) := by
 unfold nThere Net.enc swS linkS
 by_cases h1 : 0 ≤ at_
 · by_cases h2 : at_ < n.sws.length
   · rw [decide_eq_true h1, decide_eq_true h2]
     refine FnP.i Tryz.func24 rfl rfl fun G w => ?_
     repeat' (first | apply WK.s | (refine hQ.h _ _ ?_; clear hQ hA) | (refine WK.rH Tryz.ntmps24 (by kernel_rfl) ?_; intro A hA Q hQ; simp [*]) | (refine RunQ.g rfl (by rw [hA.h]; rfl) ?_; simp [*]) | (refine WK.t Tryz.func24 ?_ ?_ <;> simp (maxDischargeDepth := 120) [Tryz.results24, *]))
   · rw [decide_eq_true h1, decide_eq_false h2]
     refine FnP.i Tryz.func24 rfl rfl fun G w => ?_
     repeat' (first | apply WK.s | (refine hQ.h _ _ ?_; clear hQ hA) | (refine WK.rH Tryz.ntmps24 (by kernel_rfl) ?_; intro A hA Q hQ; simp [*]) | (refine RunQ.g rfl (by rw [hA.h]; rfl) ?_; simp [*]) | (refine WK.t Tryz.func24 ?_ ?_ <;> simp (maxDischargeDepth := 120) [Tryz.results24, *]))
 · rw [decide_eq_false h1]
   refine FnP.i Tryz.func24 rfl rfl fun G w => ?_
   repeat' (first | apply WK.s | (refine hQ.h _ _ ?_; clear hQ hA) | (refine WK.rH Tryz.ntmps24 (by kernel_rfl) ?_; intro A hA Q hQ; simp [*]) | (refine RunQ.g rfl (by rw [hA.h]; rfl) ?_; simp [*]) | (refine WK.t Tryz.func24 ?_ ?_ <;> simp (maxDischargeDepth := 120) [Tryz.results24, *]))
def nIs (n : Net) (at_ port : Int) (l : Link) : Bool := (l.from_ == at_ && l.out == port) && nThere n l.to_
def nAt (n : Net) (at_ port : Int) : Int := idxI (nIs n at_ port) n.links
def nTold (n : Net) (p : Int) : List AV := if p < 0 then [.int .i64 0, .int .i64 0, .bool false] else [.int .i64 (nth n.links p.toNat).to_, .int .i64 (nth n.links p.toNat).inn, .bool true]
theorem lnext1_c (n : Net) (at_ port : Int) (l : Link) : FnP Tryz.prog 23 [.agg l.enc, .iptr [.int .i64 at_], .iptr [.int .i64 port], .iptr n.enc] (.bool (nIs n at_ port l)) := by
 have c := lthere_c n l.to_
 unfold nIs
 obtain ⟨b, hb⟩ : ∃ b, nThere n l.to_ = b := ⟨_, rfl⟩
 rw [hb] at c ⊢
 obtain ⟨S, T, hS, s1, s2⟩ : ∃ S T, n.enc = [S, T] ∧ Cl S = true ∧ Cl T = true := ⟨_, _, rfl, swS_cl _, linkS_cl _⟩
 rw [hS] at c ⊢
 clear hb hS
 cases k1 : (l.from_ == at_)
 · clear c
   refine FnP.i Tryz.func23 rfl rfl fun G w => ?_
   repeat' (first | apply WK.s | (refine hQ.h _ _ ?_; clear hQ hA) | (refine WK.rH Tryz.ntmps23 (by kernel_rfl) ?_; intro A hA Q hQ; simp [Link.enc, *]) | (refine RunQ.g rfl (by rw [hA.h]; rfl) ?_; simp [Link.enc, *]) | (refine WK.t Tryz.func23 ?_ ?_ <;> simp (maxDischargeDepth := 120) [Tryz.results23, Link.enc, *]))
 cases k2 : (l.out == port)
 · clear c
   refine FnP.i Tryz.func23 rfl rfl fun G w => ?_
   repeat' (first | apply WK.s | (refine hQ.h _ _ ?_; clear hQ hA) | (refine WK.rH Tryz.ntmps23 (by kernel_rfl) ?_; intro A hA Q hQ; simp [Link.enc, *]) | (refine RunQ.g rfl (by rw [hA.h]; rfl) ?_; simp [Link.enc, *]) | (refine WK.t Tryz.func23 ?_ ?_ <;> simp (maxDischargeDepth := 120) [Tryz.results23, Link.enc, *]))
 refine FnP.i Tryz.func23 rfl rfl fun G w => ?_
 repeat' (first | apply WK.s | (refine hQ.h _ _ ?_; clear hQ hA) | (refine WK.rH Tryz.ntmps23 (by kernel_rfl) ?_; intro A hA Q hQ; simp [Link.enc, *]) | (refine RunQ.g rfl (by rw [hA.h]; rfl) ?_; simp [Link.enc, *]) | (refine RunQW.k rfl rfl rfl rfl ?_ (c) ?_ ?_ <;> simp (maxDischargeDepth := 120) [Link.enc, *] <;> refine ⟨?_⟩) | (refine WK.t Tryz.func23 ?_ ?_ <;> simp (maxDischargeDepth := 120) [Tryz.results23, Link.enc, *]))
theorem link_get2 (l : List Link) (i : Nat) (h : i < l.length) (h' : i * 4 + 2 < (linkL l).length) : (linkL l)[i * 4 + 2] = .int .i64 (nth l i).to_ := link_get l i 2 h (by omega) h'
theorem link_get3 (l : List Link) (i : Nat) (h : i < l.length) (h' : i * 4 + 3 < (linkL l).length) : (linkL l)[i * 4 + 3] = .int .i64 (nth l i).inn := link_get l i 3 h (by omega) h'
theorem idxI_cases {α : Type} [Inhabited α] (p : α → Bool) (l : List α) : idxI p l = -1 ∨ ∃ i : Nat, i < l.length ∧ idxI p l = i ∧ p (nth l i) = true ∧ ∀ j, j < i → p (nth l j) = false := by
 by_cases h : ∃ i, i < l.length ∧ p (nth l i) = true
 · have hx : ∃ i, (i < l.length ∧ p (nth l i) = true) ∧ ∀ j, j < i → p (nth l j) = false := by
     obtain ⟨i, hi⟩ := h
     induction i using Nat.strongRecOn with
     | _ i ih =>
       by_cases hj : ∃ j, j < i ∧ p (nth l j) = true
       · obtain ⟨j, hj1, hj2⟩ := hj
         exact ih j hj1 ⟨by omega, hj2⟩
       · exact ⟨i, hi, fun j hj1 => by
           cases hb : p (nth l j) with
           | false => rfl
           | true => exact absurd ⟨j, hj1, hb⟩ hj⟩
   obtain ⟨i, ⟨h1, h2⟩, h3⟩ := hx
   exact .inr ⟨i, h1, idxI_some h1 h2 h3, h2, h3⟩
 · refine .inl (idxI_none fun j hj => ?_)
   cases hb : p (nth l j) with
   | false => rfl
   | true => exact absurd ⟨j, hj, hb⟩ h
set_option maxRecDepth 100000 in
theorem lnext_c (n : Net) (at_ port : Int) (hl : n.links.length ≤ 1000000) : FnP Tryz.prog 7 [.agg n.enc, .int .i64 at_, .int .i64 port] (.tup (nTold n (nAt n at_ port))) := by
 have c := indexf_link 23 [.iptr [.int .i64 at_], .iptr [.int .i64 port], .iptr n.enc] (nIs n at_ port) n.links (by simp [ClL, Cl]) hl (fun x _ => lnext1_c n at_ port x)
 have hk := idxI_cases (nIs n at_ port) n.links
 have e : nAt n at_ port = idxI (nIs n at_ port) n.links := rfl
 rw [← e] at c hk
 obtain ⟨P, hP⟩ : ∃ P, nAt n at_ port = P := ⟨_, rfl⟩
 rw [hP] at c hk ⊢
 have e0 : n.enc = [swS n.sws, linkS n.links] := rfl
 rw [e0] at c ⊢
 unfold nTold
 clear e hP e0
 obtain ⟨S, L⟩ := n
 simp only at *
 unfold linkS at *
 obtain ⟨S, hS, hsc⟩ : ∃ s, swS S = s ∧ Cl s = true := ⟨_, rfl, swS_cl _⟩
 rw [hS] at c ⊢
 clear hS
 rcases hk with rfl | ⟨i, hi, rfl, _⟩
 · rw [if_pos (by omega)]
   refine FnP.i Tryz.func7 rfl rfl fun G w => ?_
   repeat apply WK.s
   refine WK.g 100 Tryz.ntmps7 (by kernel_rfl) ?_
   intro A hA Q hQ
   simp
   apply hQ
   clear hQ hA
   repeat apply WK.s
   refine WK.ghost (Ghost.frzVar 3 rfl rfl) ?_
   refine WK.ghost (Ghost.frzVar 4 rfl rfl) ?_
   refine WK.ghost (Ghost.frzVar 5 rfl rfl) ?_
   repeat' (first | apply WK.s | refine WK.cT rfl ?_ | (refine hQ.h _ _ ?_; clear hQ hA) | (refine WK.rH Tryz.ntmps7 (by kernel_rfl) ?_; intro A hA Q hQ; simp [*]) | (refine RunQ.k rfl rfl rfl rfl rfl ?_ (c) ?_ ?_ <;> simp (maxDischargeDepth := 120) [*] <;> refine ⟨?_⟩) | (refine WK.t Tryz.func7 ?_ ?_ <;> simp (maxDischargeDepth := 120) [Tryz.results7, *]))
 · have hi' : (i : Int) < L.length := by omega
   have hn : ¬ (i : Int) < 0 := by omega
   have q2 := link_get2 L i hi
   have q3 := link_get3 L i hi
   have r2 : i * 4 + 2 < L.length * 4 := by omega
   have r3 : i * 4 + 3 < L.length * 4 := by omega
   rw [if_neg hn, Int.toNat_natCast]
   refine FnP.i Tryz.func7 rfl rfl fun G w => ?_
   repeat apply WK.s
   refine WK.g 100 Tryz.ntmps7 (by kernel_rfl) ?_
   intro A hA Q hQ
   simp
   apply hQ
   clear hQ hA
   repeat apply WK.s
   refine WK.ghost (Ghost.frzVar 3 rfl rfl) ?_
   refine WK.ghost (Ghost.frzVar 4 rfl rfl) ?_
   refine WK.ghost (Ghost.frzVar 5 rfl rfl) ?_
   repeat' (first | apply WK.s | apply WK.k | refine WK.cF rfl ?_ | (refine hQ.h _ _ ?_; clear hQ hA) | (refine WK.rH Tryz.ntmps7 (by kernel_rfl) ?_; intro A hA Q hQ; simp [*]) | (refine WK.rX (by kernel_rfl) Tryz.ntmps7 (by kernel_rfl) ?_; intro A hA Q hQ; simp [*]) | (refine hQ.h _ _ _ (by decide +kernel) ?_; clear hQ hA) | (refine RunQ.k rfl rfl rfl rfl rfl ?_ (c) ?_ ?_ <;> simp (maxDischargeDepth := 120) [*] <;> refine ⟨?_⟩) | (refine WK.t Tryz.func7 ?_ ?_ <;> simp (maxDischargeDepth := 120) [Tryz.results7, *]))
end Go.Proofs.YtmhapglejjehbaaGreat

namespace Go.Proofs.YtmhapglejjehbaaGreat
open Go Go.AI Go.Proofs Go.Proofs.YtmhapglejjehbaaGreat
theorem rdGroup {w : World} {H : Type} {enc : TypeId × Value → H} {sp : Nat → Bool} {held : Bool} : Rd enc Tryz.prog w sp held 55 Group.enc := by
 intro fuel cs x h
 obtain ⟨hl, fuel', hf⟩ := trod_struct Tryz.underlying55 h
 simp only [cellsOf_sz, sz55] at hl
 simp only [List.mem_cons, List.not_mem_nil, or_false, forall_eq_or_imp, forall_eq, cellsOf_sz, sz3, sz53] at hf
 match cs, hl, hf with
 | [c0, c1, c2], _, ⟨⟨y0, h0⟩, ⟨y1, h1⟩, ⟨y2, h2⟩⟩ =>
   obtain ⟨n0, e0⟩ := rd_int Tryz.underlying3 h0
   obtain ⟨n1, e1⟩ := rd_int Tryz.underlying3 h1
   obtain ⟨l, u, e2, r2⟩ := rd_slice (s := 4) (f := Bucket.enc) Tryz.underlying53 (by kernel_rfl) (by omega) Bucket.len rdBucket h2
   simp at e0 e1 e2
   subst e0 e1 e2
   exact ⟨⟨n0, n1, l⟩, RelL.cons (by simp [Rel]) (RelL.cons (by simp [Rel]) (RelL.cons r2 RelL.nil)),
     (Ones.append (vs := [_, _]) (by simp [Ones, Value.oneCell']) (Ones.single (one_of_sl r2)))⟩
theorem rdFlowsRow {w : World} {H : Type} {enc : TypeId × Value → H} {sp : Nat → Bool} {held : Bool} : Rd enc Tryz.prog w sp held 43 (fun l : List Flow => [flowS l]) := by
 intro fuel cs x h
 obtain ⟨l, u, e, r⟩ := rd_slice (s := 7) (f := Flow.enc) Tryz.underlying43 (by kernel_rfl) (by omega) Flow.len rdFlow h
 subst e
 exact ⟨l, RelL.cons r RelL.nil, Ones.single (one_of_sl r)⟩
theorem rdSwitch {w : World} {H : Type} {enc : TypeId × Value → H} {sp : Nat → Bool} {held : Bool} : Rd enc Tryz.prog w sp held 46 Switch.enc := by
 intro fuel cs x h
 obtain ⟨hl, fuel', hf⟩ := trod_struct Tryz.underlying46 h
 simp only [cellsOf_sz, sz46] at hl
 simp only [List.mem_cons, List.not_mem_nil, or_false, forall_eq_or_imp, forall_eq, cellsOf_sz, sz44, sz31] at hf
 match cs, hl, hf with
 | [c0, c1, c2, c3, c4], _, ⟨⟨y0, h0⟩, ⟨y1, h1⟩⟩ =>
   obtain ⟨c, e1, e2⟩ := rd_array (s := 1) (f := fun l : List Flow => [flowS l]) Tryz.underlying44 (by kernel_rfl) (by kernel_rfl) (fun _ => rfl) rdFlowsRow h0
   obtain ⟨l, u, e3, r3⟩ := rd_slice (s := 3) (f := Group.enc) Tryz.underlying31 (by kernel_rfl) (by omega) Group.len rdGroup h1
   simp at e1 e2 e3
   subst e3
   refine ⟨⟨c, l⟩, ?_, ?_⟩
   · have e : encN 4 (fun l : List Flow => [flowS l]) c = [flowS (c 0), flowS (c 1), flowS (c 2), flowS (c 3)] := rfl
     rw [e] at e1
     exact e1.append (RelL.cons r3 RelL.nil)
   · exact Ones.append (vs := [_, _, _, _]) e2 (Ones.single (one_of_sl r3))
theorem rdLink {w : World} {H : Type} {enc : TypeId × Value → H} {sp : Nat → Bool} {held : Bool} : Rd enc Tryz.prog w sp held 39 Link.enc := by
 intro fuel cs x h
 obtain ⟨hl, fuel', hf⟩ := trod_struct Tryz.underlying39 h
 simp only [cellsOf_sz, sz39] at hl
 simp only [List.mem_cons, List.not_mem_nil, or_false, forall_eq_or_imp, forall_eq, cellsOf_sz, sz3] at hf
 match cs, hl, hf with
 | [c0, c1, c2, c3], _, ⟨⟨y0, h0⟩, ⟨y1, h1⟩, ⟨y2, h2⟩, ⟨y3, h3⟩⟩ =>
   obtain ⟨n0, e0⟩ := rd_int Tryz.underlying3 h0
   obtain ⟨n1, e1⟩ := rd_int Tryz.underlying3 h1
   obtain ⟨n2, e2⟩ := rd_int Tryz.underlying3 h2
   obtain ⟨n3, e3⟩ := rd_int Tryz.underlying3 h3
   simp at e0 e1 e2 e3
   subst e0 e1 e2 e3
   exact ⟨⟨n0, n1, n2, n3⟩, RelL.cons (by simp [Rel]) (RelL.cons (by simp [Rel]) (RelL.cons (by simp [Rel]) (RelL.cons (by simp [Rel]) RelL.nil))), by simp [Ones, Value.oneCell']⟩
theorem rdNet {w : World} {H : Type} {enc : TypeId × Value → H} {sp : Nat → Bool} {held : Bool} : Rd enc Tryz.prog w sp held 25 Net.enc := by
 intro fuel cs x h
 obtain ⟨hl, fuel', hf⟩ := trod_struct Tryz.underlying25 h
 simp only [cellsOf_sz, sz25] at hl
 simp only [List.mem_cons, List.not_mem_nil, or_false, forall_eq_or_imp, forall_eq, cellsOf_sz, sz22, sz23] at hf
 match cs, hl, hf with
 | [c0, c1], _, ⟨⟨y0, h0⟩, ⟨y1, h1⟩⟩ =>
   obtain ⟨l0, u0, e0, r0⟩ := rd_slice (s := 5) (f := Switch.enc) Tryz.underlying22 (by kernel_rfl) (by omega) Switch.len rdSwitch h0
   obtain ⟨l1, u1, e1, r1⟩ := rd_slice (s := 4) (f := Link.enc) Tryz.underlying23 (by kernel_rfl) (by omega) Link.len rdLink h1
   simp at e0 e1
   subst e0 e1
   exact ⟨⟨l0, l1⟩, RelL.cons r0 (RelL.cons r1 RelL.nil), Ones.append (vs := [_]) (Ones.single (one_of_sl r0)) (Ones.single (one_of_sl r1))⟩
theorem rdvNet : RdV Tryz.prog 25 (fun a => ∃ x, a = .agg (Net.enc x)) := rdV_agg (.inl ⟨_, Tryz.underlying25⟩) (fun _ _ _ => rdNet)
def zeroNet : Array Value := #[.slice none 0 0, .slice none 0 0]
end Go.Proofs.YtmhapglejjehbaaGreat

namespace Go.Proofs.YtmhapglejjehbaaGreat
open Go Go.AI Go.Proofs
attribute [local irreducible] FnP FnO FnB FnT FnSeq FnV FnSeqV WK RunQ RunQW RunX RunXW RunN
theorem mpOkP : MpOkK Tryz.prog 65 kvP keP := MpOkK.mk' Tryz.underlying65 (KeyOk.pair Tryz.underlying67 Tryz.underlying3 Tryz.underlying3 rfl rfl fl67) (by kernel_rfl) fun E G k v h => keP_rel h
def edgeHas (ops : Array Oper) (i j : Nat) : Bool := match ops[i]? with | some o => o.after.toList.any fun e => Region.binds .any e && e.on == j | none => false
theorem edgeHas_use {ops : Array Oper} {i j : Nat} {o : Oper} {L : Nat → Bool} (h : edgeHas ops i j = true) (ho : ops[i]? = some o) (hall : ∀ e ∈ o.after, Region.binds .any e = true → L e.on = true) : L j = true := by
 unfold edgeHas at h
 rw [ho] at h
 simp only [List.any_eq_true, Bool.and_eq_true, beq_iff_eq] at h
 obtain ⟨e, h1, h2, rfl⟩ := h
 exact hall e (by simpa using h1) h2
theorem regInc {C : Ctx} {id N q n : Nat} {ops : Array Oper} {k : List Item} {tm : Nat → AV} {bx : Nat → Box} {nx : Nat} {a b : Int} {M : List ((Int × Int) × Int)} {v : Int}
   (hops : ops.toList.map (fun o => (o.dst, o.op, o.guard)) = [(some 21, Op.move (.tmp 3), none), (some 22, Op.load 67 (.tmp 7), none), (some 23, Op.lookup 65 (.tmp 21) (.tmp 22) false, none), (some 24, Op.binOp .add 3 (.tmp 23) (.const (.int .i64 1)) 3, none),
     (some 25, Op.mapEntry 65 (.tmp 21) (.tmp 22), none), (some 26, Op.extract (.tmp 25) 1, none), (none, Op.entryStore 65 (.tmp 21) (.tmp 26) (.tmp 24), none)])
   (e1 : edgeHas ops 2 0 = true) (e2 : edgeHas ops 2 1 = true) (e3 : edgeHas ops 3 2 = true) (e4 : edgeHas ops 4 0 = true) (e5 : edgeHas ops 4 1 = true) (e6 : edgeHas ops 5 4 = true) (e7 : edgeHas ops 6 0 = true) (e8 : edgeHas ops 6 3 = true) (e9 : edgeHas ops 6 5 = true)
   (hE : edgeB ops = true) (hn : C.fn.ntmps = N) (hd : dstB N ops = true) (h3 : tm 3 = .mv n) (h7 : tm 7 = .ptr q 0) (hq : bx q = .var [.int .i64 a, .int .i64 b]) (hm : bx n = .obj (mpObjK kvP 0 M)) (hqn : q ≠ n)
   (hv : v = IntKind.i64.wrap (mpVal M (a, b) + 1))
   (h : WK Tryz.prog C k ⟨upd (upd (upd (upd (upd (upd tm 21 (.mv n)) 22 (keP (a, b))) 23 (.int .i64 (mpVal M (a, b)))) 24 (.int .i64 v)) 25 (.tup [.int .i64 (mpVal M (a, b)), .int .i64 ((0 + mpAt M (a, b) : Nat) : Int)])) 26 (.int .i64 ((0 + mpAt M (a, b) : Nat) : Int)), upd bx n (.obj (mpObjK kvP 0 (mpPut M (a, b) v))), nx⟩) :
   WK Tryz.prog C (.code (.region id ops true) :: k) ⟨tm, bx, nx⟩ := by
 let tmS : (Nat → Bool) → Nat → AV := fun L t => if t = 21 then (if L 0 then .mv n else tm 21) else if t = 22 then (if L 1 then keP (a, b) else tm 22) else if t = 23 then (if L 2 then .int .i64 (mpVal M (a, b)) else tm 23) else if t = 24 then (if L 3 then .int .i64 v else tm 24)
   else if t = 25 then (if L 4 then .tup [.int .i64 (mpVal M (a, b)), .int .i64 ((0 + mpAt M (a, b) : Nat) : Int)] else tm 25) else if t = 26 then (if L 5 then .int .i64 ((0 + mpAt M (a, b) : Nat) : Int) else tm 26) else tm t
 let bxS : (Nat → Bool) → Nat → Box := fun L j => if j = n then (if L 6 then .obj (mpObjK kvP 0 (mpPut M (a, b) v)) else if L 4 then .obj (mpObjK kvP 0 (mpIn M (a, b))) else .obj (mpObjK kvP 0 M)) else bx j
 have hsz : ops.size = 7 := by
   have := congrArg List.length hops
   simpa using this
 have hvin : mpVal (mpIn M (a, b)) (a, b) = mpVal M (a, b) := by
   unfold mpIn
   cases hl : mpLook M (a, b) with
   | some q => rfl
   | none =>
     rw [← mpPut_none hl, mpVal_put, if_pos rfl]
     unfold mpVal; rw [hl]
 refine WK.drawS (fun L => ⟨tmS L, bxS L, 0⟩) (by kernel_rfl) hn hd hE ?_ (fun L L' hL => ?_) (fun L hcl i o ho hLi hall => ?_) ?_
 · have t1 : tmS (fun _ => false) = tm := by
     funext t
     simp only [tmS, Bool.false_eq_true, if_false]
     repeat' split
     all_goals first | rfl | (rename_i h; rw [h]) | skip
   have t2 : bxS (fun _ => false) = bx := by
     funext j
     simp only [bxS, Bool.false_eq_true, if_false]
     split
     · rename_i h; rw [h, hm]
     · rfl
   simp only [t1, t2]
 · have : ∀ i, i < 7 → L i = L' i := fun i hi => hL i (by omega)
   have t1 : tmS L = tmS L' := by
     funext t
     simp only [tmS, this 0 (by omega), this 1 (by omega), this 2 (by omega), this 3 (by omega), this 4 (by omega), this 5 (by omega)]
   have t2 : bxS L = bxS L' := by
     funext j
     simp only [bxS, this 6 (by omega), this 4 (by omega)]
   simp only [t1, t2]
 · have hk : [(some 21, Op.move (.tmp 3), none), (some 22, Op.load 67 (.tmp 7), none), (some 23, Op.lookup 65 (.tmp 21) (.tmp 22) false, none), (some 24, Op.binOp .add 3 (.tmp 23) (.const (.int .i64 1)) 3, none),
       (some 25, Op.mapEntry 65 (.tmp 21) (.tmp 22), none), (some 26, Op.extract (.tmp 25) 1, none), (none, Op.entryStore 65 (.tmp 21) (.tmp 26) (.tmp 24), none)][i]? = some (o.dst, o.op, o.guard) := by
     rw [← hops, List.getElem?_map, Array.getElem?_toList, ho]; rfl
   have use : ∀ {i j : Nat} {o : Oper}, edgeHas ops i j = true → ops[i]? = some o → L i = true → L j = true := fun h ho hl => edgeHas_use h ho (hcl _ _ ho hl)
   have dep : ∀ {j : Nat}, edgeHas ops i j = true → L j = true := fun h => edgeHas_use h ho hall
   have ops2 : ∀ j, j < 7 → ∃ o, ops[j]? = some o := fun j hj => ⟨ops[j]'(by omega), Array.getElem?_eq_getElem (by omega)⟩
   have l36 : L 6 = true → L 3 = true ∧ L 5 = true := fun h => by obtain ⟨o, ho⟩ := ops2 6 (by omega); exact ⟨use e8 ho h, use e9 ho h⟩
   have l23 : L 3 = true → L 2 = true := fun h => by obtain ⟨o, ho⟩ := ops2 3 (by omega); exact use e3 ho h
   have l45 : L 5 = true → L 4 = true := fun h => by obtain ⟨o, ho⟩ := ops2 5 (by omega); exact use e6 ho h
   have go : ∀ {x : AV} {bx' : Nat → Box}, o.guard = none → Mems Tryz.prog (evA (tmS L)) (bxS L) o x bx' → (∀ t, putA (tmS L) o.dst x t = tmS (fun j => L j || j == i) t) → (∀ t, bx' t = bxS (fun j => L j || j == i) t) → Step1 Tryz.prog ops i ⟨tmS L, bxS L, 0⟩ ⟨tmS (fun j => L j || j == i), bxS (fun j => L j || j == i), 0⟩ := fun hg hM h1 h2 => by
     have := Step1.run (P := Tryz.prog) (st := ⟨tmS L, bxS L, 0⟩) ho (by simp [wantedA, hg]) hM
     rw [show putA (tmS L) o.dst _ = _ from funext h1, show _ = _ from funext h2] at this
     exact this
   have hi : i < 7 := by
     rcases Nat.lt_or_ge i ops.size with h | h
     · omega
     · rw [Array.getElem?_eq_none h] at ho; cases ho
   have s3 : tmS L 3 = .mv n := by simp [tmS, h3]
   have s7 : tmS L 7 = .ptr q 0 := by simp [tmS, h7]
   have bq : bxS L q = .var [.int .i64 a, .int .i64 b] := by simp [bxS, hqn, hq]
   have hic : i = 0 ∨ i = 1 ∨ i = 2 ∨ i = 3 ∨ i = 4 ∨ i = 5 ∨ i = 6 := by omega
   rcases hic with rfl | rfl | rfl | rfl | rfl | rfl | rfl <;> simp only [List.getElem?_cons_zero, List.getElem?_cons_succ, Option.some.injEq, Prod.mk.injEq] at hk <;> obtain ⟨hd1, ho1, hg1⟩ := hk
   · refine go hg1.symm (Mems.pure (x := .mv n) (by rw [← ho1]; simp [comp, s3])) (fun t => ?_) (fun t => by simp [bxS])
     rw [← hd1]
     by_cases h : t = 21
     · subst h; simp [tmS]
     · simp [tmS, h]
   · refine go hg1.symm (Mems.load (x := keP (a, b)) ho1.symm s7 (by rw [bq]; rfl) (by simp [keP])) (fun t => ?_) (fun t => by simp [bxS])
     rw [← hd1]
     by_cases h : t = 22
     · subst h; simp [tmS]
     · simp [tmS, h]
   · have l0 := dep e1
     have l1 := dep e2
     have l6 : L 6 = false := by
       cases h6 : L 6 with
       | false => rfl
       | true => rw [l23 (l36 h6).1] at hLi; cases hLi
     have t21 : evA (tmS L) (.tmp 21) = .mv n := by simp [tmS, l0]
     have t22 : evA (tmS L) (.tmp 22) = keP (a, b) := by simp [tmS, l1]
     refine go (bx' := bxS L) (x := .int .i64 (mpVal M (a, b))) hg1.symm ?_ (fun t => ?_) (fun t => by simp [bxS])
     · cases l4 : L 4 with
       | false => exact Mems.lookup (k := (a, b)) (es := M) (c := 0) ho1.symm mpOkP t21 t22 (by simp [bxS, l6, l4])
       | true =>
         rw [← hvin]
         exact Mems.lookup (k := (a, b)) (es := mpIn M (a, b)) (c := 0) ho1.symm mpOkP t21 t22 (by simp [bxS, l6, l4])
     · rw [← hd1]
       by_cases h : t = 23
       · subst h; simp [tmS]
       · simp [tmS, h]
   · have l2 := dep e3
     refine go hg1.symm (Mems.pure (x := .int .i64 v) (by rw [← ho1]; simp [comp, tmS, l2, hv])) (fun t => ?_) (fun t => by simp [bxS])
     rw [← hd1]
     by_cases h : t = 24
     · subst h; simp [tmS]
     · simp [tmS, h]
   · have l0 := dep e4
     have l1 := dep e5
     have l6 : L 6 = false := by
       cases h6 : L 6 with
       | false => rfl
       | true => rw [l45 (l36 h6).2] at hLi; cases hLi
     have t21 : evA (tmS L) (.tmp 21) = .mv n := by simp [tmS, l0]
     have t22 : evA (tmS L) (.tmp 22) = keP (a, b) := by simp [tmS, l1]
     refine go hg1.symm (Mems.mapEntry (k := (a, b)) (es := M) (c := 0) (n := n) ho1.symm mpOkP t21 t22 (by simp [bxS, l6, hLi])) (fun t => ?_) (fun t => ?_)
     · rw [← hd1]
       by_cases h : t = 25
       · subst h; simp [tmS]
       · simp [tmS, h]
     · by_cases h : t = n
       · subst h; simp [bxS, l6]
       · simp [bxS, h]
   · have l4 := dep e6
     refine go hg1.symm (Mems.pure (x := .int .i64 ((0 + mpAt M (a, b) : Nat) : Int)) (by rw [← ho1]; simp [comp, tmS, l4])) (fun t => ?_) (fun t => by simp [bxS])
     rw [← hd1]
     by_cases h : t = 26
     · subst h; simp [tmS]
     · simp [tmS, h]
   · have l0 := dep e7
     have l3 := dep e8
     have l5 := dep e9
     have l4 := l45 l5
     have t21 : evA (tmS L) (.tmp 21) = .mv n := by simp [tmS, l0]
     have t26 : evA (tmS L) (.tmp 26) = .int .i64 ((0 + mpAt M (a, b) : Nat) : Int) := by simp [tmS, l5]
     have t24 : evA (tmS L) (.tmp 24) = .int .i64 v := by simp [tmS, l3]
     refine go hg1.symm (Mems.entryPut (k := (a, b)) (es := M) (c := 0) (n := n) (kv := kvP) ho1.symm t21 t26 rfl t24 (by simp [bxS, hLi, l4])) (fun t => ?_) (fun t => ?_)
     · rw [← hd1]
       simp [tmS]
     · by_cases h : t = n
       · subst h; simp [bxS]
       · simp [bxS, h]
 · have t1 : tmS (fun _ => true) = upd (upd (upd (upd (upd (upd tm 21 (.mv n)) 22 (keP (a, b))) 23 (.int .i64 (mpVal M (a, b)))) 24 (.int .i64 v)) 25 (.tup [.int .i64 (mpVal M (a, b)), .int .i64 ((0 + mpAt M (a, b) : Nat) : Int)])) 26 (.int .i64 ((0 + mpAt M (a, b) : Nat) : Int)) := by
     funext t
     simp only [tmS, if_true, upd]
     repeat' split
     all_goals first | rfl | (exfalso; omega)
   have t2 : bxS (fun _ => true) = upd bx n (.obj (mpObjK kvP 0 (mpPut M (a, b) v))) := by
     funext j
     simp only [bxS, if_true, upd]
   simp only [t1, t2]
   exact WK.anyNx h
def Link.plug (l : Link) : Int × Int := (l.from_, l.out)
def nPort (p : Int) : Bool := decide (1 ≤ p) && decide (p ≤ 4294967040)
def nJoin1 (n : Net) (i : Nat) : Bool := !(decide ((nth n.links i).plug ∈ (n.links.take i).map Link.plug)) && (nThere n (nth n.links i).from_ && (nThere n (nth n.links i).to_ && (nPort (nth n.links i).out && nPort (nth n.links i).inn)))
def nJoins (n : Net) : Bool := (List.range n.links.length).all (nJoin1 n)
def nRight (n : Net) : Bool := nJoins n && n.sws.all stRight
theorem lport_c (p : Int) : FnP Tryz.prog 38 [.int .i64 p] (.bool (nPort p)) := by
 unfold nPort
 by_cases h1 : 1 ≤ p
 · by_cases h2 : p ≤ 4294967040
   · rw [decide_eq_true h1, decide_eq_true h2]
     refine FnP.i Tryz.func38 rfl rfl fun G w => ?_
     repeat' (first | apply WK.s | (refine hQ.h _ _ ?_; clear hQ hA) | (refine WK.rH Tryz.ntmps38 (by kernel_rfl) ?_; intro A hA Q hQ; simp [*]) | (refine RunQ.g rfl (by rw [hA.h]; rfl) ?_; simp [*]) | (refine WK.t Tryz.func38 ?_ ?_ <;> simp (maxDischargeDepth := 120) [Tryz.results38, *]))
   · rw [decide_eq_true h1, decide_eq_false h2]
     refine FnP.i Tryz.func38 rfl rfl fun G w => ?_
     repeat' (first | apply WK.s | (refine hQ.h _ _ ?_; clear hQ hA) | (refine WK.rH Tryz.ntmps38 (by kernel_rfl) ?_; intro A hA Q hQ; simp [*]) | (refine RunQ.g rfl (by rw [hA.h]; rfl) ?_; simp [*]) | (refine WK.t Tryz.func38 ?_ ?_ <;> simp (maxDischargeDepth := 120) [Tryz.results38, *]))
 · rw [decide_eq_false h1]
   refine FnP.i Tryz.func38 rfl rfl fun G w => ?_
   repeat' (first | apply WK.s | (refine hQ.h _ _ ?_; clear hQ hA) | (refine WK.rH Tryz.ntmps38 (by kernel_rfl) ?_; intro A hA Q hQ; simp [*]) | (refine RunQ.g rfl (by rw [hA.h]; rfl) ?_; simp [*]) | (refine WK.t Tryz.func38 ?_ ?_ <;> simp (maxDischargeDepth := 120) [Tryz.results38, *]))
theorem nJoins_true {n : Net} (h : ∀ i, i < n.links.length → nJoin1 n i = true) : nJoins n = true := by
 unfold nJoins; rw [List.all_eq_true]; intro i hi; exact h i (by simpa using hi)
theorem nJoins_false {n : Net} {i : Nat} (hi : i < n.links.length) (h : nJoin1 n i = false) : nJoins n = false := by
 unfold nJoins; rw [List.all_eq_false]; exact ⟨i, by simpa using hi, by simp [h]⟩
set_option maxHeartbeats 8000000 in
set_option maxRecDepth 100000 in
theorem ljoins_c (n : Net) (hl : n.links.length ≤ 1000000) : FnP Tryz.prog 26 [.agg n.enc] (.bool (nJoins n)) := by
 have ct : ∀ x, FnP Tryz.prog 24 [.agg n.enc, .int .i64 x] (.bool (nThere n x)) := fun x => lthere_c n x
 have cp := lport_c
 have ha := nJoins_true (n := n)
 have hno := fun {i : Nat} => nJoins_false (n := n) (i := i)
 have hJ : ∀ i, nJoin1 n i = (!(decide ((nth n.links i).plug ∈ (n.links.take i).map Link.plug)) && (nThere n (nth n.links i).from_ && (nThere n (nth n.links i).to_ && (nPort (nth n.links i).out && nPort (nth n.links i).inn)))) := fun _ => rfl
 obtain ⟨R, hR⟩ : ∃ R, nJoins n = R := ⟨_, rfl⟩
 rw [hR] at ha ⊢
 simp only [hR] at hno
 have e0 : n.enc = [swS n.sws, linkS n.links] := rfl
 rw [e0] at ct ⊢
 obtain ⟨Jn, hJe⟩ : ∃ Jn : Nat → Bool, ∀ i, nJoin1 n i = Jn i := ⟨_, fun _ => rfl⟩
 obtain ⟨Th, hTh⟩ : ∃ Th : Int → Bool, ∀ x, nThere n x = Th x := ⟨_, fun _ => rfl⟩
 obtain ⟨Po, hPo⟩ : ∃ Po : Int → Bool, ∀ x, nPort x = Po x := ⟨_, fun _ => rfl⟩
 simp only [hJe] at ha hno hJ
 simp only [hTh] at ct hJ
 simp only [hPo] at cp hJ
 clear hR e0 hJe hTh hPo
 obtain ⟨S, L⟩ := n
 simp only at *
 unfold linkS at *
 obtain ⟨S, hS, hsc⟩ : ∃ s, swS S = s ∧ Cl s = true := ⟨_, rfl, swS_cl _⟩
 rw [hS] at ct ⊢
 clear hS
 have hseen0 : mpObj [] = mpObjK kvP 0 (mpSeen []) := rfl
 have hkl : ∀ i, ((L.take i).map Link.plug).length ≤ 1000000 := fun i => by rw [List.length_map, List.length_take]; omega
 refine FnP.i Tryz.func26 rfl rfl fun G w => ?_
 repeat' (first | apply WK.s | apply WK.b | (refine hQ.h _ _ ?_; clear hQ hA) | (refine WK.rH Tryz.ntmps26 (by kernel_rfl) ?_; intro A hA Q hQ; simp [*]) | (refine RunQ.makeMap 900 rfl rfl rfl ?_ ?_; (focus (simp [*]; done)); refine RunQ.evalH ?_; simp [*]))
 refine WK.lI (fun n => if n = 1 then 900 else n) (fun i : Nat => (⟨(upd (upd (upd (upd (upd (upd J 1 (.ptr 0 0)) 3 (.mv 1)) 4 (.fn 38 [])) 10 (.sl false L.length (linkL L))) 11 (.int .i64 L.length)) 12 (.int .i64 i)), (upd (upd B0 0 (.var [S, .sl false L.length (linkL L)])) 1 (.obj (mpObjK kvP 0 (mpSeen ((L.take i).map Link.plug))))), 0⟩ : St)) (fun i => i ≤ L.length ∧ ∀ j, j < i → Jn j = true) (fun i => L.length - i) (0) (by repeat (first | exact TmW.nil | refine TmW.upd ?_ (by simp (maxDischargeDepth := 120) [hsc, hseen0]))) (by repeat (first | exact BxW.nil | refine BxW.upd ?_ (by simp (maxDischargeDepth := 120) [hsc, hseen0]))) (by first | exact InjW.id | exact InjW.nil | exact InjW.one | exact InjW.two (by simp) | exact InjW.three (by simp) (by simp) (by simp)) (⟨by omega, by simp⟩) (fun i hi IH => ?_)
 by_cases h1 : i < L.length
 · have h1' : (i : Int) < L.length := by omega
   have h6 : IntKind.i64.wrap ((i : Int) + 1) = i + 1 := wrap_i64 (by omega) (by omega)
   obtain ⟨h4, h3⟩ := link_load L i h1
   have hi2 := hi.2
   have hno := hno h1
   have hst : Jn i = true → ∀ j, j < i + 1 → Jn j = true := fun h j hj => by
     by_cases h7 : j = i
     · subst h7; exact h
     · exact hi2 j (by omega)
   rw [hJ] at hno hst
   have p1 := cp (nth L i).out
   have p2 := cp (nth L i).inn
   have t1 := ct (nth L i).from_
   have t2 := ct (nth L i).to_
   have htk : (L.take (i + 1)).map Link.plug = (L.take i).map Link.plug ++ [(nth L i).plug] := by rw [take_nth h1, List.map_append]; rfl
   have hkl := hkl i
   have hpe : (nth L i).plug = ((nth L i).from_, (nth L i).out) := rfl
   obtain ⟨x, hx⟩ : ∃ x, nth L i = x := ⟨_, rfl⟩
   simp only [hx] at h4 hno hst p1 p2 t1 t2 htk hpe
   obtain ⟨ks, hks⟩ : ∃ ks, (L.take i).map Link.plug = ks := ⟨_, rfl⟩
   rw [hpe, hks] at htk hno hst
   rw [hks] at hkl ⊢
   have hsn := mpSeen_snoc ks (x.from_, x.out)
   rw [← htk] at hsn
   obtain ⟨c, hvl, hcp, hcl⟩ : ∃ c : Nat, mpVal (mpSeen ks) (x.from_, x.out) = c ∧ (0 < c ↔ (x.from_, x.out) ∈ ks) ∧ c ≤ ks.length := mpSeen_in ks _
   obtain ⟨M, hM⟩ : ∃ M, mpSeen ks = M := ⟨_, rfl⟩
   rw [hM] at hvl hsn ⊢
   rw [hvl] at hsn
   have hput := mpVal_put M (x.from_, x.out) ((c : Int) + 1) (x.from_, x.out)
   rw [if_pos rfl] at hput
   have wc : IntKind.i64.wrap ((c : Int) + 1) = c + 1 := wrap_i64 (by omega) (by omega)
   obtain ⟨b1, e1⟩ : ∃ b, Th x.from_ = b := ⟨_, rfl⟩
   obtain ⟨b2, e2⟩ : ∃ b, Th x.to_ = b := ⟨_, rfl⟩
   obtain ⟨b3, e3⟩ : ∃ b, Po x.out = b := ⟨_, rfl⟩
   obtain ⟨b4, e4⟩ : ∃ b, Po x.inn = b := ⟨_, rfl⟩
   rw [e1] at t1 hno hst
   rw [e2] at t2 hno hst
   rw [e3] at p1 hno hst
   rw [e4] at p2 hno hst
   clear e1 e2 e3 e4 hM hks hx hpe hJ ct cp hi ha hseen0
   by_cases hc0 : 0 < c
   · have hin := hcp.1 hc0
     have e := hno (by rw [decide_eq_true hin]; rfl)
     have hc1 : (1 : Int) < (c : Int) + 1 := by omega
     subst e
     clear hno hst IH t1 t2 p1 p2 hcp hsn htk hin
     repeat' (first | apply WK.s | apply WK.b | apply WK.k | refine WK.cT rfl ?_ | (refine hQ.h _ _ ?_; clear hQ hA) | (refine WK.rH (id := 0) Tryz.ntmps26 (by kernel_rfl) ?_; intro A hA Q hQ; simp [Link.enc, *]) | (refine WK.rH (id := 1) Tryz.ntmps26 (by kernel_rfl) ?_; intro A hA Q hQ; simp [Link.enc, *]) | (refine WK.rH (id := 2) Tryz.ntmps26 (by kernel_rfl) ?_; intro A hA Q hQ; simp [Link.enc, *]) | (refine WK.rH (id := 3) Tryz.ntmps26 (by kernel_rfl) ?_; intro A hA Q hQ; simp [Link.enc, *]) | (refine WK.rH (id := 4) Tryz.ntmps26 (by kernel_rfl) ?_; intro A hA Q hQ; simp [Link.enc, *]) | (refine WK.rH (id := 5) Tryz.ntmps26 (by kernel_rfl) ?_; intro A hA Q hQ; simp [Link.enc, *]) | (refine WK.rH (id := 6) Tryz.ntmps26 (by kernel_rfl) ?_; intro A hA Q hQ; simp [Link.enc, *]))
     refine regInc (a := x.from_) (b := x.out) (M := M) (v := (c : Int) + 1) rfl rfl rfl rfl rfl rfl rfl rfl rfl rfl (by decide +kernel) Tryz.ntmps26 (by kernel_rfl) rfl rfl rfl rfl (by decide) (by rw [hvl]; exact wc.symm) ?_
     simp only [keP, Nat.zero_add]
     repeat' (first | apply WK.s | refine WK.cT rfl ?_ | (refine hQ.h _ _ ?_; clear hQ hA) | (refine WK.rH Tryz.ntmps26 (by kernel_rfl) ?_; intro A hA Q hQ; simp [Link.enc, *]) | (refine RunQ.g rfl (by rw [hA.h]; rfl) ?_; simp [Link.enc, *]) | (refine RunQ.lookup (k := (x.from_, x.out)) mpOkP rfl rfl rfl rfl rfl rfl ?_; refine RunQ.evalH ?_; simp [Link.enc, *]) | (refine WK.t Tryz.func26 ?_ ?_ <;> simp (maxDischargeDepth := 120) [Tryz.results26, Link.enc, *]))
   have hin : ¬ (x.from_, x.out) ∈ ks := fun h => hc0 (hcp.2 h)
   have hc1 : ¬ (1 : Int) < (c : Int) + 1 := by omega
   rw [decide_eq_false hin] at hno hst
   clear hcp hin
   cases b1
   · have e := hno rfl
     subst e
     clear hno hst IH t2 p1 p2 hsn htk
     repeat' (first | apply WK.s | apply WK.b | apply WK.k | refine WK.cT rfl ?_ | (refine hQ.h _ _ ?_; clear hQ hA) | (refine WK.rH (id := 0) Tryz.ntmps26 (by kernel_rfl) ?_; intro A hA Q hQ; simp [Link.enc, *]) | (refine WK.rH (id := 1) Tryz.ntmps26 (by kernel_rfl) ?_; intro A hA Q hQ; simp [Link.enc, *]) | (refine WK.rH (id := 2) Tryz.ntmps26 (by kernel_rfl) ?_; intro A hA Q hQ; simp [Link.enc, *]) | (refine WK.rH (id := 3) Tryz.ntmps26 (by kernel_rfl) ?_; intro A hA Q hQ; simp [Link.enc, *]) | (refine WK.rH (id := 4) Tryz.ntmps26 (by kernel_rfl) ?_; intro A hA Q hQ; simp [Link.enc, *]) | (refine WK.rH (id := 5) Tryz.ntmps26 (by kernel_rfl) ?_; intro A hA Q hQ; simp [Link.enc, *]) | (refine WK.rH (id := 6) Tryz.ntmps26 (by kernel_rfl) ?_; intro A hA Q hQ; simp [Link.enc, *]))
     refine regInc (a := x.from_) (b := x.out) (M := M) (v := (c : Int) + 1) rfl rfl rfl rfl rfl rfl rfl rfl rfl rfl (by decide +kernel) Tryz.ntmps26 (by kernel_rfl) rfl rfl rfl rfl (by decide) (by rw [hvl]; exact wc.symm) ?_
     simp only [keP, Nat.zero_add]
     repeat' (first | apply WK.s | refine WK.cT rfl ?_ | (refine hQ.h _ _ ?_; clear hQ hA) | (refine WK.rH Tryz.ntmps26 (by kernel_rfl) ?_; intro A hA Q hQ; simp [Link.enc, *]) | (refine RunQ.g rfl (by rw [hA.h]; rfl) ?_; simp [Link.enc, *]) | (refine RunQ.lookup (k := (x.from_, x.out)) mpOkP rfl rfl rfl rfl rfl rfl ?_; refine RunQ.evalH ?_; simp [Link.enc, *]) | (refine RunQW.k rfl rfl rfl rfl ?_ (t1) ?_ ?_ <;> simp (maxDischargeDepth := 120) [Link.enc, *] <;> refine ⟨?_⟩) | (refine WK.t Tryz.func26 ?_ ?_ <;> simp (maxDischargeDepth := 120) [Tryz.results26, Link.enc, *]))
   cases b2
   · have e := hno rfl
     subst e
     clear hno hst IH p1 p2 hsn htk
     repeat' (first | apply WK.s | apply WK.b | apply WK.k | refine WK.cT rfl ?_ | (refine hQ.h _ _ ?_; clear hQ hA) | (refine WK.rH (id := 0) Tryz.ntmps26 (by kernel_rfl) ?_; intro A hA Q hQ; simp [Link.enc, *]) | (refine WK.rH (id := 1) Tryz.ntmps26 (by kernel_rfl) ?_; intro A hA Q hQ; simp [Link.enc, *]) | (refine WK.rH (id := 2) Tryz.ntmps26 (by kernel_rfl) ?_; intro A hA Q hQ; simp [Link.enc, *]) | (refine WK.rH (id := 3) Tryz.ntmps26 (by kernel_rfl) ?_; intro A hA Q hQ; simp [Link.enc, *]) | (refine WK.rH (id := 4) Tryz.ntmps26 (by kernel_rfl) ?_; intro A hA Q hQ; simp [Link.enc, *]) | (refine WK.rH (id := 5) Tryz.ntmps26 (by kernel_rfl) ?_; intro A hA Q hQ; simp [Link.enc, *]) | (refine WK.rH (id := 6) Tryz.ntmps26 (by kernel_rfl) ?_; intro A hA Q hQ; simp [Link.enc, *]))
     refine regInc (a := x.from_) (b := x.out) (M := M) (v := (c : Int) + 1) rfl rfl rfl rfl rfl rfl rfl rfl rfl rfl (by decide +kernel) Tryz.ntmps26 (by kernel_rfl) rfl rfl rfl rfl (by decide) (by rw [hvl]; exact wc.symm) ?_
     simp only [keP, Nat.zero_add]
     repeat' (first | apply WK.s | refine WK.cT rfl ?_ | (refine hQ.h _ _ ?_; clear hQ hA) | (refine WK.rH Tryz.ntmps26 (by kernel_rfl) ?_; intro A hA Q hQ; simp [Link.enc, *]) | (refine RunQ.g rfl (by rw [hA.h]; rfl) ?_; simp [Link.enc, *]) | (refine RunQ.lookup (k := (x.from_, x.out)) mpOkP rfl rfl rfl rfl rfl rfl ?_; refine RunQ.evalH ?_; simp [Link.enc, *]) | (refine RunQW.k rfl rfl rfl rfl ?_ (t1) ?_ ?_ <;> simp (maxDischargeDepth := 120) [Link.enc, *] <;> refine ⟨?_⟩) | (refine RunQW.k rfl rfl rfl rfl ?_ (t2) ?_ ?_ <;> simp (maxDischargeDepth := 120) [Link.enc, *] <;> refine ⟨?_⟩) | (refine WK.t Tryz.func26 ?_ ?_ <;> simp (maxDischargeDepth := 120) [Tryz.results26, Link.enc, *]))
   cases b3
   · have e := hno rfl
     subst e
     clear hno hst IH p2 hsn htk
     repeat' (first | apply WK.s | apply WK.b | apply WK.k | refine WK.cT rfl ?_ | (refine hQ.h _ _ ?_; clear hQ hA) | (refine WK.rH (id := 0) Tryz.ntmps26 (by kernel_rfl) ?_; intro A hA Q hQ; simp [Link.enc, *]) | (refine WK.rH (id := 1) Tryz.ntmps26 (by kernel_rfl) ?_; intro A hA Q hQ; simp [Link.enc, *]) | (refine WK.rH (id := 2) Tryz.ntmps26 (by kernel_rfl) ?_; intro A hA Q hQ; simp [Link.enc, *]) | (refine WK.rH (id := 3) Tryz.ntmps26 (by kernel_rfl) ?_; intro A hA Q hQ; simp [Link.enc, *]) | (refine WK.rH (id := 4) Tryz.ntmps26 (by kernel_rfl) ?_; intro A hA Q hQ; simp [Link.enc, *]) | (refine WK.rH (id := 5) Tryz.ntmps26 (by kernel_rfl) ?_; intro A hA Q hQ; simp [Link.enc, *]) | (refine WK.rH (id := 6) Tryz.ntmps26 (by kernel_rfl) ?_; intro A hA Q hQ; simp [Link.enc, *]))
     refine regInc (a := x.from_) (b := x.out) (M := M) (v := (c : Int) + 1) rfl rfl rfl rfl rfl rfl rfl rfl rfl rfl (by decide +kernel) Tryz.ntmps26 (by kernel_rfl) rfl rfl rfl rfl (by decide) (by rw [hvl]; exact wc.symm) ?_
     simp only [keP, Nat.zero_add]
     repeat' (first | apply WK.s | refine WK.cT rfl ?_ | (refine hQ.h _ _ ?_; clear hQ hA) | (refine WK.rH Tryz.ntmps26 (by kernel_rfl) ?_; intro A hA Q hQ; simp [Link.enc, *]) | (refine RunQ.g rfl (by rw [hA.h]; rfl) ?_; simp [Link.enc, *]) | (refine RunQ.lookup (k := (x.from_, x.out)) mpOkP rfl rfl rfl rfl rfl rfl ?_; refine RunQ.evalH ?_; simp [Link.enc, *]) | (refine RunQW.k rfl rfl rfl rfl ?_ (t1) ?_ ?_ <;> simp (maxDischargeDepth := 120) [Link.enc, *] <;> refine ⟨?_⟩) | (refine RunQW.k rfl rfl rfl rfl ?_ (t2) ?_ ?_ <;> simp (maxDischargeDepth := 120) [Link.enc, *] <;> refine ⟨?_⟩) | (refine RunQW.k rfl rfl rfl rfl ?_ (p1) ?_ ?_ <;> simp (maxDischargeDepth := 120) [Link.enc, *] <;> refine ⟨?_⟩) | (refine WK.t Tryz.func26 ?_ ?_ <;> simp (maxDischargeDepth := 120) [Tryz.results26, Link.enc, *]))
   cases b4
   · have e := hno rfl
     subst e
     clear hno hst IH hsn htk
     repeat' (first | apply WK.s | apply WK.b | apply WK.k | refine WK.cT rfl ?_ | (refine hQ.h _ _ ?_; clear hQ hA) | (refine WK.rH (id := 0) Tryz.ntmps26 (by kernel_rfl) ?_; intro A hA Q hQ; simp [Link.enc, *]) | (refine WK.rH (id := 1) Tryz.ntmps26 (by kernel_rfl) ?_; intro A hA Q hQ; simp [Link.enc, *]) | (refine WK.rH (id := 2) Tryz.ntmps26 (by kernel_rfl) ?_; intro A hA Q hQ; simp [Link.enc, *]) | (refine WK.rH (id := 3) Tryz.ntmps26 (by kernel_rfl) ?_; intro A hA Q hQ; simp [Link.enc, *]) | (refine WK.rH (id := 4) Tryz.ntmps26 (by kernel_rfl) ?_; intro A hA Q hQ; simp [Link.enc, *]) | (refine WK.rH (id := 5) Tryz.ntmps26 (by kernel_rfl) ?_; intro A hA Q hQ; simp [Link.enc, *]) | (refine WK.rH (id := 6) Tryz.ntmps26 (by kernel_rfl) ?_; intro A hA Q hQ; simp [Link.enc, *]))
     refine regInc (a := x.from_) (b := x.out) (M := M) (v := (c : Int) + 1) rfl rfl rfl rfl rfl rfl rfl rfl rfl rfl (by decide +kernel) Tryz.ntmps26 (by kernel_rfl) rfl rfl rfl rfl (by decide) (by rw [hvl]; exact wc.symm) ?_
     simp only [keP, Nat.zero_add]
     repeat' (first | apply WK.s | refine WK.cT rfl ?_ | (refine hQ.h _ _ ?_; clear hQ hA) | (refine WK.rH Tryz.ntmps26 (by kernel_rfl) ?_; intro A hA Q hQ; simp [Link.enc, *]) | (refine RunQ.g rfl (by rw [hA.h]; rfl) ?_; simp [Link.enc, *]) | (refine RunQ.lookup (k := (x.from_, x.out)) mpOkP rfl rfl rfl rfl rfl rfl ?_; refine RunQ.evalH ?_; simp [Link.enc, *]) | (refine RunQW.k rfl rfl rfl rfl ?_ (t1) ?_ ?_ <;> simp (maxDischargeDepth := 120) [Link.enc, *] <;> refine ⟨?_⟩) | (refine RunQW.k rfl rfl rfl rfl ?_ (t2) ?_ ?_ <;> simp (maxDischargeDepth := 120) [Link.enc, *] <;> refine ⟨?_⟩) | (refine RunQW.k rfl rfl rfl rfl ?_ (p1) ?_ ?_ <;> simp (maxDischargeDepth := 120) [Link.enc, *] <;> refine ⟨?_⟩) | (refine RunQW.k rfl rfl rfl rfl ?_ (p2) ?_ ?_ <;> simp (maxDischargeDepth := 120) [Link.enc, *] <;> refine ⟨?_⟩) | (refine WK.t Tryz.func26 ?_ ?_ <;> simp (maxDischargeDepth := 120) [Tryz.results26, Link.enc, *]))
   · have hst := hst rfl
     have hsn2 := hsn
     rw [List.map_take] at hsn2
     clear hno htk
     repeat' (first | apply WK.s | apply WK.b | apply WK.k | refine WK.cT rfl ?_ | (refine hQ.h _ _ ?_; clear hQ hA) | (refine WK.rH (id := 0) Tryz.ntmps26 (by kernel_rfl) ?_; intro A hA Q hQ; simp [Link.enc, *]) | (refine WK.rH (id := 1) Tryz.ntmps26 (by kernel_rfl) ?_; intro A hA Q hQ; simp [Link.enc, *]) | (refine WK.rH (id := 2) Tryz.ntmps26 (by kernel_rfl) ?_; intro A hA Q hQ; simp [Link.enc, *]) | (refine WK.rH (id := 3) Tryz.ntmps26 (by kernel_rfl) ?_; intro A hA Q hQ; simp [Link.enc, *]) | (refine WK.rH (id := 4) Tryz.ntmps26 (by kernel_rfl) ?_; intro A hA Q hQ; simp [Link.enc, *]) | (refine WK.rH (id := 5) Tryz.ntmps26 (by kernel_rfl) ?_; intro A hA Q hQ; simp [Link.enc, *]) | (refine WK.rH (id := 6) Tryz.ntmps26 (by kernel_rfl) ?_; intro A hA Q hQ; simp [Link.enc, *]))
     refine regInc (a := x.from_) (b := x.out) (M := M) (v := (c : Int) + 1) rfl rfl rfl rfl rfl rfl rfl rfl rfl rfl (by decide +kernel) Tryz.ntmps26 (by kernel_rfl) rfl rfl rfl rfl (by decide) (by rw [hvl]; exact wc.symm) ?_
     simp only [keP, Nat.zero_add]
     repeat' (first | apply WK.s | apply WK.n | apply WK.k | refine WK.cF rfl ?_ | (refine hQ.h _ _ ?_; clear hQ hA) | (refine WK.rH Tryz.ntmps26 (by kernel_rfl) ?_; intro A hA Q hQ; simp [Link.enc, *]) | (refine RunQ.g rfl (by rw [hA.h]; rfl) ?_; simp [Link.enc, *]) | (refine RunQ.lookup (k := (x.from_, x.out)) mpOkP rfl rfl rfl rfl rfl rfl ?_; refine RunQ.evalH ?_; simp [Link.enc, *]) | (refine RunQW.k rfl rfl rfl rfl ?_ (t1) ?_ ?_ <;> simp (maxDischargeDepth := 120) [Link.enc, *] <;> refine ⟨?_⟩) | (refine RunQW.k rfl rfl rfl rfl ?_ (t2) ?_ ?_ <;> simp (maxDischargeDepth := 120) [Link.enc, *] <;> refine ⟨?_⟩) | (refine RunQW.k rfl rfl rfl rfl ?_ (p1) ?_ ?_ <;> simp (maxDischargeDepth := 120) [Link.enc, *] <;> refine ⟨?_⟩) | (refine RunQW.k rfl rfl rfl rfl ?_ (p2) ?_ ?_ <;> simp (maxDischargeDepth := 120) [Link.enc, *] <;> refine ⟨?_⟩))
     refine WK.next (fun n => n) (IH (i + 1) (⟨by omega, hst⟩) (by first | omega | (dsimp only; omega))) (by repeat (first | exact TmW.nil | refine TmW.upd ?_ (by simp (maxDischargeDepth := 120) [hsc, hsn, hsn2]))) (by repeat (first | exact BxW.nil | refine BxW.upd ?_ (by simp (maxDischargeDepth := 120) [hsc, hsn, hsn2]))) InjW.id
 · have h1' : ¬ (i : Int) < L.length := by omega
   have e := ha (fun j hj => hi.2 j (by omega))
   subst e
   clear ha hno hJ ct cp IH hi hkl
   repeat' (first | apply WK.s | refine WK.exit rfl ?_ | refine WK.cF rfl ?_ | (refine hQ.h _ _ ?_; clear hQ hA) | (refine WK.rH Tryz.ntmps26 (by kernel_rfl) ?_; intro A hA Q hQ; simp [*]) | (refine WK.t Tryz.func26 ?_ ?_ <;> simp (maxDischargeDepth := 120) [Tryz.results26, *]))
theorem lright1_c (s : Switch) (hs : SwB s) : FnP Tryz.prog 27 [.agg s.enc] (.bool (!stRight s)) := by
 have c := stright_c s hs
 obtain ⟨b, hb⟩ : ∃ b, stRight s = b := ⟨_, rfl⟩
 rw [hb] at c ⊢
 have hcl := Switch.cl s
 have hl := Switch.len s
 obtain ⟨S, hS⟩ : ∃ S, s.enc = S := ⟨_, rfl⟩
 rw [hS] at c hcl hl ⊢
 have ht : S.take 5 = S := List.take_of_length_le (by omega)
 clear hb hS hs
 refine FnP.i Tryz.func27 rfl rfl fun G w => ?_
 repeat' (first | apply WK.s | (refine hQ.h _ _ ?_; clear hQ hA) | (refine WK.rH Tryz.ntmps27 (by kernel_rfl) ?_; intro A hA Q hQ; simp [*]) | (refine RunQ.k rfl rfl rfl rfl rfl ?_ (c) ?_ ?_ <;> simp (maxDischargeDepth := 120) [*] <;> refine ⟨?_⟩) | (refine WK.t Tryz.func27 ?_ ?_ <;> simp (maxDischargeDepth := 120) [Tryz.results27, *]))
theorem lright_c (n : Net) (hl : n.links.length ≤ 1000000) (hn : n.sws.length ≤ 1000000) (hs : ∀ s, s ∈ n.sws → SwB s) : FnP Tryz.prog 9 [.agg n.enc] (.bool (nRight n)) := by
 have cj := ljoins_c n hl
 have cs := containsf_sw 27 [] (fun s => !stRight s) n.sws (by simp) hn (fun x hx => lright1_c x (hs x hx))
 rw [any_not_all] at cs
 unfold nRight
 obtain ⟨b1, h1⟩ : ∃ b, nJoins n = b := ⟨_, rfl⟩
 obtain ⟨b2, h2⟩ : ∃ b, n.sws.all stRight = b := ⟨_, rfl⟩
 rw [h1] at cj ⊢
 rw [h2] at cs ⊢
 have e0 : n.enc = [swS n.sws, linkS n.links] := rfl
 rw [e0] at cj ⊢
 obtain ⟨S, hS, c1⟩ : ∃ S, swS n.sws = S ∧ Cl S = true := ⟨_, rfl, swS_cl _⟩
 obtain ⟨L, hL, c2⟩ : ∃ S, linkS n.links = S ∧ Cl S = true := ⟨_, rfl, linkS_cl _⟩
 rw [hS] at cj cs ⊢
 rw [hL] at cj ⊢
 clear h1 h2 e0 hS hL hs
 cases b1
 · clear cs
   refine FnP.i Tryz.func9 rfl rfl fun G w => ?_
   repeat' (first | apply WK.s | (refine hQ.h _ _ ?_; clear hQ hA) | (refine WK.rH Tryz.ntmps9 (by kernel_rfl) ?_; intro A hA Q hQ; simp [*]) | (refine RunQ.g rfl (by rw [hA.h]; rfl) ?_; simp [*]) | (refine RunQ.k rfl rfl rfl rfl rfl ?_ (cj) ?_ ?_ <;> simp (maxDischargeDepth := 120) [*] <;> refine ⟨?_⟩) | (refine WK.t Tryz.func9 ?_ ?_ <;> simp (maxDischargeDepth := 120) [Tryz.results9, *]))
 · refine FnP.i Tryz.func9 rfl rfl fun G w => ?_
   repeat' (first | apply WK.s | (refine hQ.h _ _ ?_; clear hQ hA) | (refine WK.rH Tryz.ntmps9 (by kernel_rfl) ?_; intro A hA Q hQ; simp [*]) | (refine RunQ.g rfl (by rw [hA.h]; rfl) ?_; simp [*]) | (refine RunQ.k rfl rfl rfl rfl rfl ?_ (cj) ?_ ?_ <;> simp (maxDischargeDepth := 120) [*] <;> refine ⟨?_⟩) | (refine RunQW.k rfl rfl rfl rfl ?_ (cs) ?_ ?_ <;> simp (maxDischargeDepth := 120) [*] <;> refine ⟨?_⟩) | (refine WK.t Tryz.func9 ?_ ?_ <;> simp (maxDischargeDepth := 120) [Tryz.results9, *]))
end Go.Proofs.YtmhapglejjehbaaGreat
