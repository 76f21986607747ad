/- Switches: whether one may be. -/
import Derived.Test.YtmhapglejjehbaaGreatAf
import Derived.Test.YtmhapglejjehbaaGreatWk10
import Derived.Test.YtmhapglejjehbaaGreatWk4
set_option linter.all false
set_option linter.unnecessarySimpa false
namespace Go.Proofs.YtmhapglejjehbaaGreat
open Go Go.AI Go.Proofs
attribute [local irreducible] FnP FnO FnB FnT WK RunQ RunQW RunX RunXW RunN
theorem containsf_grp (fid : Nat) (caps : List AV) (p : Group → Bool) (l : List Group) (hcl : ClL caps = true) (hl : l.length ≤ 1000000)
   (hf : ∀ x, x ∈ l → FnP Tryz.prog fid (.agg x.enc :: caps) (.bool (p x))) :
   FnP Tryz.prog 42 [grpS l, .fn fid caps] (.bool (l.any p)) := by
 have e := idxI_ge p l
 simp only [ge_iff_le] at e
 refine FnP.i Tryz.func42 rfl rfl fun G w => ?_
 repeat apply WK.s
 refine WK.G 100 Tryz.ntmps42 ?_
 intro A hA Q hQ
 simp
 apply hQ
 clear hQ hA
 repeat apply WK.s
 refine WK.G 200 Tryz.ntmps42 ?_
 intro A hA Q hQ
 simp
 refine RunQ.call rfl rfl rfl rfl (by rfl) (by simp (config := zd) [hcl]) (indexf_grp fid caps p l hcl hl hf) (by simp [hcl]) ?_
 refine RunQ.eval ?_
 simp [hcl]
 apply hQ
 clear hQ hA
 refine WK.t Tryz.func42 (by simp (config := zd) [Tryz.results42, e]) (by simp [e])
theorem stlarge_c (g : Group) (hg : GrB g) : FnP Tryz.prog 39 [.agg g.enc] (.bool (!((bkEnc g.buckets).2 == 0))) := by
 have c := bkencP_c g.buckets (by have := hg.len; omega) hg.acts
 unfold bukS byS at c
 refine FnP.i Tryz.func39 rfl rfl fun G w => ?_
 repeat' (first | apply WK.s | (apply hQ.h; clear hQ hA) | (refine WK.R Tryz.ntmps39 ?_; intro A hA Q hQ; simp [Group.enc, bne, *]) | (refine RunQ.k rfl rfl rfl rfl rfl ?_ (c) ?_ ?_ <;> simp (config := zd) [Group.enc, bne, *] <;> refine ⟨?_⟩) | (refine WK.t Tryz.func39 ?_ ?_ <;> simp (config := zd) [Tryz.results39, Group.enc, bne, *]))
set_option maxRecDepth 100000 in
theorem stwrong_c (s : Switch) (t : Nat) (f : Flow) (hs : SwB s) (hf : FlB f) : FnP Tryz.prog 43 [.agg f.enc, .iptr [.int .i64 t], .iptr [.iptr s.enc]] (.bool (!stFine s.groups t f)) := by
 have c1 := stmod_c f t hf.pl.ok
 have c2 := fmright_c (stMod f t) (hf.mod t)
 have c3 := stmay_c s t f.insts hs (by have := hf.insts; omega) (fun x hx => by have := hf.acts x hx; omega)
 have hfi : stFine s.groups t f = (fmRight (stMod f t) && (stMay s.groups t f.insts).isNone) := rfl
 have hsc : ClL s.enc = true := by simp [Switch.enc]
 rw [hfi]
 obtain ⟨B, hB⟩ : ∃ B, fmRight (stMod f t) = B := ⟨_, rfl⟩
 obtain ⟨M, hM⟩ : ∃ M, stMay s.groups t f.insts = M := ⟨_, rfl⟩
 obtain ⟨D, hD, hDc⟩ : ∃ D, (stMod f t).enc = D ∧ ClL D = true := ⟨_, rfl, by simp⟩
 obtain ⟨S, hS⟩ : ∃ S, s.enc = S := ⟨_, rfl⟩
 rw [hB] at c2 ⊢
 rw [hM] at c3 ⊢
 rw [hD] at c1 c2
 rw [hS] at c3 hsc ⊢
 unfold instS Flow.enc at *
 clear hB hM hD hS hs hf hfi
 cases B
 · clear c3
   refine FnP.i Tryz.func43 rfl rfl fun G w => ?_
   repeat' (first | apply WK.s | (apply hQ.h; clear hQ hA) | (refine WK.R Tryz.ntmps43 ?_; intro A hA Q hQ; simp [*]) | (refine RunQ.g rfl (by rw [hA.h]; rfl) ?_; simp [*]) | (refine RunQ.k rfl rfl rfl rfl rfl ?_ (c1) ?_ ?_ <;> simp (config := zd) [*] <;> refine ⟨?_⟩) | (refine RunQ.k rfl rfl rfl rfl rfl ?_ (c2) ?_ ?_ <;> simp (config := zd) [*] <;> refine ⟨?_⟩) | (refine WK.t Tryz.func43 ?_ ?_ <;> simp (config := zd) [Tryz.results43, bne, *]))
 cases M with
 | none =>
   rw [show stErr none = .niface from rfl] at c3
   refine FnP.i Tryz.func43 rfl rfl fun G w => ?_
   repeat' (first | apply WK.s | (apply hQ.h; clear hQ hA) | (refine WK.R Tryz.ntmps43 ?_; intro A hA Q hQ; simp [bne, *]) | (refine RunQ.g rfl (by rw [hA.h]; rfl) ?_; simp [bne, *]) | (refine RunQW.by (fun hw => ?_); refine RunQ.nilI (td88) rfl rfl rfl hw rfl ?_; clear hw; refine RunQ.evalH ?_; simp [bne, *]) | (refine RunQ.k rfl rfl rfl rfl rfl ?_ (c1) ?_ ?_ <;> simp (config := zd) [bne, *] <;> refine ⟨?_⟩) | (refine RunQ.k rfl rfl rfl rfl rfl ?_ (c2) ?_ ?_ <;> simp (config := zd) [bne, *] <;> refine ⟨?_⟩) | (refine RunQ.k rfl rfl rfl rfl rfl ?_ (c3) ?_ ?_ <;> simp (config := zd) [bne, *] <;> refine ⟨?_⟩) | (refine RunQW.k rfl rfl rfl rfl ?_ (c1) ?_ ?_ <;> simp (config := zd) [bne, *] <;> refine ⟨?_⟩) | (refine RunQW.k rfl rfl rfl rfl ?_ (c2) ?_ ?_ <;> simp (config := zd) [bne, *] <;> refine ⟨?_⟩) | (refine RunQW.k rfl rfl rfl rfl ?_ (c3) ?_ ?_ <;> simp (config := zd) [bne, *] <;> refine ⟨?_⟩) | (refine WK.t Tryz.func43 ?_ ?_ <;> simp (config := zd) [Tryz.results43, bne, *]))
 | some c =>
   rw [show stErr (some c) = .iface 172 (.agg [.bool true, .int .i64 c.1, .int .i64 c.2]) from rfl] at c3
   refine FnP.i Tryz.func43 rfl rfl fun G w => ?_
   repeat' (first | apply WK.s | (apply hQ.h; clear hQ hA) | (refine WK.R Tryz.ntmps43 ?_; intro A hA Q hQ; simp [bne, *]) | (refine RunQ.g rfl (by rw [hA.h]; rfl) ?_; simp [bne, *]) | (refine RunQ.k rfl rfl rfl rfl rfl ?_ (c1) ?_ ?_ <;> simp (config := zd) [bne, *] <;> refine ⟨?_⟩) | (refine RunQ.k rfl rfl rfl rfl rfl ?_ (c2) ?_ ?_ <;> simp (config := zd) [bne, *] <;> refine ⟨?_⟩) | (refine RunQ.k rfl rfl rfl rfl rfl ?_ (c3) ?_ ?_ <;> simp (config := zd) [bne, *] <;> refine ⟨?_⟩) | (refine RunQW.k rfl rfl rfl rfl ?_ (c1) ?_ ?_ <;> simp (config := zd) [bne, *] <;> refine ⟨?_⟩) | (refine RunQW.k rfl rfl rfl rfl ?_ (c2) ?_ ?_ <;> simp (config := zd) [bne, *] <;> refine ⟨?_⟩) | (refine RunQW.k rfl rfl rfl rfl ?_ (c3) ?_ ?_ <;> simp (config := zd) [bne, *] <;> refine ⟨?_⟩) | (refine WK.t Tryz.func43 ?_ ?_ <;> simp (config := zd) [Tryz.results43, bne, *]))
def stTab (s : Switch) (t : Nat) : Bool := tRight (s.tab t) && (s.tab t).all (stFine s.groups t)
theorem any_not_all {α : Type} (l : List α) (p : α → Bool) : (l.any fun x => !p x) = !l.all p := by
 induction l with
 | nil => rfl
 | cons x l ih => simp only [List.any_cons, List.all_cons, ih, Bool.not_and]
theorem four {α : Type} (Tb : Nat → α) (i : Nat) (h : i < 4) (h' : i < [Tb 0, Tb 1, Tb 2, Tb 3].length) : [Tb 0, Tb 1, Tb 2, Tb 3][i] = Tb i := by
 have : i = 0 ∨ i = 1 ∨ i = 2 ∨ i = 3 := by omega
 rcases this with rfl | rfl | rfl | rfl <;> rfl
theorem four5 {α : Type} (Tb : Nat → α) (g : α) (i : Nat) (h : i < 4) (h' : i < [Tb 0, Tb 1, Tb 2, Tb 3, g].length) : [Tb 0, Tb 1, Tb 2, Tb 3, g][i] = Tb i := by
 have : i = 0 ∨ i = 1 ∨ i = 2 ∨ i = 3 := by omega
 rcases this with rfl | rfl | rfl | rfl <;> rfl
theorem SwB.ok {s : Switch} (hs : SwB s) (t : Nat) : ∀ f, f ∈ s.tab t → FOk f := fun f hf => (hs.fl t f hf).pl.ok
set_option maxHeartbeats 8000000 in
set_option maxRecDepth 100000 in
theorem stright_c (s : Switch) (hs : SwB s) : FnP Tryz.prog 28 [.agg s.enc] (.bool (stRight s)) := by
 have cg := gright_grp_c s.groups hs.groups hs.gr
 have cl := containsf_grp 39 [] (fun g => !((bkEnc g.buckets).2 == 0)) s.groups (by simp) hs.groups (fun x hx => stlarge_c x (hs.gr x hx))
 rw [any_not_all] at cl
 have ct : ∀ t : Nat, FnP Tryz.prog 47 [flowS (s.tab t)] (.bool (tRight (s.tab t))) := fun t => tright_c _ (hs.ok t)
 have cw : ∀ t : Nat, FnP Tryz.prog 48 [flowS (s.tab t), .fn 43 [.iptr [.int .i64 t], .iptr [.iptr s.enc]]] (.bool (!(s.tab t).all (stFine s.groups t))) := fun t => by
   rw [← any_not_all]
   exact containsf_flow 43 [.iptr [.int .i64 t], .iptr [.iptr s.enc]] _ (s.tab t) (by simp [ClL, Cl, Switch.enc]) (by have := hs.flows t; omega) (fun x hx => stwrong_c s t x hs (hs.fl t x hx))
 have er : stRight s = (gRightL s.groups && ((s.groups.all fun g => (bkEnc g.buckets).2 == 0) && (List.range 4).all (stTab s))) := rfl
 rw [er]
 have ha : (∀ t, t < 4 → stTab s t = true) → (List.range 4).all (stTab s) = true := fun h => by
   rw [List.all_eq_true]; intro t ht; exact h t (by simpa using ht)
 have hn : ∀ t, t < 4 → stTab s t = false → (List.range 4).all (stTab s) = false := fun t ht h => by
   rw [List.all_eq_false]; exact ⟨t, by simpa using ht, by simp [h]⟩
 obtain ⟨R, hR⟩ : ∃ R, (List.range 4).all (stTab s) = R := ⟨_, rfl⟩
 rw [hR] at ha ⊢
 simp only [hR] at hn
 have hT : ∀ t, stTab s t = (tRight (s.tab t) && (s.tab t).all (stFine s.groups t)) := fun _ => rfl
 simp only [hT] at ha hn
 have e0 : s.enc = [flowS (s.tab 0), flowS (s.tab 1), flowS (s.tab 2), flowS (s.tab 3), grpS s.groups] := rfl
 rw [e0] at cw ⊢
 obtain ⟨Tb, hA, hAc⟩ : ∃ Tb : Nat → AV, (∀ t, flowS (s.tab t) = Tb t) ∧ ∀ t, Cl (Tb t) = true := ⟨fun t => flowS (s.tab t), fun _ => rfl, fun t => flowS_cl _⟩
 simp only [hA] at cw ct ⊢
 obtain ⟨p, hp⟩ : ∃ p : Nat → Bool, ∀ t, tRight (s.tab t) = p t := ⟨_, fun _ => rfl⟩
 obtain ⟨q, hq⟩ : ∃ q : Nat → Bool, ∀ t, (s.tab t).all (stFine s.groups t) = q t := ⟨_, fun _ => rfl⟩
 simp only [hp, hq] at cw ct ha hn
 obtain ⟨b1, h1⟩ : ∃ b, gRightL s.groups = b := ⟨_, rfl⟩
 obtain ⟨b2, h2⟩ : ∃ b, (s.groups.all fun g => (bkEnc g.buckets).2 == 0) = b := ⟨_, rfl⟩
 rw [h1] at cg ⊢
 rw [h2] at cl ⊢
 obtain ⟨gs, hgs⟩ : ∃ gs, s.groups = gs := ⟨_, rfl⟩
 rw [hgs] at cg cl cw ⊢
 clear hR hT e0 hA hp hq h1 h2 hgs er hs
 unfold grpS at *
 cases b1
 · clear cl cw ct ha hn
   refine FnP.i Tryz.func28 rfl rfl fun G w => ?_
   repeat' (first | apply WK.s | refine WK.cT rfl ?_ | (apply hQ.h; clear hQ hA) | (refine WK.R Tryz.ntmps28 ?_; intro A hA Q hQ; simp [*]) | (refine RunQ.g rfl (by rw [hA.h]; rfl) ?_; simp [*]) | (refine RunQ.k rfl rfl rfl rfl rfl ?_ (cg) ?_ ?_ <;> simp (config := zd) [*] <;> refine ⟨?_⟩) | (refine WK.t Tryz.func28 ?_ ?_ <;> simp (config := zd) [Tryz.results28, *]))
 cases b2
 · clear cw ct ha hn
   refine FnP.i Tryz.func28 rfl rfl fun G w => ?_
   repeat' (first | apply WK.s | refine WK.cT rfl ?_ | (apply hQ.h; clear hQ hA) | (refine WK.R Tryz.ntmps28 ?_; intro A hA Q hQ; simp [*]) | (refine RunQ.g rfl (by rw [hA.h]; rfl) ?_; simp [*]) | (refine RunQ.k rfl rfl rfl rfl rfl ?_ (cg) ?_ ?_ <;> simp (config := zd) [*] <;> refine ⟨?_⟩) | (refine RunQW.k rfl rfl rfl rfl ?_ (cl) ?_ ?_ <;> simp (config := zd) [*] <;> refine ⟨?_⟩) | (refine WK.t Tryz.func28 ?_ ?_ <;> simp (config := zd) [Tryz.results28, *]))
 refine FnP.i Tryz.func28 rfl rfl fun G w => ?_
 repeat' (first | apply WK.s | apply WK.k | refine WK.cF rfl ?_ | (apply hQ.h; clear hQ hA) | (refine WK.R (id := 0) Tryz.ntmps28 ?_; intro A hA Q hQ; simp [*]) | (refine WK.R (id := 1) Tryz.ntmps28 ?_; intro A hA Q hQ; simp [*]) | (refine WK.R (id := 2) Tryz.ntmps28 ?_; intro A hA Q hQ; simp [*]) | (refine WK.R (id := 3) Tryz.ntmps28 ?_; intro A hA Q hQ; simp [*]) | (refine WK.R (id := 4) Tryz.ntmps28 ?_; intro A hA Q hQ; simp [*]) | (refine RunQ.g rfl (by rw [hA.h]; rfl) ?_; simp [*]) | (refine RunQ.k rfl rfl rfl rfl rfl ?_ (cg) ?_ ?_ <;> simp (config := zd) [*] <;> refine ⟨?_⟩) | (refine RunQW.k rfl rfl rfl rfl ?_ (cl) ?_ ?_ <;> simp (config := zd) [*] <;> refine ⟨?_⟩))
 refine WK.ghost (Ghost.frzCellP 303 0 302 0 rfl rfl rfl (by decide)) ?_
 refine WK.ghost (Ghost.frzVar 4 rfl rfl) ?_
 repeat' (first | apply WK.b | (apply hQ.h; clear hQ hA) | (refine WK.R (id := 0) Tryz.ntmps28 ?_; intro A hA Q hQ; simp [*]) | (refine WK.R (id := 1) Tryz.ntmps28 ?_; intro A hA Q hQ; simp [*]) | (refine WK.R (id := 2) Tryz.ntmps28 ?_; intro A hA Q hQ; simp [*]) | (refine WK.R (id := 3) Tryz.ntmps28 ?_; intro A hA Q hQ; simp [*]) | (refine WK.R (id := 4) Tryz.ntmps28 ?_; intro A hA Q hQ; simp [*]) | (refine WK.R (id := 5) Tryz.ntmps28 ?_; intro A hA Q hQ; simp [*]))
 have k0 := hAc 0
 have k1 := hAc 1
 have k2 := hAc 2
 have k3 := hAc 3
 refine WK.L (fun n => n) (fun i : Nat => (⟨(upd (upd (upd J 4 (.iptr [.iptr [Tb 0, Tb 1, Tb 2, Tb 3, .sl false gs.length (grpL gs)]])) 25 (.agg [Tb 0, Tb 1, Tb 2, Tb 3])) 26 (.int .i64 i)), B0, 0⟩ : St)) (fun i => i ≤ 4 ∧ ∀ t, t < i → (p t && q t) = true) (fun i => 4 - i) (0) (by repeat (first | exact TmW.nil | refine TmW.upd ?_ (by simp (config := zd) [k0, k1, k2, k3]))) (by repeat (first | exact BxW.nil | refine BxW.upd ?_ (by simp (config := zd) [k0, k1, k2, k3]))) (⟨by omega, by simp⟩) (fun i hi IH => ?_)
 by_cases h1 : i < 4
 · have h1' : (i : Int) < 4 := by omega
   have h6 : IntKind.i64.wrap ((i : Int) + 1) = i + 1 := wrap_i64 (by omega) (by omega)
   have hget := four Tb i h1
   have c1 := ct i
   have c2 := cw i
   have ki := hAc i
   have hno := hn i h1
   have hi2 := hi.2
   have hst : (p i && q i) = true → ∀ t, t < i + 1 → (p t && q t) = true := fun h t ht => by
     by_cases h7 : t = i
     · subst h7; exact h
     · exact hi2 t (by omega)
   obtain ⟨b1, e1⟩ : ∃ b, p i = b := ⟨_, rfl⟩
   obtain ⟨b2, e2⟩ : ∃ b, q i = b := ⟨_, rfl⟩
   rw [e1] at c1 hno hst
   rw [e2] at c2 hno hst
   clear e1 e2 ha hn ct cw cg cl hi
   cases b1
   · have e := hno (by cases b2 <;> rfl)
     subst e
     clear hno hst IH c2
     repeat' (first | apply WK.s | apply WK.b | apply WK.k | refine WK.cT rfl ?_ | (apply hQ.h; clear hQ hA) | (refine WK.R (id := 0) Tryz.ntmps28 ?_; intro A hA Q hQ; simp [*]) | (refine WK.R (id := 1) Tryz.ntmps28 ?_; intro A hA Q hQ; simp [*]) | (refine WK.R (id := 2) Tryz.ntmps28 ?_; intro A hA Q hQ; simp [*]) | (refine WK.R (id := 3) Tryz.ntmps28 ?_; intro A hA Q hQ; simp [*]) | (refine WK.R (id := 4) Tryz.ntmps28 ?_; intro A hA Q hQ; simp [*]) | (refine WK.R (id := 5) Tryz.ntmps28 ?_; intro A hA Q hQ; simp [*]) | (refine WK.R (id := 6) Tryz.ntmps28 ?_; intro A hA Q hQ; simp [*]) | (refine WK.R (id := 7) Tryz.ntmps28 ?_; intro A hA Q hQ; simp [*]))
     refine WK.ghost (Ghost.frzVar 5 rfl rfl) ?_
     repeat' (first | apply WK.s | refine WK.cT rfl ?_ | (apply hQ.h; clear hQ hA) | (refine WK.R Tryz.ntmps28 ?_; intro A hA Q hQ; simp [*]) | (refine RunQ.g rfl (by rw [hA.h]; rfl) ?_; simp [*]) | (refine RunQ.k rfl rfl rfl rfl rfl ?_ (c1) ?_ ?_ <;> simp (config := zd) [*] <;> refine ⟨?_⟩) | (refine WK.t Tryz.func28 ?_ ?_ <;> simp (config := zd) [Tryz.results28, *]))
   cases b2
   · have e := hno rfl
     subst e
     clear hno hst IH
     repeat' (first | apply WK.s | apply WK.b | apply WK.k | refine WK.cT rfl ?_ | (apply hQ.h; clear hQ hA) | (refine WK.R (id := 0) Tryz.ntmps28 ?_; intro A hA Q hQ; simp [*]) | (refine WK.R (id := 1) Tryz.ntmps28 ?_; intro A hA Q hQ; simp [*]) | (refine WK.R (id := 2) Tryz.ntmps28 ?_; intro A hA Q hQ; simp [*]) | (refine WK.R (id := 3) Tryz.ntmps28 ?_; intro A hA Q hQ; simp [*]) | (refine WK.R (id := 4) Tryz.ntmps28 ?_; intro A hA Q hQ; simp [*]) | (refine WK.R (id := 5) Tryz.ntmps28 ?_; intro A hA Q hQ; simp [*]) | (refine WK.R (id := 6) Tryz.ntmps28 ?_; intro A hA Q hQ; simp [*]) | (refine WK.R (id := 7) Tryz.ntmps28 ?_; intro A hA Q hQ; simp [*]))
     refine WK.ghost (Ghost.frzVar 5 rfl rfl) ?_
     repeat' (first | apply WK.s | refine WK.cT rfl ?_ | (apply hQ.h; clear hQ hA) | (refine WK.R Tryz.ntmps28 ?_; intro A hA Q hQ; simp [*]) | (refine RunQ.g rfl (by rw [hA.h]; rfl) ?_; simp [*]) | (refine RunQ.k rfl rfl rfl rfl rfl ?_ (c1) ?_ ?_ <;> simp (config := zd) [*] <;> refine ⟨?_⟩) | (refine RunQ.k rfl rfl rfl rfl rfl ?_ (c2) ?_ ?_ <;> simp (config := zd) [*] <;> refine ⟨?_⟩) | (refine RunQW.k rfl rfl rfl rfl ?_ (c1) ?_ ?_ <;> simp (config := zd) [*] <;> refine ⟨?_⟩) | (refine RunQW.k rfl rfl rfl rfl ?_ (c2) ?_ ?_ <;> simp (config := zd) [*] <;> refine ⟨?_⟩) | (refine WK.t Tryz.func28 ?_ ?_ <;> simp (config := zd) [Tryz.results28, *]))
   · have hst := hst rfl
     clear hno
     repeat' (first | apply WK.s | apply WK.b | apply WK.k | refine WK.cT rfl ?_ | (apply hQ.h; clear hQ hA) | (refine WK.R (id := 0) Tryz.ntmps28 ?_; intro A hA Q hQ; simp [*]) | (refine WK.R (id := 1) Tryz.ntmps28 ?_; intro A hA Q hQ; simp [*]) | (refine WK.R (id := 2) Tryz.ntmps28 ?_; intro A hA Q hQ; simp [*]) | (refine WK.R (id := 3) Tryz.ntmps28 ?_; intro A hA Q hQ; simp [*]) | (refine WK.R (id := 4) Tryz.ntmps28 ?_; intro A hA Q hQ; simp [*]) | (refine WK.R (id := 5) Tryz.ntmps28 ?_; intro A hA Q hQ; simp [*]) | (refine WK.R (id := 6) Tryz.ntmps28 ?_; intro A hA Q hQ; simp [*]) | (refine WK.R (id := 7) Tryz.ntmps28 ?_; intro A hA Q hQ; simp [*]))
     refine WK.ghost (Ghost.frzVar 5 rfl rfl) ?_
     repeat' (first | apply WK.s | apply WK.n | apply WK.k | refine WK.cF rfl ?_ | (apply hQ.h; clear hQ hA) | (refine WK.R Tryz.ntmps28 ?_; intro A hA Q hQ; simp [*]) | (refine RunQ.g rfl (by rw [hA.h]; rfl) ?_; simp [*]) | (refine RunQ.k rfl rfl rfl rfl rfl ?_ (c1) ?_ ?_ <;> simp (config := zd) [*] <;> refine ⟨?_⟩) | (refine RunQ.k rfl rfl rfl rfl rfl ?_ (c2) ?_ ?_ <;> simp (config := zd) [*] <;> refine ⟨?_⟩) | (refine RunQW.k rfl rfl rfl rfl ?_ (c1) ?_ ?_ <;> simp (config := zd) [*] <;> refine ⟨?_⟩) | (refine RunQW.k rfl rfl rfl rfl ?_ (c2) ?_ ?_ <;> simp (config := zd) [*] <;> refine ⟨?_⟩))
     refine WK.N (fun n => n) (IH (i + 1) (⟨by omega, hst⟩) (by first | omega | (dsimp only; omega))) (by repeat (first | exact TmW.nil | refine TmW.upd ?_ (by simp (config := zd) [k0, k1, k2, k3]))) (by repeat (first | exact BxW.nil | refine BxW.upd ?_ (by simp (config := zd) [k0, k1, k2, k3])))
 · have h1' : ¬ (i : Int) < 4 := by omega
   have e := ha (fun t ht => hi.2 t (by omega))
   subst e
   clear ha hn ct cw cg cl IH hi
   repeat' (first | apply WK.s | refine WK.exit rfl ?_ | refine WK.cF rfl ?_ | (apply hQ.h; clear hQ hA) | (refine WK.R Tryz.ntmps28 ?_; intro A hA Q hQ; simp [*]) | (refine WK.t Tryz.func28 ?_ ?_ <;> simp (config := zd) [Tryz.results28, *]))

theorem all_nth {α : Type} [Inhabited α] {l : List α} {p : α → Bool} (h : ∀ i, i < l.length → p (nth l i) = true) : l.all p = true := by
 rw [List.all_eq_true]
 intro x hx
 obtain ⟨i, hi, rfl⟩ := mem_nth hx
 exact h i hi
theorem all_not {α : Type} [Inhabited α] {l : List α} {p : α → Bool} {i : Nat} (hi : i < l.length) (h : p (nth l i) = false) : l.all p = false := by
 rw [List.all_eq_false]; exact ⟨_, nth_mem hi, by simp [h]⟩
set_option maxHeartbeats 16000000 in
set_option maxRecDepth 100000 in
theorem rstright_c (s : Switch) (hs : SwB s) : FnP Tryz.prog 29 [.agg s.enc] (.bool (stRight s)) := by
 have cg := rgright_grp_c s.groups hs.groups hs.gr
 have ce : ∀ i, i < s.groups.length → FnP Tryz.prog 50 [bukS (nth s.groups i).buckets] (.tup [byS (bkEnc (nth s.groups i).buckets).1, .int .i64 (bkEnc (nth s.groups i).buckets).2]) := fun i hi => by
   have := hs.gr _ (nth_mem hi)
   exact rbkencP_c _ (by have := this.len; omega) this.acts
 have ct : ∀ t : Nat, FnP Tryz.prog 51 [flowS (s.tab t)] (.bool (tRight (s.tab t))) := fun t => rtright_c _ (by have := hs.flows t; omega) (hs.ok t)
 have cm : ∀ (t : Nat) (f : Flow), FnP Tryz.prog 53 [.agg f.enc, .int .i64 t] (.agg (stMod f t).enc) := fun t f => rstmod_c f t
 have cr : ∀ (t : Nat) (f : Flow), FlB f → FnP Tryz.prog 52 [.agg (stMod f t).enc] (.bool (fmRight (stMod f t))) := fun t f h => rfmright_c _ (h.mod t)
 have cy : ∀ (t : Nat) (f : Flow), FlB f → FnP Tryz.prog 54 [.agg s.enc, .int .i64 t, instS f.insts] (.agg (gF (stMay s.groups t f.insts))) := fun t f h =>
   rstmay_c s t f.insts hs.groups (by have := h.insts; omega) (fun x hx => by have := h.acts x hx; omega)
 have hfl := hs.fl
 have f1 : ∀ c : Int × Int, gF (some c) = [.bool true, .int .i64 c.1, .int .i64 c.2] := fun c => rfl
 have f0 : gF (none : Option (Int × Int)) = [.bool false, .int .i64 0, .int .i64 0] := rfl
 have er : stRight s = (gRightL s.groups && ((s.groups.all fun g => (bkEnc g.buckets).2 == 0) && (List.range 4).all (stTab s))) := rfl
 rw [er]
 have ha : (∀ t, t < 4 → stTab s t = true) → (List.range 4).all (stTab s) = true := fun h => by
   rw [List.all_eq_true]; intro t ht; exact h t (by simpa using ht)
 have hn : ∀ t, t < 4 → stTab s t = false → (List.range 4).all (stTab s) = false := fun t ht h => by
   rw [List.all_eq_false]; exact ⟨t, by simpa using ht, by simp [h]⟩
 obtain ⟨R, hR⟩ : ∃ R, (List.range 4).all (stTab s) = R := ⟨_, rfl⟩
 rw [hR] at ha ⊢
 simp only [hR] at hn
 have hTn : ∀ t, tRight (s.tab t) = false → stTab s t = false := fun t h => by unfold stTab; rw [h]; rfl
 have hTa : ∀ t, tRight (s.tab t) = true → (∀ i, i < (s.tab t).length → stFine s.groups t (nth (s.tab t) i) = true) → stTab s t = true := fun t h h' => by unfold stTab; rw [h, all_nth h']; rfl
 have hTf : ∀ t i, i < (s.tab t).length → stFine s.groups t (nth (s.tab t) i) = false → stTab s t = false := fun t i hi h => by unfold stTab; rw [all_not hi h]; simp
 have hF : ∀ t f, stFine s.groups t f = (fmRight (stMod f t) && (stMay s.groups t f.insts).isNone) := fun _ _ => rfl
 simp only [hF] at hTa hTf
 obtain ⟨T, hT⟩ : ∃ T : Nat → Bool, ∀ t, stTab s t = T t := ⟨_, fun _ => rfl⟩
 simp only [hT] at ha hn hTn hTa hTf
 have ga := fun h => all_nth (l := s.groups) (p := fun g => (bkEnc g.buckets).2 == 0) h
 have gn := fun {i : Nat} (hi : i < s.groups.length) h => all_not (l := s.groups) (p := fun g => (bkEnc g.buckets).2 == 0) hi h
 obtain ⟨b1, h1⟩ : ∃ b, gRightL s.groups = b := ⟨_, rfl⟩
 obtain ⟨b2, h2⟩ : ∃ b, (s.groups.all fun g => (bkEnc g.buckets).2 == 0) = b := ⟨_, rfl⟩
 rw [h1] at cg ⊢
 rw [h2] at ga ⊢
 simp only [h2] at gn
 have e0 : s.enc = [flowS (s.tab 0), flowS (s.tab 1), flowS (s.tab 2), flowS (s.tab 3), grpS s.groups] := rfl
 rw [e0] at cy ⊢
 have hgl := hs.groups
 have hln := hs.flows
 obtain ⟨tab, gs⟩ := s
 simp only at *
 obtain ⟨Tb, hA0, hAc⟩ : ∃ Tb : Nat → AV, (∀ t, Tb t = flowS (tab t)) ∧ ∀ t, Cl (Tb t) = true := ⟨fun t => flowS (tab t), fun _ => rfl, fun t => flowS_cl _⟩
 simp only [← hA0] at cy ct ⊢
 have hA : Hid (∀ t, Tb t = flowS (tab t)) := ⟨hA0⟩
 clear hA0
 clear hR e0 hT h1 h2 er hs hF
 unfold grpS bukS byS instS at *
 cases b1
 · clear ce ct cm cr cy ha hn hTn hTa hTf ga gn hA hAc hfl f1 f0
   refine FnP.i Tryz.func29 rfl rfl fun G w => ?_
   repeat' (first | apply WK.s | refine WK.cT rfl ?_ | (apply hQ.h; clear hQ hA) | (refine WK.R Tryz.ntmps29 ?_; intro A hA Q hQ; simp [*]) | (refine RunQ.k rfl rfl rfl rfl rfl ?_ (cg) ?_ ?_ <;> simp (config := zd) [*] <;> refine ⟨?_⟩) | (refine WK.t Tryz.func29 ?_ ?_ <;> simp (config := zd) [Tryz.results29, *]))
 have k0 := hAc 0
 have k1 := hAc 1
 have k2 := hAc 2
 have k3 := hAc 3
 refine FnP.i Tryz.func29 rfl rfl fun G w => ?_
 repeat' (first | apply WK.s | apply WK.b | apply WK.k | refine WK.cF rfl ?_ | (apply hQ.h; clear hQ hA) | (refine WK.R Tryz.ntmps29 ?_; intro A hA Q hQ; simp [*]) | (refine RunQ.k rfl rfl rfl rfl rfl ?_ (cg) ?_ ?_ <;> simp (config := zd) [*] <;> refine ⟨?_⟩))
 clear cg
 refine WK.L (fun n => n) (fun i : Nat => (⟨(upd (upd J 1 (.ptr 0 0)) 3 (.int .i64 i)), (upd B0 0 (.var [Tb 0, Tb 1, Tb 2, Tb 3, .sl false gs.length (grpL gs)])), 0⟩ : St)) (fun i => i ≤ gs.length ∧ ∀ k, k < i → ((bkEnc (nth gs k).buckets).2 == 0) = true) (fun i => gs.length - i) (0) (by repeat (first | exact TmW.nil | refine TmW.upd ?_ (by simp (config := zd) [k0, k1, k2, k3]))) (by repeat (first | exact BxW.nil | refine BxW.upd ?_ (by simp (config := zd) [k0, k1, k2, k3]))) (⟨by omega, by simp⟩) (fun i hi IH => ?_)
 by_cases h1 : i < gs.length
 · have h1' : (i : Int) < gs.length := by omega
   have h6 : IntKind.i64.wrap ((i : Int) + 1) = i + 1 := wrap_i64 (by omega) (by omega)
   have u2 := fun h' => grp_get gs i 2 h1 (by omega) h'
   have r2 : i * 3 + 2 < gs.length * 3 := by omega
   have c := ce i h1
   have hno := gn h1
   have hi2 := hi.2
   have hst : ((bkEnc (nth gs i).buckets).2 == 0) = true → ∀ k, k < i + 1 → ((bkEnc (nth gs k).buckets).2 == 0) = true := fun h t ht => by
     by_cases h7 : t = i
     · subst h7; exact h
     · exact hi2 t (by omega)
   obtain ⟨x, hx⟩ : ∃ x, nth gs i = x := ⟨_, rfl⟩
   have q2 : ∀ h', (grpL gs)[i * 3 + 2]'h' = .sl false x.buckets.length (bukL x.buckets) := fun h' => by rw [u2 h']; simp only [hx]; rfl
   rw [hx] at c hno hst
   obtain ⟨e, he⟩ : ∃ e, (bkEnc x.buckets).2 = e := ⟨_, rfl⟩
   rw [he] at c hno hst
   clear u2 hx he ce ct cm cr cy ha hn hTn hTa hTf ga gn hA hfl f1 f0 hi
   cases k : (e == 0)
   · have e := hno k
     subst e
     clear hno hst IH
     repeat' (first | apply WK.s | apply WK.b | apply WK.k | refine WK.cT rfl ?_ | (apply hQ.h; clear hQ hA) | (refine WK.R Tryz.ntmps29 ?_; intro A hA Q hQ; simp [bne, *]) | (refine RunQ.k rfl rfl rfl rfl rfl ?_ (c) ?_ ?_ <;> simp (config := zd) [bne, *] <;> refine ⟨?_⟩) | (refine WK.t Tryz.func29 ?_ ?_ <;> simp (config := zd) [Tryz.results29, bne, *]))
   · have hst := hst k
     clear hno
     repeat' (first | apply WK.s | apply WK.b | apply WK.n | apply WK.k | refine WK.cT rfl ?_ | refine WK.cF rfl ?_ | (apply hQ.h; clear hQ hA) | (refine WK.R Tryz.ntmps29 ?_; intro A hA Q hQ; simp [bne, *]) | (refine RunQ.k rfl rfl rfl rfl rfl ?_ (c) ?_ ?_ <;> simp (config := zd) [bne, *] <;> refine ⟨?_⟩))
     refine WK.N (fun n => n) (IH (i + 1) (⟨by omega, hst⟩) (by first | omega | (dsimp only; omega))) (by repeat (first | exact TmW.nil | refine TmW.upd ?_ (by simp (config := zd) [k0, k1, k2, k3]))) (by repeat (first | exact BxW.nil | refine BxW.upd ?_ (by simp (config := zd) [k0, k1, k2, k3])))
 have h1' : ¬ (i : Int) < gs.length := by omega
 have e := ga (fun t ht => hi.2 t (by omega))
 subst e
 clear ga gn ce IH hi
 repeat' (first | apply WK.s | apply WK.b | refine WK.exit rfl ?_ | refine WK.cF rfl ?_ | (apply hQ.h; clear hQ hA) | (refine WK.R (id := 0) Tryz.ntmps29 ?_; intro A hA Q hQ; simp [*]) | (refine WK.R (id := 1) Tryz.ntmps29 ?_; intro A hA Q hQ; simp [*]) | (refine WK.R (id := 2) Tryz.ntmps29 ?_; intro A hA Q hQ; simp [*]) | (refine WK.R (id := 3) Tryz.ntmps29 ?_; intro A hA Q hQ; simp [*]) | (refine WK.R (id := 4) Tryz.ntmps29 ?_; intro A hA Q hQ; simp [*]) | (refine WK.R (id := 5) Tryz.ntmps29 ?_; intro A hA Q hQ; simp [*]) | (refine WK.R (id := 6) Tryz.ntmps29 ?_; intro A hA Q hQ; simp [*]) | (refine WK.R (id := 7) Tryz.ntmps29 ?_; intro A hA Q hQ; simp [*]) | (refine WK.R (id := 8) Tryz.ntmps29 ?_; intro A hA Q hQ; simp [*]) | (refine WK.R (id := 9) Tryz.ntmps29 ?_; intro A hA Q hQ; simp [*]))
 clear h1 h1'
 refine WK.L (fun n => n) (fun i : Nat => (⟨(upd (upd J 1 (.ptr 0 0)) 6 (.int .i64 i)), (upd B0 0 (.var [Tb 0, Tb 1, Tb 2, Tb 3, .sl false gs.length (grpL gs)])), 0⟩ : St)) (fun i => i ≤ 4 ∧ ∀ k, k < i → T k = true) (fun i => 4 - i) (0) (by repeat (first | exact TmW.nil | refine TmW.upd ?_ (by simp (config := zd) [k0, k1, k2, k3]))) (by repeat (first | exact BxW.nil | refine BxW.upd ?_ (by simp (config := zd) [k0, k1, k2, k3]))) (⟨by omega, by simp⟩) (fun i hi IH => ?_)
 by_cases h1 : i < 4
 case neg =>
   have h1' : ¬ (i : Int) < 4 := by omega
   have e := ha (fun t ht => hi.2 t (by omega))
   subst e
   clear ha hn ct cm cr cy hTn hTa hTf hA hfl f1 f0 IH hi
   repeat' (first | apply WK.s | refine WK.exit rfl ?_ | refine WK.cF rfl ?_ | (apply hQ.h; clear hQ hA) | (refine WK.R Tryz.ntmps29 ?_; intro A hA Q hQ; simp [*]) | (refine WK.t Tryz.func29 ?_ ?_ <;> simp (config := zd) [Tryz.results29, *]))
 have h1' : (i : Int) < 4 := by omega
 have h1'' : i < 5 := by omega
 have h6 : IntKind.i64.wrap ((i : Int) + 1) = i + 1 := wrap_i64 (by omega) (by omega)
 have hget := four5 Tb (.sl false gs.length (grpL gs)) i h1
 have c1 := ct i
 have hAi := hA.h i
 have hno := hn i h1
 have hi2 := hi.2
 have hst : T i = true → ∀ t, t < i + 1 → T t = true := fun h t ht => by
   by_cases h7 : t = i
   · subst h7; exact h
   · exact hi2 t (by omega)
 have hTn := hTn i
 have hTa := hTa i
 have hTf := hTf i
 have hfl := hfl i
 obtain ⟨Ti, eT⟩ : ∃ b, T i = b := ⟨_, rfl⟩
 rw [eT] at hTn hTa hno hst
 simp only [eT] at hTf
 obtain ⟨l, hl⟩ : ∃ l, tab i = l := ⟨_, rfl⟩
 have hll := hln i
 rw [hl] at c1 hTn hTa hAi hfl hll
 simp only [hl] at hTf
 obtain ⟨p, hp⟩ : ∃ p, tRight l = p := ⟨_, rfl⟩
 rw [hp] at c1 hTn hTa
 have cm := cm i
 have cr := cr i
 have cy := cy i
 have ki := hAc i
 clear eT hl hp hn ct ha hi hA hAc hln
 cases p
 · have e := hno (hTn rfl)
   subst e
   clear hno hst IH hTn hTa hTf hfl cm cr cy f1 f0
   repeat' (first | apply WK.s | apply WK.b | apply WK.k | refine WK.cT rfl ?_ | (apply hQ.h; clear hQ hA) | (refine WK.R Tryz.ntmps29 ?_; intro A hA Q hQ; simp [*]) | (refine RunQ.k rfl rfl rfl rfl rfl ?_ (c1) ?_ ?_ <;> simp (config := zd) [*] <;> refine ⟨?_⟩) | (refine WK.t Tryz.func29 ?_ ?_ <;> simp (config := zd) [Tryz.results29, *]))
 have hTa := hTa rfl
 clear hTn
 repeat' (first | apply WK.s | apply WK.b | apply WK.k | refine WK.cT rfl ?_ | refine WK.cF rfl ?_ | (apply hQ.h; clear hQ hA) | (refine WK.R (id := 0) Tryz.ntmps29 ?_; intro A hA Q hQ; simp [*]) | (refine WK.R (id := 1) Tryz.ntmps29 ?_; intro A hA Q hQ; simp [*]) | (refine WK.R (id := 2) Tryz.ntmps29 ?_; intro A hA Q hQ; simp [*]) | (refine WK.R (id := 3) Tryz.ntmps29 ?_; intro A hA Q hQ; simp [*]) | (refine WK.R (id := 4) Tryz.ntmps29 ?_; intro A hA Q hQ; simp [*]) | (refine WK.R (id := 5) Tryz.ntmps29 ?_; intro A hA Q hQ; simp [*]) | (refine WK.R (id := 6) Tryz.ntmps29 ?_; intro A hA Q hQ; simp [*]) | (refine WK.R (id := 7) Tryz.ntmps29 ?_; intro A hA Q hQ; simp [*]) | (refine WK.R (id := 8) Tryz.ntmps29 ?_; intro A hA Q hQ; simp [*]) | (refine WK.R (id := 9) Tryz.ntmps29 ?_; intro A hA Q hQ; simp [*]) | (refine WK.R (id := 10) Tryz.ntmps29 ?_; intro A hA Q hQ; simp [*]) | (refine WK.R (id := 11) Tryz.ntmps29 ?_; intro A hA Q hQ; simp [*]) | (refine WK.R (id := 12) Tryz.ntmps29 ?_; intro A hA Q hQ; simp [*]) | (refine WK.R (id := 13) Tryz.ntmps29 ?_; intro A hA Q hQ; simp [*]) | (refine WK.R (id := 14) Tryz.ntmps29 ?_; intro A hA Q hQ; simp [*]) | (refine RunQ.k rfl rfl rfl rfl rfl ?_ (c1) ?_ ?_ <;> simp (config := zd) [*] <;> refine ⟨?_⟩))
 clear c1
 unfold flowS at hAi
 refine WK.L (fun n => n) (fun j : Nat => (⟨(upd (upd (upd J 1 (.ptr 0 0)) 6 (.int .i64 i)) 7 (.int .i64 j)), (upd B0 0 (.var [Tb 0, Tb 1, Tb 2, Tb 3, .sl false gs.length (grpL gs)])), 0⟩ : St)) (fun j => j ≤ l.length ∧ ∀ k, k < j → (fmRight (stMod (nth l k) i) && (stMay gs i (nth l k).insts).isNone) = true) (fun j => l.length - j) (0) (by repeat (first | exact TmW.nil | refine TmW.upd ?_ (by simp (config := zd) [k0, k1, k2, k3]))) (by repeat (first | exact BxW.nil | refine BxW.upd ?_ (by simp (config := zd) [k0, k1, k2, k3]))) (⟨by omega, by simp⟩) (fun j hj IHj => ?_)
 by_cases h2 : j < l.length
 case neg =>
   have h2' : ¬ (j : Int) < l.length := by omega
   have hst := hst (hTa fun k hk => hj.2 k (by omega))
   clear hno hTa hTf hfl cm cr cy f1 f0 IHj hj
   repeat' (first | apply WK.s | apply WK.n | refine WK.exit rfl ?_ | refine WK.cF rfl ?_ | (apply hQ.h; clear hQ hA) | (refine WK.R Tryz.ntmps29 ?_; intro A hA Q hQ; simp [*]))
   refine WK.N (fun n => n) (IH (i + 1) (⟨by omega, hst⟩) (by first | omega | (dsimp only; omega))) (by repeat (first | exact TmW.nil | refine TmW.upd ?_ (by simp (config := zd) [k0, k1, k2, k3]))) (by repeat (first | exact BxW.nil | refine BxW.upd ?_ (by simp (config := zd) [k0, k1, k2, k3])))
 have h2' : (j : Int) < l.length := by omega
 have j6 : IntKind.i64.wrap ((j : Int) + 1) = j + 1 := wrap_i64 (by omega) (by omega)
 have j3 : 7 ≤ l.length * 7 - j * 7 := by omega
 have j4 := flow_sub l j h2
 have hB := hfl _ (nth_mem h2)
 have d1 := cm (nth l j)
 have d2 := cr (nth l j) hB
 have d3 := cy (nth l j) hB
 have hno2 := hTf j h2
 have hj2 := hj.2
 have hst2 : (fmRight (stMod (nth l j) i) && (stMay gs i (nth l j).insts).isNone) = true → ∀ k, k < j + 1 → (fmRight (stMod (nth l k) i) && (stMay gs i (nth l k).insts).isNone) = true := fun h k hk => by
   by_cases h7 : k = j
   · subst h7; exact h
   · exact hj2 k (by omega)
 obtain ⟨f, hf⟩ : ∃ f, nth l j = f := ⟨_, rfl⟩
 rw [hf] at d1 d2 d3 hno2 hst2 j4
 obtain ⟨D, hD, hDc⟩ : ∃ D, (stMod f i).enc = D ∧ ClL D = true := ⟨_, rfl, by simp⟩
 rw [hD] at d1 d2
 obtain ⟨m1, e1⟩ : ∃ b, fmRight (stMod f i) = b := ⟨_, rfl⟩
 obtain ⟨m2, e2⟩ : ∃ b, stMay gs i f.insts = b := ⟨_, rfl⟩
 rw [e1] at d2 hno2 hst2
 rw [e2] at d3 hno2 hst2
 unfold Flow.enc at d1 j4
 clear e1 e2 hD hf hB cm cr cy hfl hTa hTf hj
 cases m1
 · have e := hno (hno2 (by cases m2 <;> rfl))
   subst e
   clear hno hno2 hst hst2 IH IHj d3 f1 f0
   repeat' (first | apply WK.s | apply WK.b | apply WK.k | refine WK.cT rfl ?_ | (apply hQ.h; clear hQ hA) | (refine WK.R Tryz.ntmps29 ?_; intro A hA Q hQ; simp [*]) | (refine RunQ.g rfl (by rw [hA.h]; rfl) ?_; simp [*]) | (refine RunQ.k rfl rfl rfl rfl rfl ?_ (d1) ?_ ?_ <;> simp (config := zd) [*] <;> refine ⟨?_⟩) | (refine RunQ.k rfl rfl rfl rfl rfl ?_ (d2) ?_ ?_ <;> simp (config := zd) [*] <;> refine ⟨?_⟩) | (refine WK.t Tryz.func29 ?_ ?_ <;> simp (config := zd) [Tryz.results29, *]))
 cases m2 with
 | some c =>
   have e := hno (hno2 rfl)
   subst e
   rw [f1] at d3
   clear hno hno2 hst hst2 IH IHj f1 f0
   repeat' (first | apply WK.s | apply WK.b | apply WK.k | refine WK.cT rfl ?_ | (apply hQ.h; clear hQ hA) | (refine WK.R Tryz.ntmps29 ?_; intro A hA Q hQ; simp [*]) | (refine RunQ.g rfl (by rw [hA.h]; rfl) ?_; simp [*]) | (refine RunQ.k rfl rfl rfl rfl rfl ?_ (d1) ?_ ?_ <;> simp (config := zd) [*] <;> refine ⟨?_⟩) | (refine RunQ.k rfl rfl rfl rfl rfl ?_ (d2) ?_ ?_ <;> simp (config := zd) [*] <;> refine ⟨?_⟩) | (refine RunQ.k rfl rfl rfl rfl rfl ?_ (d3) ?_ ?_ <;> simp (config := zd) [*] <;> refine ⟨?_⟩) | (refine RunQW.k rfl rfl rfl rfl ?_ (d1) ?_ ?_ <;> simp (config := zd) [*] <;> refine ⟨?_⟩) | (refine RunQW.k rfl rfl rfl rfl ?_ (d2) ?_ ?_ <;> simp (config := zd) [*] <;> refine ⟨?_⟩) | (refine RunQW.k rfl rfl rfl rfl ?_ (d3) ?_ ?_ <;> simp (config := zd) [*] <;> refine ⟨?_⟩) | (refine WK.t Tryz.func29 ?_ ?_ <;> simp (config := zd) [Tryz.results29, *]))
 | none =>
   have hst2 := hst2 rfl
   rw [f0] at d3
   clear hno hno2 hst f1 f0
   repeat' (first | apply WK.s | apply WK.b | apply WK.n | apply WK.k | refine WK.cT rfl ?_ | refine WK.cF rfl ?_ | (apply hQ.h; clear hQ hA) | (refine WK.R Tryz.ntmps29 ?_; intro A hA Q hQ; simp [*]) | (refine RunQ.g rfl (by rw [hA.h]; rfl) ?_; simp [*]) | (refine RunQ.k rfl rfl rfl rfl rfl ?_ (d1) ?_ ?_ <;> simp (config := zd) [*] <;> refine ⟨?_⟩) | (refine RunQ.k rfl rfl rfl rfl rfl ?_ (d2) ?_ ?_ <;> simp (config := zd) [*] <;> refine ⟨?_⟩) | (refine RunQ.k rfl rfl rfl rfl rfl ?_ (d3) ?_ ?_ <;> simp (config := zd) [*] <;> refine ⟨?_⟩) | (refine RunQW.k rfl rfl rfl rfl ?_ (d1) ?_ ?_ <;> simp (config := zd) [*] <;> refine ⟨?_⟩) | (refine RunQW.k rfl rfl rfl rfl ?_ (d2) ?_ ?_ <;> simp (config := zd) [*] <;> refine ⟨?_⟩) | (refine RunQW.k rfl rfl rfl rfl ?_ (d3) ?_ ?_ <;> simp (config := zd) [*] <;> refine ⟨?_⟩))
   refine WK.N (fun n => n) (IHj (j + 1) (⟨by omega, hst2⟩) (by first | omega | (dsimp only; omega))) (by repeat (first | exact TmW.nil | refine TmW.upd ?_ (by simp (config := zd) [k0, k1, k2, k3]))) (by repeat (first | exact BxW.nil | refine BxW.upd ?_ (by simp (config := zd) [k0, k1, k2, k3])))

def groupsPlain (l : List Group) (many bk : Int) : Bool := decide ((l.length : Int) ≤ many) && l.all fun g => bucketsPlain g.buckets bk
theorem pgrp1_c (g : Group) (bk : Int) (hb : bk ≤ 1000) : FnP Tryz.prog 62 [.agg g.enc, .iptr [.int .i64 bk]] (.bool (!bucketsPlain g.buckets bk)) := by
 have c := pbuckets_c g.buckets bk hb
 unfold bukS at c
 refine FnP.i Tryz.func62 rfl rfl fun G w => ?_
 repeat' (first | apply WK.s | (apply hQ.h; clear hQ hA) | (refine WK.R Tryz.ntmps62 ?_; intro A hA Q hQ; simp [Group.enc, *]) | (refine RunQ.k rfl rfl rfl rfl rfl ?_ (c) ?_ ?_ <;> simp (config := zd) [Group.enc, *] <;> refine ⟨?_⟩) | (refine WK.t Tryz.func62 ?_ ?_ <;> simp (config := zd) [Tryz.results62, Group.enc, *]))
theorem pgroups_c (l : List Group) (many bk : Int) (hm : many ≤ 1000000) (hb : bk ≤ 1000) : FnP Tryz.prog 37 [grpS l, .int .i64 many, .int .i64 bk] (.bool (groupsPlain l many bk)) := by
 unfold groupsPlain
 by_cases h1 : (l.length : Int) ≤ many
 case neg =>
   rw [decide_eq_false h1]
   unfold grpS
   refine FnP.i Tryz.func37 rfl rfl fun G w => ?_
   repeat' (first | apply WK.s | (apply hQ.h; clear hQ hA) | (refine WK.R Tryz.ntmps37 ?_; intro A hA Q hQ; simp [*]) | (refine RunQ.g rfl (by rw [hA.h]; rfl) ?_; simp [*]) | (refine WK.t Tryz.func37 ?_ ?_ <;> simp (config := zd) [Tryz.results37, *]))
 have c := containsf_grp 62 [.iptr [.int .i64 bk]] (fun g => !bucketsPlain g.buckets bk) l (by simp) (by omega) (fun x _ => pgrp1_c x bk hb)
 rw [any_not_all] at c
 rw [decide_eq_true h1]
 obtain ⟨B, hB⟩ : ∃ B, (l.all fun g => bucketsPlain g.buckets bk) = B := ⟨_, rfl⟩
 rw [hB] at c ⊢
 unfold grpS at *
 clear hB
 refine FnP.i Tryz.func37 rfl rfl fun G w => ?_
 repeat apply WK.s
 refine WK.G 100 Tryz.ntmps37 ?_
 intro A hA Q hQ
 simp
 apply hQ
 clear hQ hA
 repeat apply WK.s
 refine WK.ghost (Ghost.frzVar 5 rfl rfl) ?_
 repeat' (first | (apply hQ.h; clear hQ hA) | (refine WK.R Tryz.ntmps37 ?_; intro A hA Q hQ; simp [*]) | (refine RunQ.g rfl (by rw [hA.h]; rfl) ?_; simp [*]) | (refine RunQW.k rfl rfl rfl rfl ?_ (c) ?_ ?_ <;> simp (config := zd) [*] <;> refine ⟨?_⟩) | (refine WK.t Tryz.func37 ?_ ?_ <;> simp (config := zd) [Tryz.results37, *]))
def swPlain (s : Switch) (n : Int) : Bool := ((List.range 4).all fun t => flowsPlain (s.tab t) n) && groupsPlain s.groups 9 3
set_option maxRecDepth 100000 in
theorem pswitch_c (s : Switch) (n : Int) (hn : n ≤ 1000000) : FnP Tryz.prog 21 [.agg s.enc, .int .i64 n] (.bool (swPlain s n)) := by
 have ct : ∀ t : Nat, FnP Tryz.prog 36 [flowS (s.tab t), .int .i64 n] (.bool (flowsPlain (s.tab t) n)) := fun t => pFlows_c _ n hn
 have cg := pgroups_c s.groups 9 3 (by omega) (by omega)
 have ha : (∀ t, t < 4 → flowsPlain (s.tab t) n = true) → ((List.range 4).all fun t => flowsPlain (s.tab t) n) = true := fun h => by
   rw [List.all_eq_true]; intro t ht; exact h t (by simpa using ht)
 have hno : ∀ t, t < 4 → flowsPlain (s.tab t) n = false → ((List.range 4).all fun t => flowsPlain (s.tab t) n) = false := fun t ht h => by
   rw [List.all_eq_false]; exact ⟨t, by simpa using ht, by simp [h]⟩
 unfold swPlain
 obtain ⟨R, hR⟩ : ∃ R, ((List.range 4).all fun t => flowsPlain (s.tab t) n) = R := ⟨_, rfl⟩
 rw [hR] at ha ⊢
 simp only [hR] at hno
 have e0 : s.enc = [flowS (s.tab 0), flowS (s.tab 1), flowS (s.tab 2), flowS (s.tab 3), grpS s.groups] := rfl
 rw [e0]
 obtain ⟨Tb, hA, hAc⟩ : ∃ Tb : Nat → AV, (∀ t, flowS (s.tab t) = Tb t) ∧ ∀ t, Cl (Tb t) = true := ⟨fun t => flowS (s.tab t), fun _ => rfl, fun t => flowS_cl _⟩
 simp only [hA] at ct ⊢
 obtain ⟨p, hp⟩ : ∃ p : Nat → Bool, ∀ t, flowsPlain (s.tab t) n = p t := ⟨_, fun _ => rfl⟩
 simp only [hp] at ct ha hno
 obtain ⟨b, hb⟩ : ∃ b, groupsPlain s.groups 9 3 = b := ⟨_, rfl⟩
 rw [hb] at cg ⊢
 obtain ⟨gs, hgs⟩ : ∃ gs, s.groups = gs := ⟨_, rfl⟩
 rw [hgs] at cg ⊢
 clear hR e0 hA hp hb hgs
 unfold grpS at *
 have k0 := hAc 0
 have k1 := hAc 1
 have k2 := hAc 2
 have k3 := hAc 3
 refine FnP.i Tryz.func21 rfl rfl fun G w => ?_
 repeat' (first | apply WK.s | apply WK.b | (apply hQ.h; clear hQ hA) | (refine WK.R Tryz.ntmps21 ?_; intro A hA Q hQ; simp [*]))
 refine WK.L (fun n => n) (fun i : Nat => (⟨(upd (upd (upd (upd J 1 (.int .i64 n)) 2 (.ptr 0 0)) 8 (.agg [Tb 0, Tb 1, Tb 2, Tb 3])) 9 (.int .i64 i)), (upd B0 0 (.var [Tb 0, Tb 1, Tb 2, Tb 3, .sl false gs.length (grpL gs)])), 0⟩ : St)) (fun i => i ≤ 4 ∧ ∀ t, t < i → p t = true) (fun i => 4 - i) (0) (by repeat (first | exact TmW.nil | refine TmW.upd ?_ (by simp (config := zd) [k0, k1, k2, k3]))) (by repeat (first | exact BxW.nil | refine BxW.upd ?_ (by simp (config := zd) [k0, k1, k2, k3]))) (⟨by omega, by simp⟩) (fun i hi IH => ?_)
 by_cases h1 : i < 4
 · have h1' : (i : Int) < 4 := by omega
   have h6 : IntKind.i64.wrap ((i : Int) + 1) = i + 1 := wrap_i64 (by omega) (by omega)
   have hget := four Tb i h1
   have c1 := ct i
   have hno := hno i h1
   have hi2 := hi.2
   have ki := hAc i
   have hst : p i = true → ∀ t, t < i + 1 → p t = true := fun h t ht => by
     by_cases h7 : t = i
     · subst h7; exact h
     · exact hi2 t (by omega)
   obtain ⟨b1, e1⟩ : ∃ b, p i = b := ⟨_, rfl⟩
   rw [e1] at c1 hno hst
   clear e1 ha ct cg hi
   cases b1
   · have e := hno rfl
     subst e
     clear hno hst IH
     repeat' (first | apply WK.s | apply WK.b | apply WK.k | refine WK.cT rfl ?_ | (apply hQ.h; clear hQ hA) | (refine WK.R Tryz.ntmps21 ?_; intro A hA Q hQ; simp [*]) | (refine RunQ.k rfl rfl rfl rfl rfl ?_ (c1) ?_ ?_ <;> simp (config := zd) [*] <;> refine ⟨?_⟩) | (refine WK.t Tryz.func21 ?_ ?_ <;> simp (config := zd) [Tryz.results21, *]))
   · have hst := hst rfl
     clear hno
     repeat' (first | apply WK.s | apply WK.b | apply WK.n | apply WK.k | refine WK.cT rfl ?_ | refine WK.cF rfl ?_ | (apply hQ.h; clear hQ hA) | (refine WK.R Tryz.ntmps21 ?_; intro A hA Q hQ; simp [*]) | (refine RunQ.k rfl rfl rfl rfl rfl ?_ (c1) ?_ ?_ <;> simp (config := zd) [*] <;> refine ⟨?_⟩))
     refine WK.N (fun n => n) (IH (i + 1) (⟨by omega, hst⟩) (by first | omega | (dsimp only; omega))) (by repeat (first | exact TmW.nil | refine TmW.upd ?_ (by simp (config := zd) [k0, k1, k2, k3]))) (by repeat (first | exact BxW.nil | refine BxW.upd ?_ (by simp (config := zd) [k0, k1, k2, k3])))
 · have h1' : ¬ (i : Int) < 4 := by omega
   have e := ha (fun t ht => hi.2 t (by omega))
   subst e
   clear ha hno ct IH hi
   repeat' (first | apply WK.s | refine WK.exit rfl ?_ | refine WK.cF rfl ?_ | (apply hQ.h; clear hQ hA) | (refine WK.R Tryz.ntmps21 ?_; intro A hA Q hQ; simp [*]) | (refine RunQ.k rfl rfl rfl rfl rfl ?_ (cg) ?_ ?_ <;> simp (config := zd) [*] <;> refine ⟨?_⟩) | (refine WK.t Tryz.func21 ?_ ?_ <;> simp (config := zd) [Tryz.results21, *]))
theorem swPlain_ok {s : Switch} {n : Int} (hn : n ≤ 100000) (h : swPlain s n = true) (h4 : ∀ t, 4 ≤ t → s.tab t = []) : SwB s := by
 unfold swPlain at h
 rw [Bool.and_eq_true, List.all_eq_true] at h
 obtain ⟨h1, h2⟩ := h
 unfold groupsPlain at h2
 rw [Bool.and_eq_true, decide_eq_true_eq, List.all_eq_true] at h2
 have hf : ∀ t, t < 4 → ((s.tab t).length : Int) ≤ n ∧ ∀ f, f ∈ s.tab t → Flow.plain f = true := fun t ht => by
   have := h1 t (by simpa using ht)
   unfold flowsPlain at this
   rw [Bool.and_eq_true, decide_eq_true_eq, List.all_eq_true] at this
   exact this
 refine ⟨fun t => ?_, fun t f hm => ?_, by omega, fun g hg => ?_⟩
 · by_cases ht : t < 4
   · have := (hf t ht).1; omega
   · rw [h4 t (by omega)]; simp
 · by_cases ht : t < 4
   · exact FlB.plain ((hf t ht).2 f hm)
   · rw [h4 t (by omega)] at hm; simp at hm
 · have h3 := h2.2 g hg
   unfold bucketsPlain at h3
   rw [Bool.and_eq_true, decide_eq_true_eq, List.all_eq_true] at h3
   exact ⟨by omega, fun x hx => by have := h3.2 x hx; unfold actsPlain at this; simp at this; omega⟩
def Switch.cut (s : Switch) : Switch := ⟨fun t => if t < 4 then s.tab t else [], s.groups⟩
theorem Switch.cut_tab {s : Switch} {t : Nat} (h : 4 ≤ t) : s.cut.tab t = [] := by
 have : ¬ t < 4 := by omega
 simp [Switch.cut, this]

structure Link where
 from_ : Int
 out : Int
 to_ : Int
 inn : Int
 deriving DecidableEq, Inhabited
def Link.enc (l : Link) : List AV := [.int .i64 l.from_, .int .i64 l.out, .int .i64 l.to_, .int .i64 l.inn]
theorem Link.len (l : Link) : l.enc.length = 4 := rfl
@[simp] theorem Link.cl (l : Link) : ClL l.enc = true := rfl
instance : Inhabited Switch := ⟨sw0⟩
theorem Switch.len (s : Switch) : s.enc.length = 5 := rfl
@[simp] theorem Switch.cl (s : Switch) : ClL s.enc = true := by simp [Switch.enc, ClL]
def linkL (l : List Link) : List AV := l.flatMap Link.enc
def linkS (l : List Link) : AV := .sl false l.length (linkL l)
@[simp] theorem linkL_len (l : List Link) : (linkL l).length = l.length * 4 := fm_length Link.len l
@[simp] theorem linkL_cl (l : List Link) : ClL (linkL l) = true := ClL_flatMap _ Link.cl l
theorem link_sub (l : List Link) (i : Nat) (h : i < l.length) : ((linkL l).drop (i * 4)).take 4 = (nth l i).enc := fm_nth Link.len l i h
theorem link_load (l : List Link) (i : Nat) (h : i < l.length) : ((linkL l).drop (i * 4)).take 4 = (nth l i).enc ∧ 4 ≤ l.length * 4 - i * 4 := ⟨link_sub l i h, by omega⟩
@[simp] theorem linkS_cl (l : List Link) : Cl (linkS l) = true := by simp [linkS, Cl]
@[simp] theorem linkL_nil : linkL [] = [] := rfl
@[simp] theorem Link.take (x : Link) : x.enc.take 4 = x.enc := rfl
@[simp] theorem Link.drop (x : Link) : x.enc.drop 4 = [] := rfl
theorem link_get (l : List Link) (i k : Nat) (h : i < l.length) (hk : k < 4) (h' : i * 4 + k < (linkL l).length) : (linkL l)[i * 4 + k] = ((nth l i).enc)[k]'(by rw [Link.len]; exact hk) := fm_get Link.len l i k h hk h'
def swL (l : List Switch) : List AV := l.flatMap Switch.enc
def swS (l : List Switch) : AV := .sl false l.length (swL l)
@[simp] theorem swL_len (l : List Switch) : (swL l).length = l.length * 5 := fm_length Switch.len l
@[simp] theorem swL_cl (l : List Switch) : ClL (swL l) = true := ClL_flatMap _ Switch.cl l
theorem sw_sub (l : List Switch) (i : Nat) (h : i < l.length) : ((swL l).drop (i * 5)).take 5 = (nth l i).enc := fm_nth Switch.len l i h
theorem sw_load (l : List Switch) (i : Nat) (h : i < l.length) : ((swL l).drop (i * 5)).take 5 = (nth l i).enc ∧ 5 ≤ l.length * 5 - i * 5 := ⟨sw_sub l i h, by omega⟩
@[simp] theorem swS_cl (l : List Switch) : Cl (swS l) = true := by simp [swS, Cl]
@[simp] theorem swL_nil : swL [] = [] := rfl
@[simp] theorem Switch.take (x : Switch) : x.enc.take 5 = x.enc := rfl
@[simp] theorem Switch.drop (x : Switch) : x.enc.drop 5 = [] := rfl
theorem sw_get (l : List Switch) (i k : Nat) (h : i < l.length) (hk : k < 5) (h' : i * 5 + k < (swL l).length) : (swL l)[i * 5 + k] = ((nth l i).enc)[k]'(by rw [Switch.len]; exact hk) := fm_get Switch.len l i k h hk h'
theorem indexf_link (fid : Nat) (caps : List AV) (p : Link → Bool) (l : List Link) (hcl : ClL caps = true) (hl : l.length ≤ 1000000)
   (hf : ∀ x, x ∈ l → FnP Tryz.prog fid (.agg x.enc :: caps) (.bool (p x))) :
   FnP Tryz.prog 22 [linkS l, .fn fid caps] (.int .i64 (idxI p l)) := by
 unfold linkS
 refine FnP.i Tryz.func22 rfl rfl fun G w => ?_
 repeat apply WK.s
 refine WK.G 100 Tryz.ntmps22 ?_
 intro A hA Q hQ
 simp
 apply hQ
 clear hQ hA
 repeat apply WK.s
 refine WK.G 200 Tryz.ntmps22 ?_
 intro A hA Q hQ
 simp
 apply hQ
 clear hQ hA
 repeat (apply WK.b)
 refine WK.L (fun n => n) (fun i : Nat => (⟨(upd (upd (upd (upd J 0 (.sl false l.length (linkL l))) 1 (.fn fid caps)) 7 (.int .i64 l.length)) 8 (.int .i64 i)), B0, 0⟩ : St)) (fun i => i ≤ l.length ∧ ∀ j, j < i → p (nth l j) = false) (fun i => l.length - i) (0) (by repeat (first | exact TmW.nil | refine TmW.upd ?_ (by simp (config := zd) [hcl]))) (by repeat (first | exact BxW.nil | refine BxW.upd ?_ (by simp (config := zd) [hcl]))) (⟨by omega, by simp⟩) (fun i hi IH => ?_)
 repeat apply WK.s
 refine WK.G 300 Tryz.ntmps22 ?_
 intro A hA Q hQ
 simp
 apply hQ
 clear hQ hA
 repeat apply WK.s
 refine WK.c2 rfl (fun h1 => ?_) (fun h1 => ?_)
 · simp at h1
   have h2 : i < l.length := by omega
   have h3 : 4 ≤ l.length * 4 - i * 4 := by omega
   have h4 := link_sub l i h2
   have h6 : IntKind.i64.wrap ((i : Int) + 1) = i + 1 := wrap_i64 (by omega) (by omega)
   repeat (first | apply WK.s | apply WK.b | apply WK.k)
   refine WK.G 400 Tryz.ntmps22 ?_
   intro A hA Q hQ
   simp
   apply hQ
   clear hQ hA
   repeat apply WK.s
   refine WK.G 500 Tryz.ntmps22 ?_
   intro A hA Q hQ
   simp [h2, h3, h4]
   refine RunQ.call rfl rfl rfl rfl (by rfl) (by simp (config := zd) [hcl]) (hf (nth l i) (nth_mem h2)) (by simp [hcl]) ?_
   refine RunQ.eval ?_
   simp [hcl]
   apply hQ
   clear hQ hA
   refine WK.c2 rfl (fun h5 => ?_) (fun h5 => ?_)
   · have e := idxI_some h2 h5 hi.2
     repeat apply WK.s
     refine WK.G 600 Tryz.ntmps22 ?_
     intro A hA Q hQ
     simp
     apply hQ
     clear hQ hA
     refine WK.t Tryz.func22 (by simp (config := zd) [Tryz.results22, e]) (by simp [e])
   · repeat (first | apply WK.n | apply WK.k)
     refine WK.G 700 Tryz.ntmps22 ?_
     intro A hA Q hQ
     simp [h6]
     apply hQ
     clear hQ hA
     refine WK.N (fun n => n) (IH (i + 1) (⟨by omega, fun j hj => by by_cases h7 : j = i; (subst h7; exact h5); exact hi.2 j (by omega)⟩) (by first | omega | (dsimp only; omega))) (by repeat (first | exact TmW.nil | refine TmW.upd ?_ (by simp (config := zd) [hcl]))) (by repeat (first | exact BxW.nil | refine BxW.upd ?_ (by simp (config := zd) [hcl])))
 · simp at h1
   have e := idxI_none (p := p) (l := l) (fun j hj => hi.2 j (by omega))
   repeat (first | apply WK.s | refine WK.exit rfl ?_)
   refine WK.G 800 Tryz.ntmps22 ?_
   intro A hA Q hQ
   simp
   apply hQ
   clear hQ hA
   refine WK.t Tryz.func22 (by simp (config := zd) [Tryz.results22, e]) (by simp [e])
theorem indexf_sw (fid : Nat) (caps : List AV) (p : Switch → Bool) (l : List Switch) (hcl : ClL caps = true) (hl : l.length ≤ 1000000)
   (hf : ∀ x, x ∈ l → FnP Tryz.prog fid (.agg x.enc :: caps) (.bool (p x))) :
   FnP Tryz.prog 35 [swS l, .fn fid caps] (.int .i64 (idxI p l)) := by
 unfold swS
 refine FnP.i Tryz.func35 rfl rfl fun G w => ?_
 repeat apply WK.s
 refine WK.G 100 Tryz.ntmps35 ?_
 intro A hA Q hQ
 simp
 apply hQ
 clear hQ hA
 repeat apply WK.s
 refine WK.G 200 Tryz.ntmps35 ?_
 intro A hA Q hQ
 simp
 apply hQ
 clear hQ hA
 repeat (apply WK.b)
 refine WK.L (fun n => n) (fun i : Nat => (⟨(upd (upd (upd (upd J 0 (.sl false l.length (swL l))) 1 (.fn fid caps)) 7 (.int .i64 l.length)) 8 (.int .i64 i)), B0, 0⟩ : St)) (fun i => i ≤ l.length ∧ ∀ j, j < i → p (nth l j) = false) (fun i => l.length - i) (0) (by repeat (first | exact TmW.nil | refine TmW.upd ?_ (by simp (config := zd) [hcl]))) (by repeat (first | exact BxW.nil | refine BxW.upd ?_ (by simp (config := zd) [hcl]))) (⟨by omega, by simp⟩) (fun i hi IH => ?_)
 repeat apply WK.s
 refine WK.G 300 Tryz.ntmps35 ?_
 intro A hA Q hQ
 simp
 apply hQ
 clear hQ hA
 repeat apply WK.s
 refine WK.c2 rfl (fun h1 => ?_) (fun h1 => ?_)
 · simp at h1
   have h2 : i < l.length := by omega
   have h3 : 5 ≤ l.length * 5 - i * 5 := by omega
   have h4 := sw_sub l i h2
   have h6 : IntKind.i64.wrap ((i : Int) + 1) = i + 1 := wrap_i64 (by omega) (by omega)
   repeat (first | apply WK.s | apply WK.b | apply WK.k)
   refine WK.G 400 Tryz.ntmps35 ?_
   intro A hA Q hQ
   simp
   apply hQ
   clear hQ hA
   repeat apply WK.s
   refine WK.G 500 Tryz.ntmps35 ?_
   intro A hA Q hQ
   simp [h2, h3, h4]
   refine RunQ.call rfl rfl rfl rfl (by rfl) (by simp (config := zd) [hcl]) (hf (nth l i) (nth_mem h2)) (by simp [hcl]) ?_
   refine RunQ.eval ?_
   simp [hcl]
   apply hQ
   clear hQ hA
   refine WK.c2 rfl (fun h5 => ?_) (fun h5 => ?_)
   · have e := idxI_some h2 h5 hi.2
     repeat apply WK.s
     refine WK.G 600 Tryz.ntmps35 ?_
     intro A hA Q hQ
     simp
     apply hQ
     clear hQ hA
     refine WK.t Tryz.func35 (by simp (config := zd) [Tryz.results35, e]) (by simp [e])
   · repeat (first | apply WK.n | apply WK.k)
     refine WK.G 700 Tryz.ntmps35 ?_
     intro A hA Q hQ
     simp [h6]
     apply hQ
     clear hQ hA
     refine WK.N (fun n => n) (IH (i + 1) (⟨by omega, fun j hj => by by_cases h7 : j = i; (subst h7; exact h5); exact hi.2 j (by omega)⟩) (by first | omega | (dsimp only; omega))) (by repeat (first | exact TmW.nil | refine TmW.upd ?_ (by simp (config := zd) [hcl]))) (by repeat (first | exact BxW.nil | refine BxW.upd ?_ (by simp (config := zd) [hcl])))
 · simp at h1
   have e := idxI_none (p := p) (l := l) (fun j hj => hi.2 j (by omega))
   repeat (first | apply WK.s | refine WK.exit rfl ?_)
   refine WK.G 800 Tryz.ntmps35 ?_
   intro A hA Q hQ
   simp
   apply hQ
   clear hQ hA
   refine WK.t Tryz.func35 (by simp (config := zd) [Tryz.results35, e]) (by simp [e])
theorem containsf_sw (fid : Nat) (caps : List AV) (p : Switch → Bool) (l : List Switch) (hcl : ClL caps = true) (hl : l.length ≤ 1000000)
   (hf : ∀ x, x ∈ l → FnP Tryz.prog fid (.agg x.enc :: caps) (.bool (p x))) :
   FnP Tryz.prog 19 [swS l, .fn fid caps] (.bool (l.any p)) := by
 have e := idxI_ge p l
 simp only [ge_iff_le] at e
 refine FnP.i Tryz.func19 rfl rfl fun G w => ?_
 repeat apply WK.s
 refine WK.G 100 Tryz.ntmps19 ?_
 intro A hA Q hQ
 simp
 apply hQ
 clear hQ hA
 repeat apply WK.s
 refine WK.G 200 Tryz.ntmps19 ?_
 intro A hA Q hQ
 simp
 refine RunQ.call rfl rfl rfl rfl (by rfl) (by simp (config := zd) [hcl]) (indexf_sw fid caps p l hcl hl hf) (by simp [hcl]) ?_
 refine RunQ.eval ?_
 simp [hcl]
 apply hQ
 clear hQ hA
 refine WK.t Tryz.func19 (by simp (config := zd) [Tryz.results19, e]) (by simp [e])
structure Net where
 sws : List Switch
 links : List Link
def Net.enc (n : Net) : List AV := [swS n.sws, linkS n.links]
@[simp] theorem Net.cl (n : Net) : ClL n.enc = true := by simp [Net.enc, ClL]
def nThere (n : Net) (at_ : Int) : Bool := decide (0 ≤ at_) && decide (at_ < n.sws.length)
theorem lthere_c (n : Net) (at_ : Int) : FnP Tryz.prog 24 [.agg n.enc, .int .i64 at_] (.bool (nThere n at_)) := by
 unfold nThere Net.enc swS linkS
 by_cases h1 : 0 ≤ at_
 · by_cases h2 : at_ < n.sws.length
   · rw [decide_eq_true h1, decide_eq_true h2]
     refine FnP.i Tryz.func24 rfl rfl fun G w => ?_
     repeat' (first | apply WK.s | (apply hQ.h; clear hQ hA) | (refine WK.R Tryz.ntmps24 ?_; intro A hA Q hQ; simp [*]) | (refine RunQ.g rfl (by rw [hA.h]; rfl) ?_; simp [*]) | (refine WK.t Tryz.func24 ?_ ?_ <;> simp (config := zd) [Tryz.results24, *]))
   · rw [decide_eq_true h1, decide_eq_false h2]
     refine FnP.i Tryz.func24 rfl rfl fun G w => ?_
     repeat' (first | apply WK.s | (apply hQ.h; clear hQ hA) | (refine WK.R Tryz.ntmps24 ?_; intro A hA Q hQ; simp [*]) | (refine RunQ.g rfl (by rw [hA.h]; rfl) ?_; simp [*]) | (refine WK.t Tryz.func24 ?_ ?_ <;> simp (config := zd) [Tryz.results24, *]))
 · rw [decide_eq_false h1]
   refine FnP.i Tryz.func24 rfl rfl fun G w => ?_
   repeat' (first | apply WK.s | (apply hQ.h; clear hQ hA) | (refine WK.R Tryz.ntmps24 ?_; intro A hA Q hQ; simp [*]) | (refine RunQ.g rfl (by rw [hA.h]; rfl) ?_; simp [*]) | (refine WK.t Tryz.func24 ?_ ?_ <;> simp (config := zd) [Tryz.results24, *]))
theorem rlthere_c (n : Net) (at_ : Int) : FnP Tryz.prog 25 [.agg n.enc, .int .i64 at_] (.bool (nThere n at_)) := by
 unfold nThere Net.enc swS linkS
 by_cases h1 : 0 ≤ at_
 · by_cases h2 : at_ < n.sws.length
   · rw [decide_eq_true h1, decide_eq_true h2]
     refine FnP.i Tryz.func25 rfl rfl fun G w => ?_
     repeat' (first | apply WK.s | (apply hQ.h; clear hQ hA) | (refine WK.R Tryz.ntmps25 ?_; intro A hA Q hQ; simp [*]) | (refine RunQ.g rfl (by rw [hA.h]; rfl) ?_; simp [*]) | (refine WK.t Tryz.func25 ?_ ?_ <;> simp (config := zd) [Tryz.results25, *]))
   · rw [decide_eq_true h1, decide_eq_false h2]
     refine FnP.i Tryz.func25 rfl rfl fun G w => ?_
     repeat' (first | apply WK.s | (apply hQ.h; clear hQ hA) | (refine WK.R Tryz.ntmps25 ?_; intro A hA Q hQ; simp [*]) | (refine RunQ.g rfl (by rw [hA.h]; rfl) ?_; simp [*]) | (refine WK.t Tryz.func25 ?_ ?_ <;> simp (config := zd) [Tryz.results25, *]))
 · rw [decide_eq_false h1]
   refine FnP.i Tryz.func25 rfl rfl fun G w => ?_
   repeat' (first | apply WK.s | (apply hQ.h; clear hQ hA) | (refine WK.R Tryz.ntmps25 ?_; intro A hA Q hQ; simp [*]) | (refine RunQ.g rfl (by rw [hA.h]; rfl) ?_; simp [*]) | (refine WK.t Tryz.func25 ?_ ?_ <;> simp (config := zd) [Tryz.results25, *]))
def nIs (n : Net) (at_ port : Int) (l : Link) : Bool := (l.from_ == at_ && l.out == port) && nThere n l.to_
def nAt (n : Net) (at_ port : Int) : Int := idxI (nIs n at_ port) n.links
def nTold (n : Net) (p : Int) : List AV := if p < 0 then [.int .i64 0, .int .i64 0, .bool false] else [.int .i64 (nth n.links p.toNat).to_, .int .i64 (nth n.links p.toNat).inn, .bool true]
theorem lnext1_c (n : Net) (at_ port : Int) (l : Link) : FnP Tryz.prog 23 [.agg l.enc, .iptr [.int .i64 at_], .iptr [.int .i64 port], .iptr n.enc] (.bool (nIs n at_ port l)) := by
 have c := lthere_c n l.to_
 unfold nIs
 obtain ⟨b, hb⟩ : ∃ b, nThere n l.to_ = b := ⟨_, rfl⟩
 rw [hb] at c ⊢
 obtain ⟨S, T, hS, s1, s2⟩ : ∃ S T, n.enc = [S, T] ∧ Cl S = true ∧ Cl T = true := ⟨_, _, rfl, swS_cl _, linkS_cl _⟩
 rw [hS] at c ⊢
 clear hb hS
 cases k1 : (l.from_ == at_)
 · clear c
   refine FnP.i Tryz.func23 rfl rfl fun G w => ?_
   repeat' (first | apply WK.s | (apply hQ.h; clear hQ hA) | (refine WK.R Tryz.ntmps23 ?_; intro A hA Q hQ; simp [Link.enc, *]) | (refine RunQ.g rfl (by rw [hA.h]; rfl) ?_; simp [Link.enc, *]) | (refine WK.t Tryz.func23 ?_ ?_ <;> simp (config := zd) [Tryz.results23, Link.enc, *]))
 cases k2 : (l.out == port)
 · clear c
   refine FnP.i Tryz.func23 rfl rfl fun G w => ?_
   repeat' (first | apply WK.s | (apply hQ.h; clear hQ hA) | (refine WK.R Tryz.ntmps23 ?_; intro A hA Q hQ; simp [Link.enc, *]) | (refine RunQ.g rfl (by rw [hA.h]; rfl) ?_; simp [Link.enc, *]) | (refine WK.t Tryz.func23 ?_ ?_ <;> simp (config := zd) [Tryz.results23, Link.enc, *]))
 refine FnP.i Tryz.func23 rfl rfl fun G w => ?_
 repeat' (first | apply WK.s | (apply hQ.h; clear hQ hA) | (refine WK.R Tryz.ntmps23 ?_; intro A hA Q hQ; simp [Link.enc, *]) | (refine RunQ.g rfl (by rw [hA.h]; rfl) ?_; simp [Link.enc, *]) | (refine RunQW.k rfl rfl rfl rfl ?_ (c) ?_ ?_ <;> simp (config := zd) [Link.enc, *] <;> refine ⟨?_⟩) | (refine WK.t Tryz.func23 ?_ ?_ <;> simp (config := zd) [Tryz.results23, Link.enc, *]))
theorem link_get0 (l : List Link) (i : Nat) (h : i < l.length) (h' : i * 4 < (linkL l).length) : (linkL l)[i * 4] = .int .i64 (nth l i).from_ := link_get l i 0 h (by omega) h'
theorem link_get1 (l : List Link) (i : Nat) (h : i < l.length) (h' : i * 4 + 1 < (linkL l).length) : (linkL l)[i * 4 + 1] = .int .i64 (nth l i).out := link_get l i 1 h (by omega) h'
theorem link_get2 (l : List Link) (i : Nat) (h : i < l.length) (h' : i * 4 + 2 < (linkL l).length) : (linkL l)[i * 4 + 2] = .int .i64 (nth l i).to_ := link_get l i 2 h (by omega) h'
theorem link_get3 (l : List Link) (i : Nat) (h : i < l.length) (h' : i * 4 + 3 < (linkL l).length) : (linkL l)[i * 4 + 3] = .int .i64 (nth l i).inn := link_get l i 3 h (by omega) h'
theorem idxI_cases {α : Type} [Inhabited α] (p : α → Bool) (l : List α) : idxI p l = -1 ∨ ∃ i : Nat, i < l.length ∧ idxI p l = i ∧ p (nth l i) = true ∧ ∀ j, j < i → p (nth l j) = false := by
 by_cases h : ∃ i, i < l.length ∧ p (nth l i) = true
 · have hx : ∃ i, (i < l.length ∧ p (nth l i) = true) ∧ ∀ j, j < i → p (nth l j) = false := by
     obtain ⟨i, hi⟩ := h
     induction i using Nat.strongRecOn with
     | _ i ih =>
       by_cases hj : ∃ j, j < i ∧ p (nth l j) = true
       · obtain ⟨j, hj1, hj2⟩ := hj
         exact ih j hj1 ⟨by omega, hj2⟩
       · exact ⟨i, hi, fun j hj1 => by
           cases hb : p (nth l j) with
           | false => rfl
           | true => exact absurd ⟨j, hj1, hb⟩ hj⟩
   obtain ⟨i, ⟨h1, h2⟩, h3⟩ := hx
   exact .inr ⟨i, h1, idxI_some h1 h2 h3, h2, h3⟩
 · refine .inl (idxI_none fun j hj => ?_)
   cases hb : p (nth l j) with
   | false => rfl
   | true => exact absurd ⟨j, hj, hb⟩ h
set_option maxRecDepth 100000 in
theorem lnext_c (n : Net) (at_ port : Int) (hl : n.links.length ≤ 1000000) : FnP Tryz.prog 7 [.agg n.enc, .int .i64 at_, .int .i64 port] (.tup (nTold n (nAt n at_ port))) := by
 have c := indexf_link 23 [.iptr [.int .i64 at_], .iptr [.int .i64 port], .iptr n.enc] (nIs n at_ port) n.links (by simp [ClL, Cl]) hl (fun x _ => lnext1_c n at_ port x)
 have hk := idxI_cases (nIs n at_ port) n.links
 have e : nAt n at_ port = idxI (nIs n at_ port) n.links := rfl
 rw [← e] at c hk
 obtain ⟨P, hP⟩ : ∃ P, nAt n at_ port = P := ⟨_, rfl⟩
 rw [hP] at c hk ⊢
 have e0 : n.enc = [swS n.sws, linkS n.links] := rfl
 rw [e0] at c ⊢
 unfold nTold
 clear e hP e0
 obtain ⟨S, L⟩ := n
 simp only at *
 unfold linkS at *
 obtain ⟨S, hS, hsc⟩ : ∃ s, swS S = s ∧ Cl s = true := ⟨_, rfl, swS_cl _⟩
 rw [hS] at c ⊢
 clear hS
 rcases hk with rfl | ⟨i, hi, rfl, _⟩
 · rw [if_pos (by omega)]
   refine FnP.i Tryz.func7 rfl rfl fun G w => ?_
   repeat apply WK.s
   refine WK.G 100 Tryz.ntmps7 ?_
   intro A hA Q hQ
   simp
   apply hQ
   clear hQ hA
   repeat apply WK.s
   refine WK.ghost (Ghost.frzVar 3 rfl rfl) ?_
   refine WK.ghost (Ghost.frzVar 4 rfl rfl) ?_
   refine WK.ghost (Ghost.frzVar 5 rfl rfl) ?_
   repeat' (first | apply WK.s | refine WK.cT rfl ?_ | (apply hQ.h; clear hQ hA) | (refine WK.R Tryz.ntmps7 ?_; intro A hA Q hQ; simp [*]) | (refine RunQ.k rfl rfl rfl rfl rfl ?_ (c) ?_ ?_ <;> simp (config := zd) [*] <;> refine ⟨?_⟩) | (refine WK.t Tryz.func7 ?_ ?_ <;> simp (config := zd) [Tryz.results7, *]))
 · have hi' : (i : Int) < L.length := by omega
   have hn : ¬ (i : Int) < 0 := by omega
   have q2 := link_get2 L i hi
   have q3 := link_get3 L i hi
   have r2 : i * 4 + 2 < L.length * 4 := by omega
   have r3 : i * 4 + 3 < L.length * 4 := by omega
   rw [if_neg hn, Int.toNat_natCast]
   refine FnP.i Tryz.func7 rfl rfl fun G w => ?_
   repeat apply WK.s
   refine WK.G 100 Tryz.ntmps7 ?_
   intro A hA Q hQ
   simp
   apply hQ
   clear hQ hA
   repeat apply WK.s
   refine WK.ghost (Ghost.frzVar 3 rfl rfl) ?_
   refine WK.ghost (Ghost.frzVar 4 rfl rfl) ?_
   refine WK.ghost (Ghost.frzVar 5 rfl rfl) ?_
   repeat' (first | apply WK.s | apply WK.k | refine WK.cF rfl ?_ | (refine hQ.h _ _ ?_; clear hQ hA) | (refine WK.R Tryz.ntmps7 ?_; intro A hA Q hQ; simp [*]) | (refine WK.X Tryz.ntmps7 ?_; intro A hA Q hQ; simp [*]) | (refine hQ.h _ _ _ (by decide +kernel) ?_; clear hQ hA) | (refine RunQ.k rfl rfl rfl rfl rfl ?_ (c) ?_ ?_ <;> simp (config := zd) [*] <;> refine ⟨?_⟩) | (refine WK.t Tryz.func7 ?_ ?_ <;> simp (config := zd) [Tryz.results7, *]))
set_option maxRecDepth 100000 in
theorem rlnext_c (n : Net) (at_ port : Int) (hl : n.links.length ≤ 1000000) : FnP Tryz.prog 8 [.agg n.enc, .int .i64 at_, .int .i64 port] (.tup (nTold n (nAt n at_ port))) := by
 have ct : ∀ x, FnP Tryz.prog 25 [.agg n.enc, .int .i64 x] (.bool (nThere n x)) := fun x => rlthere_c n x
 have hs := fun {i : Nat} => idxI_some (p := nIs n at_ port) (l := n.links) (i := i)
 have hno := idxI_none (p := nIs n at_ port) (l := n.links)
 have e : nAt n at_ port = idxI (nIs n at_ port) n.links := rfl
 have hIs : ∀ l, nIs n at_ port l = ((l.from_ == at_ && l.out == port) && nThere n l.to_) := fun _ => rfl
 rw [← e] at hno
 simp only [← e] at hs
 obtain ⟨P, hP⟩ : ∃ P, nAt n at_ port = P := ⟨_, rfl⟩
 rw [hP] at hno ⊢
 simp only [hP] at hs
 have e0 : n.enc = [swS n.sws, linkS n.links] := rfl
 rw [e0] at ct ⊢
 have hT : ∀ p : Int, nTold n p = if p < 0 then [.int .i64 0, .int .i64 0, .bool false] else [.int .i64 (nth n.links p.toNat).to_, .int .i64 (nth n.links p.toNat).inn, .bool true] := fun _ => rfl
 rw [hT]
 obtain ⟨Is, hIse⟩ : ∃ Is : Link → Bool, ∀ l, nIs n at_ port l = Is l := ⟨_, fun _ => rfl⟩
 obtain ⟨Th, hTh⟩ : ∃ Th : Int → Bool, ∀ x, nThere n x = Th x := ⟨_, fun _ => rfl⟩
 simp only [hIse] at hs hno hIs
 simp only [hTh] at ct hIs
 clear e hP e0 hT hIse hTh
 obtain ⟨S, L⟩ := n
 simp only at *
 unfold linkS at *
 obtain ⟨S, hS, hsc⟩ : ∃ s, swS S = s ∧ Cl s = true := ⟨_, rfl, swS_cl _⟩
 rw [hS] at ct ⊢
 clear hS
 refine FnP.i Tryz.func8 rfl rfl fun G w => ?_
 repeat' (first | apply WK.s | apply WK.b | (apply hQ.h; clear hQ hA) | (refine WK.R Tryz.ntmps8 ?_; intro A hA Q hQ; simp [*]))
 refine WK.L (fun n => n) (fun i : Nat => (⟨(upd (upd (upd (upd J 1 (.int .i64 at_)) 2 (.int .i64 port)) 3 (.ptr 0 0)) 9 (.int .i64 i)), (upd B0 0 (.var [S, .sl false L.length (linkL L)])), 0⟩ : St)) (fun i => i ≤ L.length ∧ ∀ j, j < i → Is (nth L j) = false) (fun i => L.length - i) (0) (by repeat (first | exact TmW.nil | refine TmW.upd ?_ (by simp (config := zd) [hsc]))) (by repeat (first | exact BxW.nil | refine BxW.upd ?_ (by simp (config := zd) [hsc]))) (⟨by omega, by simp⟩) (fun i hi IH => ?_)
 by_cases h1 : i < L.length
 · have h1' : (i : Int) < L.length := by omega
   have h6 : IntKind.i64.wrap ((i : Int) + 1) = i + 1 := wrap_i64 (by omega) (by omega)
   obtain ⟨h4, h3⟩ := link_load L i h1
   have hi2 := hi.2
   have hs' := hs (i := i) h1
   have hst : Is (nth L i) = false → ∀ j, j < i + 1 → Is (nth L j) = false := fun h j hj => by
     by_cases h7 : j = i
     · subst h7; exact h
     · exact hi2 j (by omega)
   have c := ct (nth L i).to_
   obtain ⟨x, hx⟩ : ∃ x, nth L i = x := ⟨_, rfl⟩
   have hPx : ((i : Int)).toNat = i := Int.toNat_natCast i
   rw [hx] at h4 hs' hst c
   rw [hIs] at hs' hst
   obtain ⟨b, hb⟩ : ∃ b, Th x.to_ = b := ⟨_, rfl⟩
   rw [hb] at c hs' hst
   clear hb hIs hs hno ct hi
   cases k1 : (x.from_ == at_)
   · have hst := hst (by rw [k1]; rfl)
     clear hs' c
     repeat' (first | apply WK.s | apply WK.b | apply WK.n | apply WK.k | refine WK.cT rfl ?_ | refine WK.cF rfl ?_ | (apply hQ.h; clear hQ hA) | (refine WK.R Tryz.ntmps8 ?_; intro A hA Q hQ; simp [Link.enc, *]) | (refine RunQ.g rfl (by rw [hA.h]; rfl) ?_; simp [Link.enc, *]))
     refine WK.N (fun n => n) (IH (i + 1) (⟨by omega, hst⟩) (by first | omega | (dsimp only; omega))) (by repeat (first | exact TmW.nil | refine TmW.upd ?_ (by simp (config := zd) [hsc]))) (by repeat (first | exact BxW.nil | refine BxW.upd ?_ (by simp (config := zd) [hsc])))
   cases k2 : (x.out == port)
   · have hst := hst (by rw [k1, k2]; rfl)
     clear hs' c
     repeat' (first | apply WK.s | apply WK.b | apply WK.n | apply WK.k | refine WK.cT rfl ?_ | refine WK.cF rfl ?_ | (apply hQ.h; clear hQ hA) | (refine WK.R Tryz.ntmps8 ?_; intro A hA Q hQ; simp [Link.enc, *]) | (refine RunQ.g rfl (by rw [hA.h]; rfl) ?_; simp [Link.enc, *]))
     refine WK.N (fun n => n) (IH (i + 1) (⟨by omega, hst⟩) (by first | omega | (dsimp only; omega))) (by repeat (first | exact TmW.nil | refine TmW.upd ?_ (by simp (config := zd) [hsc]))) (by repeat (first | exact BxW.nil | refine BxW.upd ?_ (by simp (config := zd) [hsc])))
   cases b
   · have hst := hst (by rw [k1, k2]; rfl)
     clear hs'
     repeat' (first | apply WK.s | apply WK.b | apply WK.n | apply WK.k | refine WK.cT rfl ?_ | refine WK.cF rfl ?_ | (apply hQ.h; clear hQ hA) | (refine WK.R Tryz.ntmps8 ?_; intro A hA Q hQ; simp [Link.enc, *]) | (refine RunQ.g rfl (by rw [hA.h]; rfl) ?_; simp [Link.enc, *]) | (refine RunQW.k rfl rfl rfl rfl ?_ (c) ?_ ?_ <;> simp (config := zd) [Link.enc, *] <;> refine ⟨?_⟩))
     refine WK.N (fun n => n) (IH (i + 1) (⟨by omega, hst⟩) (by first | omega | (dsimp only; omega))) (by repeat (first | exact TmW.nil | refine TmW.upd ?_ (by simp (config := zd) [hsc]))) (by repeat (first | exact BxW.nil | refine BxW.upd ?_ (by simp (config := zd) [hsc])))
   · have e := hs' (by rw [k1, k2]; rfl) hi2
     have hn : ¬ (i : Int) < 0 := by omega
     subst e
     rw [if_neg hn, hPx, hx]
     clear hs' hst IH hx hPx
     repeat' (first | apply WK.s | apply WK.b | apply WK.k | refine WK.cT rfl ?_ | (refine hQ.h _ _ ?_; clear hQ hA) | (refine WK.R Tryz.ntmps8 ?_; intro A hA Q hQ; simp [Link.enc, *]) | (refine WK.X Tryz.ntmps8 ?_; intro A hA Q hQ; simp [Link.enc, *]) | (refine hQ.h _ _ _ (by decide +kernel) ?_; clear hQ hA) | (refine RunQ.g rfl (by rw [hA.h]; rfl) ?_; simp [Link.enc, *]) | (refine RunQW.k rfl rfl rfl rfl ?_ (c) ?_ ?_ <;> simp (config := zd) [Link.enc, *] <;> refine ⟨?_⟩) | (refine WK.t Tryz.func8 ?_ ?_ <;> simp (config := zd) [Tryz.results8, Link.enc, *]))
 · have h1' : ¬ (i : Int) < L.length := by omega
   have e := hno (fun j hj => hi.2 j (by omega))
   subst e
   rw [if_pos (by omega)]
   clear hs hno ct hIs IH hi
   repeat' (first | apply WK.s | refine WK.exit rfl ?_ | refine WK.cF rfl ?_ | (apply hQ.h; clear hQ hA) | (refine WK.R Tryz.ntmps8 ?_; intro A hA Q hQ; simp [*]) | (refine WK.t Tryz.func8 ?_ ?_ <;> simp (config := zd) [Tryz.results8, *]))
end Go.Proofs.YtmhapglejjehbaaGreat

namespace Go.Proofs.YtmhapglejjehbaaGreat
open Go Go.AI Go.Proofs Go.Proofs.YtmhapglejjehbaaGreat
theorem rdGroup {w : World} {H : Type} {enc : TypeId × Value → H} {sp : Nat → Bool} {held : Bool} : Rd enc Tryz.prog w sp held 55 Group.enc := by
 intro fuel cs x h
 obtain ⟨hl, fuel', hf⟩ := trod_struct Tryz.underlying55 h
 simp only [cellsOf_sz, sz55] at hl
 simp only [List.mem_cons, List.not_mem_nil, or_false, forall_eq_or_imp, forall_eq, cellsOf_sz, sz3, sz53] at hf
 match cs, hl, hf with
 | [c0, c1, c2], _, ⟨⟨y0, h0⟩, ⟨y1, h1⟩, ⟨y2, h2⟩⟩ =>
   obtain ⟨n0, e0⟩ := rd_int Tryz.underlying3 h0
   obtain ⟨n1, e1⟩ := rd_int Tryz.underlying3 h1
   obtain ⟨l, u, e2, r2⟩ := rd_slice (s := 4) (f := Bucket.enc) Tryz.underlying53 (by kernel_rfl) (by omega) Bucket.len rdBucket h2
   simp at e0 e1 e2
   subst e0 e1 e2
   exact ⟨⟨n0, n1, l⟩, RelL.cons (by simp [Rel]) (RelL.cons (by simp [Rel]) (RelL.cons r2 RelL.nil)),
     (Ones.append (vs := [_, _]) (by simp [Ones, Value.oneCell']) (Ones.single (one_of_sl r2)))⟩
theorem rdFlowsRow {w : World} {H : Type} {enc : TypeId × Value → H} {sp : Nat → Bool} {held : Bool} : Rd enc Tryz.prog w sp held 43 (fun l : List Flow => [flowS l]) := by
 intro fuel cs x h
 obtain ⟨l, u, e, r⟩ := rd_slice (s := 7) (f := Flow.enc) Tryz.underlying43 (by kernel_rfl) (by omega) Flow.len rdFlow h
 subst e
 exact ⟨l, RelL.cons r RelL.nil, Ones.single (one_of_sl r)⟩
theorem rdSwitch {w : World} {H : Type} {enc : TypeId × Value → H} {sp : Nat → Bool} {held : Bool} : Rd enc Tryz.prog w sp held 46 Switch.enc := by
 intro fuel cs x h
 obtain ⟨hl, fuel', hf⟩ := trod_struct Tryz.underlying46 h
 simp only [cellsOf_sz, sz46] at hl
 simp only [List.mem_cons, List.not_mem_nil, or_false, forall_eq_or_imp, forall_eq, cellsOf_sz, sz44, sz31] at hf
 match cs, hl, hf with
 | [c0, c1, c2, c3, c4], _, ⟨⟨y0, h0⟩, ⟨y1, h1⟩⟩ =>
   obtain ⟨c, e1, e2⟩ := rd_array (s := 1) (f := fun l : List Flow => [flowS l]) Tryz.underlying44 (by kernel_rfl) (by kernel_rfl) (fun _ => rfl) rdFlowsRow h0
   obtain ⟨l, u, e3, r3⟩ := rd_slice (s := 3) (f := Group.enc) Tryz.underlying31 (by kernel_rfl) (by omega) Group.len rdGroup h1
   simp at e1 e2 e3
   subst e3
   refine ⟨⟨c, l⟩, ?_, ?_⟩
   · have e : encN 4 (fun l : List Flow => [flowS l]) c = [flowS (c 0), flowS (c 1), flowS (c 2), flowS (c 3)] := rfl
     rw [e] at e1
     exact e1.append (RelL.cons r3 RelL.nil)
   · exact Ones.append (vs := [_, _, _, _]) e2 (Ones.single (one_of_sl r3))
theorem rdLink {w : World} {H : Type} {enc : TypeId × Value → H} {sp : Nat → Bool} {held : Bool} : Rd enc Tryz.prog w sp held 39 Link.enc := by
 intro fuel cs x h
 obtain ⟨hl, fuel', hf⟩ := trod_struct Tryz.underlying39 h
 simp only [cellsOf_sz, sz39] at hl
 simp only [List.mem_cons, List.not_mem_nil, or_false, forall_eq_or_imp, forall_eq, cellsOf_sz, sz3] at hf
 match cs, hl, hf with
 | [c0, c1, c2, c3], _, ⟨⟨y0, h0⟩, ⟨y1, h1⟩, ⟨y2, h2⟩, ⟨y3, h3⟩⟩ =>
   obtain ⟨n0, e0⟩ := rd_int Tryz.underlying3 h0
   obtain ⟨n1, e1⟩ := rd_int Tryz.underlying3 h1
   obtain ⟨n2, e2⟩ := rd_int Tryz.underlying3 h2
   obtain ⟨n3, e3⟩ := rd_int Tryz.underlying3 h3
   simp at e0 e1 e2 e3
   subst e0 e1 e2 e3
   exact ⟨⟨n0, n1, n2, n3⟩, RelL.cons (by simp [Rel]) (RelL.cons (by simp [Rel]) (RelL.cons (by simp [Rel]) (RelL.cons (by simp [Rel]) RelL.nil))), by simp [Ones, Value.oneCell']⟩
theorem rdNet {w : World} {H : Type} {enc : TypeId × Value → H} {sp : Nat → Bool} {held : Bool} : Rd enc Tryz.prog w sp held 25 Net.enc := by
 intro fuel cs x h
 obtain ⟨hl, fuel', hf⟩ := trod_struct Tryz.underlying25 h
 simp only [cellsOf_sz, sz25] at hl
 simp only [List.mem_cons, List.not_mem_nil, or_false, forall_eq_or_imp, forall_eq, cellsOf_sz, sz22, sz23] at hf
 match cs, hl, hf with
 | [c0, c1], _, ⟨⟨y0, h0⟩, ⟨y1, h1⟩⟩ =>
   obtain ⟨l0, u0, e0, r0⟩ := rd_slice (s := 5) (f := Switch.enc) Tryz.underlying22 (by kernel_rfl) (by omega) Switch.len rdSwitch h0
   obtain ⟨l1, u1, e1, r1⟩ := rd_slice (s := 4) (f := Link.enc) Tryz.underlying23 (by kernel_rfl) (by omega) Link.len rdLink h1
   simp at e0 e1
   subst e0 e1
   exact ⟨⟨l0, l1⟩, RelL.cons r0 (RelL.cons r1 RelL.nil), Ones.append (vs := [_]) (Ones.single (one_of_sl r0)) (Ones.single (one_of_sl r1))⟩
theorem rdvNet : RdV Tryz.prog 25 (fun a => ∃ x, a = .agg (Net.enc x)) := rdV_agg (.inl ⟨_, Tryz.underlying25⟩) (fun _ _ _ => rdNet)
def zeroNet : Array Value := #[.slice none 0 0, .slice none 0 0]
end Go.Proofs.YtmhapglejjehbaaGreat
