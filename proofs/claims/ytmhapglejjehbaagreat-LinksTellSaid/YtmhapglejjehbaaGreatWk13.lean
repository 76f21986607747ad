/- Nets: the ports of a switch, the reference's. -/
import Derived.Test.YtmhapglejjehbaaGreatAf
import Derived.Test.YtmhapglejjehbaaGreatWk12
import Derived.Test.YtmhapglejjehbaaGreatAg
set_option linter.all false
set_option linter.unnecessarySimpa false
namespace Go.Proofs.YtmhapglejjehbaaGreat
open Go Go.AI Go.Proofs
attribute [local irreducible] FnP FnO FnB FnT WK RunQ RunQW RunX RunXW RunN
def insZ (out : List Int) (j : Nat) (y : Int) : List Int := out.take j ++ y :: out.drop j
theorem insZ_len {out : List Int} {j : Nat} (y : Int) (h : j ≤ out.length) : (insZ out j y).length = out.length + 1 := by
 unfold insZ; simp; omega
theorem insZ_nth {out : List Int} {q : Nat} (y : Int) (h : q < out.length) : nth (insZ out (q + 1) y) q = nth out q := by
 have h2 : q < (insZ out (q + 1) y).length := by rw [insZ_len y (by omega)]; omega
 rw [nth_eq h2, nth_eq h]
 simp only [insZ]
 rw [List.getElem_append_left (by simp; omega), List.getElem_take]
theorem insZ_put {out : List Int} {k : Nat} (y p : Int) (h : k ≤ out.length) : (insZ out k y).set k p = insZ out k p := by
 unfold insZ
 have e : (out.take k).length = k := by simp; omega
 rw [List.set_append_right _ _ (by omega), e, Nat.sub_self, List.set_cons_zero]
theorem insZ_set {out : List Int} {q : Nat} (y : Int) (h : q < out.length) : (insZ out (q + 1) y).set (q + 1) (nth out q) = insZ out q (nth out q) := by
 rw [insZ_put y _ (by omega)]
 unfold insZ
 rw [take_nth h, List.append_assoc, List.drop_eq_getElem_cons h, nth_eq h]
 rfl
theorem insZ_end (out : List Int) : insZ out out.length 0 = out ++ [0] := by unfold insZ; simp
set_option maxHeartbeats 8000000 in
set_option maxRecDepth 100000 in
theorem rlports_c (n : Net) (at_ : Int) (hl : n.links.length ≤ 1000000) : FnP Tryz.prog 16 [.agg n.enc, .int .i64 at_] (intS (nPorts n at_)) := by
 have e0 : n.enc = [swS n.sws, linkS n.links] := rfl
 unfold nPorts intS
 rw [e0]
 obtain ⟨S, L⟩ := n
 simp only at *
 obtain ⟨S, hS, hsc⟩ : ∃ s, swS S = s ∧ Cl s = true := ⟨_, rfl, swS_cl _⟩
 rw [hS]
 clear hS e0
 unfold linkS
 have hp0 : insAll (pOf [] at_) = [] := rfl
 refine FnP.i Tryz.func16 rfl rfl fun G w => ?_
 repeat' (first | apply WK.s | (apply hQ.h; clear hQ hA) | (refine WK.R (id := 0) Tryz.ntmps16 ?_; intro A hA Q hQ; simp [*]) | (refine WK.R (id := 1) Tryz.ntmps16 ?_; intro A hA Q hQ; simp [*]))
 refine WK.ghost (Ghost.own 5 900 1 rfl rfl) ?_
 repeat' (first | apply WK.b | (apply hQ.h; clear hQ hA) | (refine WK.R Tryz.ntmps16 ?_; intro A hA Q hQ; simp [*]))
 refine WK.L (fun n => if n = 1 then 900 else n) (fun i : Nat => (⟨(upd (upd (upd (upd J 1 (.int .i64 at_)) 2 (.ptr 0 0)) 5 (.msl 1 0 (insAll (pOf (L.take i) at_)).length)) 6 (.int .i64 i)), (upd (upd B0 0 (.var [S, .sl false L.length (linkL L)])) 1 (.buf 1 (intL (insAll (pOf (L.take i) at_))))), 0⟩ : St)) (fun i => i ≤ L.length) (fun i => L.length - i) (0) (by repeat (first | exact TmW.nil | refine TmW.upd ?_ (by simp (config := zd) [hp0, hsc]))) (by repeat (first | exact BxW.nil | refine BxW.upd ?_ (by simp (config := zd) [hp0, hsc]))) (by omega) (fun i hi IH => ?_)
 by_cases h1 : i < L.length
 · have h1' : (i : Int) < L.length := by omega
   have h6 : IntKind.i64.wrap ((i : Int) + 1) = i + 1 := wrap_i64 (by omega) (by omega)
   have q0 := link_get0 L i h1
   have q1 := link_get1 L i h1
   have r0 : i * 4 < L.length * 4 := by omega
   have r1 : i * 4 + 1 < L.length * 4 := by omega
   have hy := pOf_yes (at_ := at_) h1
   have hn := pOf_no (at_ := at_) h1
   have hll := Nat.le_trans (insAll_len (pOf (L.take i) at_)) (pOf_len (L.take i) at_)
   have hl2 : (L.take i).length ≤ 1000000 := by rw [List.length_take]; omega
   obtain ⟨x, hx⟩ : ∃ x, nth L i = x := ⟨_, rfl⟩
   rw [hx] at q0 q1 hy hn
   obtain ⟨ks, hks⟩ : ∃ ks, pOf (L.take i) at_ = ks := ⟨_, rfl⟩
   obtain ⟨ks', hks'⟩ : ∃ ks, pOf (L.take (i + 1)) at_ = ks := ⟨_, rfl⟩
   rw [hks, hks'] at hy hn
   rw [hks] at hll ⊢
   clear hx hks
   cases k1 : (x.from_ == at_)
   · have hn := hn k1
     have k2 : (x.from_ != at_) = true := by simp [bne, k1]
     have k3 : ¬ x.from_ = at_ := by simpa using k1
     clear hy
     repeat' (first | apply WK.s | apply WK.b | apply WK.k | refine WK.exit rfl ?_ | refine WK.cT rfl ?_ | (apply hQ.h; clear hQ hA) | (refine WK.R Tryz.ntmps16 ?_; intro A hA Q hQ; simp [*]))
     rw [hn] at hks'
     refine WK.N (fun n => n) (IH (i + 1) (by omega) (by first | omega | (dsimp only; omega))) (by repeat (first | exact TmW.nil | refine TmW.upd ?_ (by simp (config := zd) [hks', hsc]))) (by repeat (first | exact BxW.nil | refine BxW.upd ?_ (by simp (config := zd) [hks', hsc])))
   · have hy := hy k1
     have k2 : (x.from_ != at_) = false := by simp [bne, k1]
     have k3 : x.from_ = at_ := by simpa using k1
     clear hn
     have hin := insAll_snoc ks x.out
     rw [← hy] at hin
     have hat := insP_at (insAll ks) x.out
     obtain ⟨out, ho⟩ : ∃ out, insAll ks = out := ⟨_, rfl⟩
     rw [ho] at hin hat hll ⊢
     rw [← hks'] at hin
     clear ho hy hks'
     repeat' (first | apply WK.s | apply WK.b | apply WK.k | refine WK.cT rfl ?_ | refine WK.cF rfl ?_ | (apply hQ.h; clear hQ hA) | (refine WK.R Tryz.ntmps16 ?_; intro A hA Q hQ; simp [*]))
     refine WK.L (fun n => n) (fun k : Nat => (⟨(upd (upd (upd (upd (upd (upd J 1 (.int .i64 at_)) 2 (.ptr 0 0)) 5 (.msl 1 0 out.length)) 6 (.int .i64 i)) 7 (.int .i64 x.out)) 8 (.int .i64 k)), (upd (upd B0 0 (.var [S, .sl false L.length (linkL L)])) 1 (.buf 1 (intL out))), 0⟩ : St)) (fun k => k ≤ out.length ∧ ∀ j, j < k → nth out j < x.out) (fun k => out.length - k) (0) (by repeat (first | exact TmW.nil | refine TmW.upd ?_ (by simp (config := zd) [hsc]))) (by repeat (first | exact BxW.nil | refine BxW.upd ?_ (by simp (config := zd) [hsc]))) (⟨by omega, by simp⟩) (fun k hk IHk => ?_)
     by_cases g1 : k < out.length ∧ nth out k < x.out
     · obtain ⟨g1, g2⟩ := g1
       have g1' : (k : Int) < out.length := by omega
       have g6 : IntKind.i64.wrap ((k : Int) + 1) = k + 1 := wrap_i64 (by omega) (by omega)
       have gg := intL_get' out k g1
       have hk2 := hk.2
       clear hat hin IH hi
       repeat' (first | apply WK.s | apply WK.b | apply WK.n | apply WK.k | refine WK.cT rfl ?_ | (apply hQ.h; clear hQ hA) | (refine WK.R Tryz.ntmps16 ?_; intro A hA Q hQ; simp [*]) | (refine RunQ.g rfl (by rw [hA.h]; rfl) ?_; simp [*]))
       refine WK.N (fun n => n) (IHk (k + 1) (⟨by omega, fun j hj => by by_cases h7 : j = k; (subst h7; exact g2); exact hk2 j (by omega)⟩) (by first | omega | (dsimp only; omega))) (by repeat (first | exact TmW.nil | refine TmW.upd ?_ (by simp (config := zd) [hsc]))) (by repeat (first | exact BxW.nil | refine BxW.upd ?_ (by simp (config := zd) [hsc])))
     · have hat := hat k hk.1 hk.2 (fun h => by
         rcases Int.lt_or_le (nth out k) x.out with h2 | h2
         · exact absurd ⟨h, h2⟩ g1
         · exact h2)
       have hap : intL out ++ [AV.int .i64 0] = intL (out ++ [0]) := by simp [intL]
       have hb : (out.length + 1) * 8 ≤ 140737488355328 := by omega
       have g1a : ∀ h : k < out.length, ¬ nth out k < x.out := fun h h2 => g1 ⟨h, h2⟩
       clear IHk g1
       repeat apply WK.s
       apply WK.cutI (fun _ : Unit => (⟨(upd (upd (upd (upd (upd (upd J 1 (.int .i64 at_)) 2 (.ptr 0 0)) 5 (.msl 1 0 (out.length + 1))) 6 (.int .i64 i)) 7 (.int .i64 x.out)) 8 (.int .i64 k)), (upd (upd B0 0 (.var [S, .sl false L.length (linkL L)])) 1 (.buf 1 (intL (out ++ [0])))), 0⟩ : St)) (fun _ => insP out x.out = insZ out k x.out)
       · intro hcut
         by_cases g2 : k < out.length
         · have g2' : (k : Int) < out.length := by omega
           have g3 : ¬ nth out k < x.out := g1a g2
           have gg := intL_get' out k g2
           by_cases g4 : nth out k = x.out
           · rw [if_pos ⟨g2, g4⟩] at hat
             rw [hat] at hin
             repeat' (first | apply WK.s | refine WK.exit rfl ?_ | refine WK.cT rfl ?_ | refine WK.cF rfl ?_ | (apply hQ.h; clear hQ hA) | (refine WK.R Tryz.ntmps16 ?_; intro A hA Q hQ; simp [*]) | (refine RunQ.g rfl (by rw [hA.h]; rfl) ?_; simp [*]))
             refine WK.N (fun n => n) (IH (i + 1) (by omega) (by first | omega | (dsimp only; omega))) (by repeat (first | exact TmW.nil | refine TmW.upd ?_ (by simp (config := zd) [hin, hsc]))) (by repeat (first | exact BxW.nil | refine BxW.upd ?_ (by simp (config := zd) [hin, hsc])))
           · rw [if_neg (fun h => g4 h.2)] at hat
             repeat' (first | apply WK.s | apply WK.k | refine WK.exit rfl ?_ | refine WK.cF rfl ?_ | (apply hQ.h; clear hQ hA) | (refine WK.c2 rfl (fun h => ?_) (fun h => ?_) <;> (first | (simp [*] at h; done) | (have h2 := h; simp at h2; exfalso; omega) | (have h2 := h; simp at h2; try simp only [Bool.not_eq_true', Bool.not_eq_false'] at h) | skip)) | (refine WK.R (id := 0) Tryz.ntmps16 ?_; intro A hA Q hQ; simp [*]) | (refine WK.R (id := 1) Tryz.ntmps16 ?_; intro A hA Q hQ; simp [*]) | (refine WK.R (id := 2) Tryz.ntmps16 ?_; intro A hA Q hQ; simp [*]) | (refine WK.R (id := 3) Tryz.ntmps16 ?_; intro A hA Q hQ; simp [*]) | (refine WK.R (id := 4) Tryz.ntmps16 ?_; intro A hA Q hQ; simp [*]) | (refine WK.R (id := 5) Tryz.ntmps16 ?_; intro A hA Q hQ; simp [*]) | (refine WK.R (id := 6) Tryz.ntmps16 ?_; intro A hA Q hQ; simp [*]) | (refine WK.R (id := 7) Tryz.ntmps16 ?_; intro A hA Q hQ; simp [*]) | (refine WK.R (id := 8) Tryz.ntmps16 ?_; intro A hA Q hQ; simp [*]) | (refine WK.R (id := 9) Tryz.ntmps16 ?_; intro A hA Q hQ; simp [*]) | (refine WK.R (id := 10) Tryz.ntmps16 ?_; intro A hA Q hQ; simp [*]) | (refine RunQ.g rfl (by rw [hA.h]; rfl) ?_; simp [*]) | (refine RunQ.append 901 appInt rfl rfl rfl rfl rfl rfl rfl rfl rfl ?_ ?_ ?_ ?_ ?_; (focus first | omega | simp [*]; done); (focus first | omega | simp [*]; done); (focus first | omega | simp [*]; done); (focus first | omega | simp [*]; done); refine RunQ.evalH ?_; simp [*]))
             refine WK.N (fun n => if n = 1 then 901 else n) (hcut (()) (hat)) (by repeat (first | exact TmW.nil | refine TmW.upd ?_ (by simp (config := zd) [hap, hsc]))) (by repeat (first | exact BxW.nil | refine BxW.upd ?_ (by simp (config := zd) [hap, hsc])))
         · have g2' : ¬ (k : Int) < out.length := by omega
           rw [if_neg (fun h => g2 h.1)] at hat
           repeat' (first | apply WK.s | apply WK.k | refine WK.exit rfl ?_ | refine WK.cF rfl ?_ | (apply hQ.h; clear hQ hA) | (refine WK.R (id := 0) Tryz.ntmps16 ?_; intro A hA Q hQ; simp [*]) | (refine WK.R (id := 1) Tryz.ntmps16 ?_; intro A hA Q hQ; simp [*]) | (refine WK.R (id := 2) Tryz.ntmps16 ?_; intro A hA Q hQ; simp [*]) | (refine WK.R (id := 3) Tryz.ntmps16 ?_; intro A hA Q hQ; simp [*]) | (refine WK.R (id := 4) Tryz.ntmps16 ?_; intro A hA Q hQ; simp [*]) | (refine WK.R (id := 5) Tryz.ntmps16 ?_; intro A hA Q hQ; simp [*]) | (refine WK.R (id := 6) Tryz.ntmps16 ?_; intro A hA Q hQ; simp [*]) | (refine WK.R (id := 7) Tryz.ntmps16 ?_; intro A hA Q hQ; simp [*]) | (refine WK.R (id := 8) Tryz.ntmps16 ?_; intro A hA Q hQ; simp [*]) | (refine WK.R (id := 9) Tryz.ntmps16 ?_; intro A hA Q hQ; simp [*]) | (refine WK.R (id := 10) Tryz.ntmps16 ?_; intro A hA Q hQ; simp [*]) | (refine RunQ.g rfl (by rw [hA.h]; rfl) ?_; simp [*]) | (refine RunQ.append 901 appInt rfl rfl rfl rfl rfl rfl rfl rfl rfl ?_ ?_ ?_ ?_ ?_; (focus first | omega | simp [*]; done); (focus first | omega | simp [*]; done); (focus first | omega | simp [*]; done); (focus first | omega | simp [*]; done); refine RunQ.evalH ?_; simp [*]))
           refine WK.N (fun n => if n = 1 then 901 else n) (hcut (()) (hat)) (by repeat (first | exact TmW.nil | refine TmW.upd ?_ (by simp (config := zd) [hap, hsc]))) (by repeat (first | exact BxW.nil | refine BxW.upd ?_ (by simp (config := zd) [hap, hsc])))
       · intro _ hu
         rw [hu] at hin
         have hkl : k ≤ out.length := hk.1
         have hz := insZ_end out
         have w1 : IntKind.i64.wrap ((out.length : Int) + 1 - 1) = out.length := by rw [show (out.length : Int) + 1 - 1 = out.length by omega]; exact wrap_i64 (by omega) (by omega)
         have w3 : IntKind.i64.wrap (out.length : Int) = out.length := wrap_i64 (by omega) (by omega)
         repeat' (first | apply WK.b | (apply hQ.h; clear hQ hA) | (refine WK.R Tryz.ntmps16 ?_; intro A hA Q hQ; simp [*]))
         refine WK.L (fun n => n) (fun z : Nat × Int => (⟨(upd (upd (upd (upd (upd (upd (upd J 1 (.int .i64 at_)) 2 (.ptr 0 0)) 5 (.msl 1 0 (out.length + 1))) 6 (.int .i64 i)) 7 (.int .i64 x.out)) 8 (.int .i64 k)) 9 (.int .i64 z.1)), (upd (upd B0 0 (.var [S, .sl false L.length (linkL L)])) 1 (.buf 1 (intL (insZ out z.1 z.2)))), 0⟩ : St)) (fun z => k ≤ z.1 ∧ z.1 ≤ out.length) (fun z => z.1) ((out.length, 0)) (by repeat (first | exact TmW.nil | refine TmW.upd ?_ (by simp (config := zd) [hsc, hz, w1, w3]))) (by repeat (first | exact BxW.nil | refine BxW.upd ?_ (by simp (config := zd) [hsc, hz, w1, w3]))) (⟨hkl, Nat.le_refl _⟩) (fun z hz IHz => ?_)
         obtain ⟨j, y⟩ := z
         simp only at hz ⊢
         obtain ⟨z1, z2⟩ := hz
         by_cases g1 : k < j
         · obtain ⟨q, rfl⟩ : ∃ q, j = q + 1 := ⟨j - 1, by omega⟩
           have g1' : (k : Int) < (q : Int) + 1 := by omega
           have w2 : IntKind.i64.wrap ((q : Int) + 1 - 1) = q := by rw [show (q : Int) + 1 - 1 = q by omega]; exact wrap_i64 (by omega) (by omega)
           have w4 : IntKind.i64.wrap (q : Int) = q := wrap_i64 (by omega) (by omega)
           have gn := insZ_nth (out := out) (q := q) y (by omega)
           have gs := insZ_set (out := out) (q := q) y (by omega)
           have gl := insZ_len (out := out) (j := q + 1) y (by omega)
           have gg := intL_get' (insZ out (q + 1) y) q (by omega)
           have gq := intL_get (insZ out (q + 1) y) q (by omega)
           have gst := int_set (insZ out (q + 1) y) (q + 1) (nth out q) (by omega)
           rw [gs] at gst
           rw [gn] at gg gq
           have b1 : (q : Int) + 1 < (out.length : Int) + 1 := by omega
           have b2 : (q : Int) < (out.length : Int) + 1 := by omega
           have b3 : q + 1 + 1 ≤ out.length + 1 := by omega
           obtain ⟨Z, hZ⟩ : ∃ Z, insZ out (q + 1) y = Z := ⟨_, rfl⟩
           rw [hZ] at gl gg gq gst ⊢
           clear hZ gn gs
           repeat' (first | apply WK.s | apply WK.b | apply WK.n | apply WK.k | refine WK.cT rfl ?_ | (apply hQ.h; clear hQ hA) | (refine WK.R Tryz.ntmps16 ?_; intro A hA Q hQ; simp [*]))
           refine WK.N (fun n => n) (IHz ((q, nth out q)) (⟨by simp only; omega, by simp only; omega⟩) (by first | omega | (dsimp only; omega))) (by repeat (first | exact TmW.nil | refine TmW.upd ?_ (by simp (config := zd) [hsc]))) (by repeat (first | exact BxW.nil | refine BxW.upd ?_ (by simp (config := zd) [hsc])))
         · have hkj : j = k := by omega
           subst hkj
           have g1' : ¬ (j : Int) < j := by omega
           have gs := insZ_put (out := out) (k := j) y x.out hkl
           have gl := insZ_len (out := out) (j := j) y hkl
           have gst := int_set (insZ out j y) j x.out (by omega)
           rw [gs] at gst
           have b1 : (j : Int) < (out.length : Int) + 1 := by omega
           have b3 : j + 1 ≤ out.length + 1 := by omega
           have gl2 := insZ_len (out := out) (j := j) x.out hkl
           obtain ⟨Z, hZ⟩ : ∃ Z, insZ out j y = Z := ⟨_, rfl⟩
           rw [hZ] at gl gst ⊢
           clear hZ gs
           repeat' (first | apply WK.s | apply WK.n | refine WK.exit rfl ?_ | refine WK.cF rfl ?_ | (apply hQ.h; clear hQ hA) | (refine WK.R Tryz.ntmps16 ?_; intro A hA Q hQ; simp [*]))
           refine WK.N (fun n => n) (IH (i + 1) (by omega) (by first | omega | (dsimp only; omega))) (by repeat (first | exact TmW.nil | refine TmW.upd ?_ (by simp (config := zd) [gl2, hin, hsc]))) (by repeat (first | exact BxW.nil | refine BxW.upd ?_ (by simp (config := zd) [gl2, hin, hsc])))
 · have hil : i = L.length := by omega
   have h1' : ¬ (i : Int) < L.length := by omega
   subst hil
   rw [List.take_length]
   clear IH hi hp0
   obtain ⟨R, hR⟩ : ∃ R, insAll (pOf L at_) = R := ⟨_, rfl⟩
   have hbig : R.length ≤ 1000000 := by rw [← hR]; exact Nat.le_trans (insAll_len _) (Nat.le_trans (pOf_len _ _) hl)
   rw [hR]
   clear hR
   repeat' (first | apply WK.s | refine WK.exit rfl ?_ | refine WK.cF rfl ?_ | (apply hQ.h; clear hQ hA) | (refine WK.R Tryz.ntmps16 ?_; intro A hA Q hQ; simp [*]))
   have hft : (intL R).take R.length = intL R := List.take_of_length_le (by simp)
   refine WK.ghost (Ghost.frzSl 4 1 rfl rfl) ?_
   repeat' (first | (refine WK.t Tryz.func16 ?_ ?_ <;> simp (config := zd) [Tryz.results16, *]))

theorem app_sw : AppOk Tryz.prog 22 46 5 120 := ⟨by simp, by simp, by simp, by simp, by simp, by simp, by omega, by omega⟩
def nFew (n : Net) : Bool := decide (n.sws.length ≤ 4) && (decide (n.links.length ≤ 30) && n.sws.all fun s => swPlain s 6)
theorem few1_c (s : Switch) : FnP Tryz.prog 20 [.agg s.enc] (.bool (!swPlain s 6)) := by
 have c := pswitch_c s 6 (by omega)
 obtain ⟨b, hb⟩ : ∃ b, swPlain s 6 = b := ⟨_, rfl⟩
 rw [hb] at c ⊢
 have hcl := Switch.cl s
 have hl := Switch.len s
 obtain ⟨S, hS⟩ : ∃ S, s.enc = S := ⟨_, rfl⟩
 rw [hS] at c hcl hl ⊢
 have ht : S.take 5 = S := List.take_of_length_le (by omega)
 clear hb hS
 refine FnP.i Tryz.func20 rfl rfl fun G w => ?_
 repeat' (first | apply WK.s | (apply hQ.h; clear hQ hA) | (refine WK.R Tryz.ntmps20 ?_; intro A hA Q hQ; simp [*]) | (refine RunQ.k rfl rfl rfl rfl rfl ?_ (c) ?_ ?_ <;> simp (config := zd) [*] <;> refine ⟨?_⟩) | (refine WK.t Tryz.func20 ?_ ?_ <;> simp (config := zd) [Tryz.results20, *]))
theorem few_c (n : Net) : FnP Tryz.prog 5 [.agg n.enc] (.bool (nFew n)) := by
 have e0 : n.enc = [.sl false n.sws.length (swL n.sws), .sl false n.links.length (linkL n.links)] := rfl
 rw [e0]
 unfold nFew
 by_cases h1 : (n.sws.length : Int) ≤ 4
 · have h1' : n.sws.length ≤ 4 := by omega
   by_cases h2 : (n.links.length : Int) ≤ 30
   · have h2' : n.links.length ≤ 30 := by omega
     have cs := containsf_sw 20 [] (fun s => !swPlain s 6) n.sws (by simp) (by omega) (fun x hx => few1_c x)
     rw [any_not_all] at cs
     unfold swS at cs
     rw [decide_eq_true h1', decide_eq_true h2']
     obtain ⟨b2, h3⟩ : ∃ b, (n.sws.all fun s => swPlain s 6) = b := ⟨_, rfl⟩
     rw [h3] at cs ⊢
     clear h3 e0
     refine FnP.i Tryz.func5 rfl rfl fun G w => ?_
     repeat' (first | apply WK.s | (apply hQ.h; clear hQ hA) | (refine WK.R Tryz.ntmps5 ?_; intro A hA Q hQ; simp [*]) | (refine RunQ.g rfl (by rw [hA.h]; rfl) ?_; simp [*]) | (refine RunQW.k rfl rfl rfl rfl ?_ (cs) ?_ ?_ <;> simp (config := zd) [*] <;> refine ⟨?_⟩) | (refine WK.t Tryz.func5 ?_ ?_ <;> simp (config := zd) [Tryz.results5, *]))
   · have h2' : ¬ n.links.length ≤ 30 := by omega
     rw [decide_eq_true h1', decide_eq_false h2']
     clear e0
     refine FnP.i Tryz.func5 rfl rfl fun G w => ?_
     repeat' (first | apply WK.s | (apply hQ.h; clear hQ hA) | (refine WK.R Tryz.ntmps5 ?_; intro A hA Q hQ; simp [*]) | (refine RunQ.g rfl (by rw [hA.h]; rfl) ?_; simp [*]) | (refine WK.t Tryz.func5 ?_ ?_ <;> simp (config := zd) [Tryz.results5, *]))
 · have h1' : ¬ n.sws.length ≤ 4 := by omega
   rw [decide_eq_false h1']
   clear e0
   refine FnP.i Tryz.func5 rfl rfl fun G w => ?_
   repeat' (first | apply WK.s | (apply hQ.h; clear hQ hA) | (refine WK.R Tryz.ntmps5 ?_; intro A hA Q hQ; simp [*]) | (refine RunQ.g rfl (by rw [hA.h]; rfl) ?_; simp [*]) | (refine WK.t Tryz.func5 ?_ ?_ <;> simp (config := zd) [Tryz.results5, *]))
def net0 : Net := ⟨[sw0, sw0], [⟨0, 3, 1, 4⟩]⟩
def net1 : Net := ⟨[⟨fun _ => [], [gr0, gr0]⟩], []⟩
theorem sw0_B (gs : List Group) (h : gs.length ≤ 9) (hg : ∀ g, g ∈ gs → g = gr0) : SwB ⟨fun _ => [], gs⟩ := swPlain_ok (n := 6) (by decide) (by
 unfold swPlain groupsPlain
 rw [Bool.and_eq_true, Bool.and_eq_true, List.all_eq_true, List.all_eq_true]
 exact ⟨fun t _ => by show flowsPlain [] 6 = true; decide, by simp; omega, fun g hx => by rw [hg g hx]; decide⟩) (fun _ _ => rfl)
set_option maxRecDepth 100000 in
theorem awake47_c : FnP Tryz.prog 6 [] (.bool true) := by
 have hB0 : ∀ s, s ∈ net0.sws → SwB s := fun s hs => by
   have : s = sw0 := by simp [net0] at hs; exact hs
   rw [this]; exact sw0_B [] (by decide) (by simp)
 have hB1 : ∀ s, s ∈ net1.sws → s.groups.length ≤ 1000 ∧ ∀ g, g ∈ s.groups → GrB g := fun s hs => by
   have : s = ⟨fun _ => [], [gr0, gr0]⟩ := by simp [net1] at hs; exact hs
   rw [this]; exact ⟨by simp, fun g hg => by have := sw0_B [gr0, gr0] (by decide) (by simp); exact this.gr g hg⟩
 have c1 := lnext_c net0 0 3 (by decide)
 have c2 := lright_c net0 (by decide) (by decide) hB0
 have c3 := lports_c net0 0 (by decide)
 have c4 := lgroups_c net1 (by decide) hB1
 have c5 := iequal_c [3] [3] (by decide)
 have e1 : nTold net0 (nAt net0 0 3) = [.int .i64 1, .int .i64 4, .bool true] := by kernel_rfl
 have e2 : nRight net0 = true := by kernel_rfl
 have e3 : intS (nPorts net0 0) = .sl false 1 [.int .i64 3] := by kernel_rfl
 have e4 : grpS (nGroups net1.sws) = .sl false 2 [.int .i64 0, .int .i64 0, .sl false 0 [], .int .i64 0, .int .i64 0, .sl false 0 []] := by kernel_rfl
 have e5 : eqBy (fun x y => x == y) [(3 : Int)] [3] = true := by kernel_rfl
 have e6 : intS [3] = .sl false 1 [.int .i64 3] := rfl
 have e7 : net0.enc = [.sl false 2 [.sl false 0 [], .sl false 0 [], .sl false 0 [], .sl false 0 [], .sl false 0 [], .sl false 0 [], .sl false 0 [], .sl false 0 [], .sl false 0 [], .sl false 0 []], .sl false 1 [.int .i64 0, .int .i64 3, .int .i64 1, .int .i64 4]] := by kernel_rfl
 have e8 : net1.enc = [.sl false 1 [.sl false 0 [], .sl false 0 [], .sl false 0 [], .sl false 0 [], .sl false 2 [.int .i64 0, .int .i64 0, .sl false 0 [], .int .i64 0, .int .i64 0, .sl false 0 []]], .sl false 0 []] := by kernel_rfl
 rw [e1, e7] at c1
 rw [e2, e7] at c2
 rw [e3, e7] at c3
 rw [e4, e8] at c4
 rw [e5, e6] at c5
 clear e1 e2 e3 e4 e5 e6 e7 e8 hB0 hB1
 refine FnP.i Tryz.func6 rfl rfl fun G w => ?_
 repeat' (first | apply WK.s | (apply hQ.h; clear hQ hA) | (refine WK.R Tryz.ntmps6 ?_; intro A hA Q hQ; simp [*]) | (refine RunQ.g rfl (by rw [hA.h]; rfl) ?_; simp [*]) | (refine RunQ.makeFz (n := 2) (c := 2) (k := .i64) (k' := .i64) 900 app_sw rfl rfl rfl ?_ ?_ (by omega) (by omega) ?_ ?_; (focus simp (config := zd) [*]; done); (focus simp (config := zd) [*]; done); (focus simp [*]; done); refine RunQ.evalH ?_; simp [*]) | (refine RunQW.by (fun hw => ?_); refine RunQ.makeFz (n := 2) (c := 2) (k := .i64) (k' := .i64) 901 app_grp rfl hw rfl ?_ ?_ (by omega) (by omega) ?_ ?_; (focus simp (config := zd) [*]; done); (focus simp (config := zd) [*]; done); (focus simp [*]; done); clear hw; refine RunQ.evalH ?_; simp [*]) | (refine RunQ.k rfl rfl rfl rfl rfl ?_ (c1) ?_ ?_ <;> simp (config := zd) [*] <;> refine ⟨?_⟩) | (refine RunQ.k rfl rfl rfl rfl rfl ?_ (c2) ?_ ?_ <;> simp (config := zd) [*] <;> refine ⟨?_⟩) | (refine RunQ.k rfl rfl rfl rfl rfl ?_ (c3) ?_ ?_ <;> simp (config := zd) [*] <;> refine ⟨?_⟩) | (refine RunQ.k rfl rfl rfl rfl rfl ?_ (c4) ?_ ?_ <;> simp (config := zd) [*] <;> refine ⟨?_⟩) | (refine RunQ.k rfl rfl rfl rfl rfl ?_ (c5) ?_ ?_ <;> simp (config := zd) [*] <;> refine ⟨?_⟩) | (refine RunQW.k rfl rfl rfl rfl ?_ (c1) ?_ ?_ <;> simp (config := zd) [*] <;> refine ⟨?_⟩) | (refine RunQW.k rfl rfl rfl rfl ?_ (c2) ?_ ?_ <;> simp (config := zd) [*] <;> refine ⟨?_⟩) | (refine RunQW.k rfl rfl rfl rfl ?_ (c3) ?_ ?_ <;> simp (config := zd) [*] <;> refine ⟨?_⟩) | (refine RunQW.k rfl rfl rfl rfl ?_ (c4) ?_ ?_ <;> simp (config := zd) [*] <;> refine ⟨?_⟩) | (refine RunQW.k rfl rfl rfl rfl ?_ (c5) ?_ ?_ <;> simp (config := zd) [*] <;> refine ⟨?_⟩) | (refine WK.t Tryz.func6 ?_ ?_ <;> simp (config := zd) [Tryz.results6, *]))
end Go.Proofs.YtmhapglejjehbaaGreat

section
namespace Go.Proofs.YtmhapglejjehbaaGreat
open Go Go.AI Go.Proofs
section
variable {n : Net} {L : List Link}
theorem nTold_ok (at_ port : Int) : ∃ a b, nTold n (nAt n at_ port) = [.int .i64 a, .int .i64 b, .bool (n.links.any (nIs n at_ port))] := by
 have hg := idxI_ge (nIs n at_ port) n.links
 have e2 : nAt n at_ port = idxI (nIs n at_ port) n.links := rfl
 unfold nTold
 rw [e2, ← hg]
 by_cases h : idxI (nIs n at_ port) n.links < 0
 · rw [if_pos h]; exact ⟨0, 0, by simp only [ge_iff_le]; rw [decide_eq_false (by omega)]⟩
 · rw [if_neg h]; exact ⟨_, _, by simp only [ge_iff_le]; rw [decide_eq_true (by omega)]⟩
end
end Go.Proofs.YtmhapglejjehbaaGreat
end

namespace Go.Proofs.YtmhapglejjehbaaGreat
open Go Go.AI Go.Proofs
attribute [local irreducible] FnP FnO FnB FnT WK RunQ RunQW RunX RunXW RunN
def Net.cutN (n : Net) : Net := ⟨n.sws.map Switch.cut, n.links⟩
theorem Net.cutN_enc (n : Net) : n.cutN.enc = n.enc := by
 unfold Net.enc Net.cutN swS swL
 simp only [List.length_map, List.flatMap_map]
 rfl
theorem Net.cutN_tab {n : Net} {s : Switch} (h : s ∈ n.cutN.sws) (t : Nat) (ht : 4 ≤ t) : s.tab t = [] := by
 unfold Net.cutN at h
 rw [List.mem_map] at h
 obtain ⟨s', _, rfl⟩ := h
 exact Switch.cut_tab ht
theorem few_ok {n : Net} (hc : ∀ s, s ∈ n.sws → ∀ t, 4 ≤ t → s.tab t = []) (h : nFew n = true) : n.sws.length ≤ 4 ∧ n.links.length ≤ 30 ∧ (∀ s, s ∈ n.sws → SwB s) ∧ ∀ s, s ∈ n.sws → s.groups.length ≤ 9 := by
 unfold nFew at h
 simp only [Bool.and_eq_true, decide_eq_true_eq, List.all_eq_true] at h
 refine ⟨h.1, h.2.1, fun s hs => swPlain_ok (by omega) (h.2.2 s hs) (hc s hs), fun s hs => ?_⟩
 have := h.2.2 s hs
 unfold swPlain groupsPlain at this
 simp only [Bool.and_eq_true, decide_eq_true_eq] at this
 have := this.2.1
 omega
theorem grpSame_self (g : Group) : Group.same g g = true := by unfold Group.same; simp [eqBy_refl bkSame_self]
set_option maxRecDepth 100000 in
theorem linksTell_c0 (n : Net) (at_ port : Int) (hc : ∀ s, s ∈ n.sws → ∀ t, 4 ≤ t → s.tab t = []) : FnP Tryz.prog 3 [.agg n.enc, .int .i64 at_, .int .i64 port] (.bool true) := by
 have fw := few_c n
 have ok := few_ok hc
 have aw := awake47_c
 obtain ⟨B, hB⟩ : ∃ B, nFew n = B := ⟨_, rfl⟩
 rw [hB] at fw ok
 cases B with
 | false =>
   have e0 : n.enc = [swS n.sws, linkS n.links] := rfl
   obtain ⟨X, hX, c1⟩ : ∃ S, swS n.sws = S ∧ Cl S = true := ⟨_, rfl, swS_cl _⟩
   obtain ⟨Y, hY, c2⟩ : ∃ S, linkS n.links = S ∧ Cl S = true := ⟨_, rfl, linkS_cl _⟩
   rw [e0, hX, hY] at fw ⊢
   clear ok hB hX hY e0 hc
   refine FnP.i Tryz.func3 rfl rfl fun G w => ?_
   repeat' (first | apply WK.s | refine WK.cT rfl ?_ | (apply hQ.h; clear hQ hA) | (refine WK.R Tryz.ntmps3 ?_; intro A hA Q hQ; simp [*]) | (refine RunQ.k rfl rfl rfl rfl rfl ?_ (fw) ?_ ?_ <;> simp (config := zd) [*] <;> refine ⟨?_⟩) | (refine RunQ.k rfl rfl rfl rfl rfl ?_ (aw) ?_ ?_ <;> simp (config := zd) [*] <;> refine ⟨?_⟩) | (refine WK.t Tryz.func3 ?_ ?_ <;> simp (config := zd) [Tryz.results3, *]))
 | true =>
   obtain ⟨o1, o2, o3, o4⟩ := ok rfl
   have d1 := lnext_c n at_ port (by omega)
   have d2 := rlnext_c n at_ port (by omega)
   have d3 := lright_c n (by omega) (by omega) o3
   have d4 := rlright_c n (by omega) (by omega) o3
   have d5 := lgroups_c n (by omega) (fun s hs => ⟨by have := o4 s hs; omega, (o3 s hs).gr⟩)
   have d6 := rlgroups_c n (by omega) (fun s hs => by have := o4 s hs; omega)
   have hgl := nGroups_le n.sws 9 o4
   have d7 := rgsameL_c (nGroups n.sws) (nGroups n.sws) (by omega) (fun g hg => by
     unfold nGroups at hg
     rw [List.mem_flatMap] at hg
     obtain ⟨s, hs, hg⟩ := hg
     exact (o3 s hs).gr g hg)
   rw [eqBy_refl grpSame_self] at d7
   have d8 := lports_c n at_ (by omega)
   have d9 := rlports_c n at_ (by omega)
   have hpl : (nPorts n at_).length ≤ 1000000 := Nat.le_trans (insAll_len _) (Nat.le_trans (pOf_len _ _) (by omega))
   have d10 := iequal_c (nPorts n at_) (nPorts n at_) hpl
   rw [eqBy_self] at d10
   obtain ⟨a, b, ht⟩ := nTold_ok (n := n) at_ port
   obtain ⟨q, hq⟩ : ∃ q, n.links.any (nIs n at_ port) = q := ⟨_, rfl⟩
   rw [hq] at ht
   rw [ht] at d1 d2
   obtain ⟨R, hR⟩ : ∃ R, nRight n = R := ⟨_, rfl⟩
   rw [hR] at d3 d4
   obtain ⟨Gv, hG, k1⟩ : ∃ S, grpS (nGroups n.sws) = S ∧ Cl S = true := ⟨_, rfl, grpS_cl _⟩
   rw [hG] at d5 d6 d7
   obtain ⟨Pv, hP, k2⟩ : ∃ S, intS (nPorts n at_) = S ∧ Cl S = true := ⟨_, rfl, by simp [intS, Cl]⟩
   rw [hP] at d8 d9 d10
   have e0 : n.enc = [swS n.sws, linkS n.links] := rfl
   obtain ⟨X, hX, c1⟩ : ∃ S, swS n.sws = S ∧ Cl S = true := ⟨_, rfl, swS_cl _⟩
   obtain ⟨Y, hY, c2⟩ : ∃ S, linkS n.links = S ∧ Cl S = true := ⟨_, rfl, linkS_cl _⟩
   rw [e0, hX, hY] at fw d1 d2 d3 d4 d5 d6 d8 d9 ⊢
   clear ok hB hX hY e0 hc hP hG hR hq ht hpl hgl o1 o2 o3 o4
   refine FnP.i Tryz.func3 rfl rfl fun G w => ?_
   repeat' (first | apply WK.s | apply WK.k | refine WK.cF rfl ?_ | (refine hQ.h _ _ ?_; clear hQ hA) | (refine WK.R Tryz.ntmps3 ?_; intro A hA Q hQ; simp [*]) | (refine WK.X Tryz.ntmps3 ?_; intro A hA Q hQ; simp [*]) | (refine hQ.h _ _ _ (by decide +kernel) ?_; clear hQ hA) | (refine RunX.gd rfl (by rw [hA.h]; rfl) ?_; simp [*]) | (refine RunQ.k rfl rfl rfl rfl rfl ?_ (fw) ?_ ?_ <;> simp (config := zd) [*] <;> refine ⟨?_⟩) | (refine RunQ.k rfl rfl rfl rfl rfl ?_ (d1) ?_ ?_ <;> simp (config := zd) [*] <;> refine ⟨?_⟩) | (refine RunQ.k rfl rfl rfl rfl rfl ?_ (d2) ?_ ?_ <;> simp (config := zd) [*] <;> refine ⟨?_⟩) | (refine RunQ.k rfl rfl rfl rfl rfl ?_ (d3) ?_ ?_ <;> simp (config := zd) [*] <;> refine ⟨?_⟩) | (refine RunQ.k rfl rfl rfl rfl rfl ?_ (d4) ?_ ?_ <;> simp (config := zd) [*] <;> refine ⟨?_⟩) | (refine RunQ.k rfl rfl rfl rfl rfl ?_ (d5) ?_ ?_ <;> simp (config := zd) [*] <;> refine ⟨?_⟩) | (refine RunQ.k rfl rfl rfl rfl rfl ?_ (d6) ?_ ?_ <;> simp (config := zd) [*] <;> refine ⟨?_⟩) | (refine RunQ.k rfl rfl rfl rfl rfl ?_ (d7) ?_ ?_ <;> simp (config := zd) [*] <;> refine ⟨?_⟩) | (refine RunQ.k rfl rfl rfl rfl rfl ?_ (d8) ?_ ?_ <;> simp (config := zd) [*] <;> refine ⟨?_⟩) | (refine RunQ.k rfl rfl rfl rfl rfl ?_ (d9) ?_ ?_ <;> simp (config := zd) [*] <;> refine ⟨?_⟩) | (refine RunQ.k rfl rfl rfl rfl rfl ?_ (d10) ?_ ?_ <;> simp (config := zd) [*] <;> refine ⟨?_⟩) | (refine RunXW.call rfl rfl rfl ?_ (d1) ?_ ?_; (focus simp (config := zd) [*]; done); (focus simp [*]; done); refine RunX.e ?_; simp [*]) | (refine RunXW.call rfl rfl rfl ?_ (d2) ?_ ?_; (focus simp (config := zd) [*]; done); (focus simp [*]; done); refine RunX.e ?_; simp [*]) | (refine RunXW.call rfl rfl rfl ?_ (d3) ?_ ?_; (focus simp (config := zd) [*]; done); (focus simp [*]; done); refine RunX.e ?_; simp [*]) | (refine RunXW.call rfl rfl rfl ?_ (d4) ?_ ?_; (focus simp (config := zd) [*]; done); (focus simp [*]; done); refine RunX.e ?_; simp [*]) | (refine RunXW.call rfl rfl rfl ?_ (d5) ?_ ?_; (focus simp (config := zd) [*]; done); (focus simp [*]; done); refine RunX.e ?_; simp [*]) | (refine RunXW.call rfl rfl rfl ?_ (d6) ?_ ?_; (focus simp (config := zd) [*]; done); (focus simp [*]; done); refine RunX.e ?_; simp [*]) | (refine RunXW.call rfl rfl rfl ?_ (d7) ?_ ?_; (focus simp (config := zd) [*]; done); (focus simp [*]; done); refine RunX.e ?_; simp [*]) | (refine RunXW.call rfl rfl rfl ?_ (d8) ?_ ?_; (focus simp (config := zd) [*]; done); (focus simp [*]; done); refine RunX.e ?_; simp [*]) | (refine RunXW.call rfl rfl rfl ?_ (d9) ?_ ?_; (focus simp (config := zd) [*]; done); (focus simp [*]; done); refine RunX.e ?_; simp [*]) | (refine RunXW.call rfl rfl rfl ?_ (d10) ?_ ?_; (focus simp (config := zd) [*]; done); (focus simp [*]; done); refine RunX.e ?_; simp [*]) | (refine RunXW.call rfl rfl rfl ?_ (aw) ?_ ?_; (focus simp (config := zd) [*]; done); (focus simp [*]; done); refine RunX.e ?_; simp [*]) | (refine WK.t Tryz.func3 ?_ ?_ <;> simp (config := zd) [Tryz.results3, *]))
theorem linksTell_c (n : Net) (at_ port : Int) : FnP Tryz.prog 3 [.agg n.enc, .int .i64 at_, .int .i64 port] (.bool true) := by
 rw [← Net.cutN_enc]; exact linksTell_c0 n.cutN at_ port fun s hs t ht => Net.cutN_tab hs t ht
end Go.Proofs.YtmhapglejjehbaaGreat
