/- Groups: what is wrong with one. -/
import Derived.Test.YtmhapglejjehbaaGreatAf
import Derived.Test.YtmhapglejjehbaaGreatWk8
import Derived.Test.YtmhapglejjehbaaGreatWk7
import Derived.Test.YtmhapglejjehbaaGreatAg
set_option linter.all false
set_option linter.unnecessarySimpa false
namespace Go.Proofs.YtmhapglejjehbaaGreat
open Go Go.AI Go.Proofs
attribute [local irreducible] FnP FnO FnB FnT WK RunQ RunQW RunX RunXW
theorem gweigh_c (kind : Int) : FnP Tryz.prog 125 [.int .i64 kind] (.tup [.int .i64 (gWeigh kind).1, .agg (gF (some (6, (gWeigh kind).2)))]) := by
 have b2 := grpbad_c 2
 have b1 := grpbad_c 1
 unfold gWeigh
 by_cases h : kind = 1
 · rw [if_pos h]
   clear b1
   refine FnP.i Tryz.func125 rfl rfl fun G w => ?_
   repeat' (first | apply WK.s | refine WK.cT rfl ?_ | (apply hQ.h; clear hQ hA) | (refine WK.R Tryz.ntmps125 ?_; intro A hA Q hQ; simp [gF, *]) | (refine RunQ.k rfl rfl rfl rfl rfl ?_ (b2) ?_ ?_ <;> simp (config := zd) [gF, *] <;> refine ⟨?_⟩) | (refine WK.t Tryz.func125 ?_ ?_ <;> simp (config := zd) [Tryz.results125, gF, *]))
 · rw [if_neg h]
   have h' : (kind == 1) = false := by simpa using h
   clear b2
   refine FnP.i Tryz.func125 rfl rfl fun G w => ?_
   repeat' (first | apply WK.s | apply WK.k | refine WK.cF rfl ?_ | (apply hQ.h; clear hQ hA) | (refine WK.R Tryz.ntmps125 ?_; intro A hA Q hQ; simp [gF, *]) | (refine RunQ.k rfl rfl rfl rfl rfl ?_ (b1) ?_ ?_ <;> simp (config := zd) [gF, *] <;> refine ⟨?_⟩) | (refine WK.t Tryz.func125 ?_ ?_ <;> simp (config := zd) [Tryz.results125, gF, *]))
set_option maxHeartbeats 8000000 in
theorem gcheck_c (kind : Int) (l : List Bucket) (hl : l.length ≤ 1000000) : FnP Tryz.prog 71 [.int .i64 kind, bukS l] (.agg (gF (gCheck kind l))) := by
 unfold bukS
 by_cases h1 : kind < 0 ∨ 3 < kind
 · have e : gCheck kind l = some (6, 10) := by unfold gCheck; rw [if_pos h1]
   rw [e]
   have b := grpbad_c 10
   clear e
   rcases h1 with h1 | h1
   · refine FnP.i Tryz.func71 rfl rfl fun G w => ?_
     repeat' (first | apply WK.s | apply WK.b | refine WK.cT rfl ?_ | (apply hQ.h; clear hQ hA) | (refine WK.R Tryz.ntmps71 ?_; intro A hA Q hQ; simp [gF, *]) | (refine RunQ.g rfl (by rw [hA.h]; rfl) ?_; simp [gF, *]) | (refine RunQ.k rfl rfl rfl rfl rfl ?_ (b) ?_ ?_ <;> simp (config := zd) [gF, *] <;> refine ⟨?_⟩) | (refine WK.t Tryz.func71 ?_ ?_ <;> simp (config := zd) [Tryz.results71, gF, *]))
   · have h0 : ¬ kind < 0 := by omega
     refine FnP.i Tryz.func71 rfl rfl fun G w => ?_
     repeat' (first | apply WK.s | apply WK.b | refine WK.cT rfl ?_ | (apply hQ.h; clear hQ hA) | (refine WK.R Tryz.ntmps71 ?_; intro A hA Q hQ; simp [gF, *]) | (refine RunQ.g rfl (by rw [hA.h]; rfl) ?_; simp [gF, *]) | (refine RunQ.k rfl rfl rfl rfl rfl ?_ (b) ?_ ?_ <;> simp (config := zd) [gF, *] <;> refine ⟨?_⟩) | (refine WK.t Tryz.func71 ?_ ?_ <;> simp (config := zd) [Tryz.results71, gF, *]))
 have h10 : ¬ kind < 0 := fun h => h1 (.inl h)
 have h11 : ¬ 3 < kind := fun h => h1 (.inr h)
 by_cases h2 : 4 < l.length
 · have e : gCheck kind l = some (6, 4) := by unfold gCheck; rw [if_neg h1, if_pos h2]
   rw [e]
   have b := grpbad_c 4
   have h2' : (4 : Int) < l.length := by omega
   clear e h1
   refine FnP.i Tryz.func71 rfl rfl fun G w => ?_
   repeat' (first | apply WK.s | apply WK.b | refine WK.cT rfl ?_ | refine WK.cF rfl ?_ | (apply hQ.h; clear hQ hA) | (refine WK.R Tryz.ntmps71 ?_; intro A hA Q hQ; simp [gF, *]) | (refine RunQ.g rfl (by rw [hA.h]; rfl) ?_; simp [gF, *]) | (refine RunQ.k rfl rfl rfl rfl rfl ?_ (b) ?_ ?_ <;> simp (config := zd) [gF, *] <;> refine ⟨?_⟩) | (refine WK.t Tryz.func71 ?_ ?_ <;> simp (config := zd) [Tryz.results71, gF, *]))
 have h2' : ¬ (4 : Int) < l.length := by omega
 by_cases h3 : kind = 2 ∧ ¬ l.length = 1
 · have e : gCheck kind l = some (6, 1) := by unfold gCheck; rw [if_neg h1, if_neg h2, if_pos h3]
   rw [e]
   have b := grpbad_c 1
   obtain ⟨rfl, h3⟩ := h3
   have h3' : ((l.length : Int) == 1) = false := by rw [beq_eq_false_iff_ne]; omega
   clear e h1
   refine FnP.i Tryz.func71 rfl rfl fun G w => ?_
   repeat' (first | apply WK.s | apply WK.b | refine WK.cT rfl ?_ | refine WK.cF rfl ?_ | (apply hQ.h; clear hQ hA) | (refine WK.R Tryz.ntmps71 ?_; intro A hA Q hQ; simp [gF, bne, *]) | (refine RunQ.g rfl (by rw [hA.h]; rfl) ?_; simp [gF, bne, *]) | (refine RunQ.k rfl rfl rfl rfl rfl ?_ (b) ?_ ?_ <;> simp (config := zd) [gF, bne, *] <;> refine ⟨?_⟩) | (refine WK.t Tryz.func71 ?_ ?_ <;> simp (config := zd) [Tryz.results71, gF, bne, *]))
 have e : gCheck kind l = (gCheckF kind l).map fun c => (6, c) := by unfold gCheck; rw [if_neg h1, if_neg h2, if_neg h3]
 rw [e]
 obtain ⟨R, hR⟩ : ∃ R, gCheckF kind l = R := ⟨_, rfl⟩
 rw [hR]
 have cw := gweigh_c kind
 have hfw : gF (some (6, (gWeigh kind).2)) = [.bool true, .int .i64 6, .int .i64 (gWeigh kind).2] := rfl
 rw [hfw] at cw
 obtain ⟨W1, hW1⟩ : ∃ x, (gWeigh kind).1 = x := ⟨_, rfl⟩
 obtain ⟨W2, hW2⟩ : ∃ x, (gWeigh kind).2 = x := ⟨_, rfl⟩
 rw [hW1, hW2] at cw
 clear hfw
 have hh : (kind == 2 && !((l.length : Int) == 1)) = false := by
   by_cases hk : kind = 2
   · have : l.length = 1 := by
       rcases Nat.decEq l.length 1 with h | h
       · exact absurd ⟨hk, h⟩ h3
       · exact h
     rw [this]; simp
   · have : (kind == 2) = false := by simpa using hk
     rw [this]; rfl
 have hkk : (kind == 2) = false ∨ ((kind == 2) = true ∧ ((l.length : Int) == 1) = true) := by
   cases hk : (kind == 2)
   · exact .inl rfl
   · rw [hk, Bool.true_and] at hh
     exact .inr ⟨rfl, by simpa using hh⟩
 have hone : ∀ x, gOne kind x = if ¬ x.wgroup = 4294967295 then some 6 else if ¬ x.weight = W1 then some W2 else if gWatch kind x.watch = false then some 13 else none := by
   intro x; unfold gOne; rw [hW1, hW2]
 have b6 := grpbad_c 6
 have b13 := grpbad_c 13
 have hf6 : gF (some (6, 6)) = [.bool true, .int .i64 6, .int .i64 6] := rfl
 have hf13 : gF (some (6, 13)) = [.bool true, .int .i64 6, .int .i64 13] := rfl
 rw [hf6] at b6
 rw [hf13] at b13
 clear e hh h1 h2 h3 hW1 hW2 hf6 hf13
 refine FnP.i Tryz.func71 rfl rfl fun G w => ?_
 rcases hkk with hk | ⟨hk, hk1⟩
 all_goals
   repeat' (first | apply WK.s | apply WK.b | apply WK.n | apply WK.k | refine WK.cF rfl ?_ | (apply hQ.h; clear hQ hA) | (refine WK.R (id := 0) Tryz.ntmps71 ?_; intro A hA Q hQ; simp [bne, *]) | (refine WK.R (id := 1) Tryz.ntmps71 ?_; intro A hA Q hQ; simp [bne, *]) | (refine WK.R (id := 2) Tryz.ntmps71 ?_; intro A hA Q hQ; simp [bne, *]) | (refine WK.R (id := 3) Tryz.ntmps71 ?_; intro A hA Q hQ; simp [bne, *]) | (refine WK.R (id := 4) Tryz.ntmps71 ?_; intro A hA Q hQ; simp [bne, *]) | (refine WK.R (id := 5) Tryz.ntmps71 ?_; intro A hA Q hQ; simp [bne, *]) | (refine WK.R (id := 6) Tryz.ntmps71 ?_; intro A hA Q hQ; simp [bne, *]) | (refine WK.R (id := 7) Tryz.ntmps71 ?_; intro A hA Q hQ; simp [bne, *]) | (refine WK.R (id := 8) Tryz.ntmps71 ?_; intro A hA Q hQ; simp [bne, *]) | (refine RunQ.g rfl (by rw [hA.h]; rfl) ?_; simp [bne, *]) | (refine RunQ.k rfl rfl rfl rfl rfl ?_ (cw) ?_ ?_ <;> simp (config := zd) [bne, *] <;> refine ⟨?_⟩))
   refine WK.L (fun n => if n = 1 then 405 else n) (fun i : Nat => (⟨(upd (upd (upd (upd (upd (upd (upd J 0 (.int .i64 kind)) 4 (.ptr 0 0)) 5 (.int .i64 W1)) 6 (.ptr 1 0)) 36 (.sl false l.length (bukL l))) 37 (.int .i64 l.length)) 38 (.int .i64 i)), (upd (upd B0 0 (.var [.bool false, .int .i64 0, .int .i64 0])) 1 (.var [.bool true, .int .i64 6, .int .i64 W2])), 0⟩ : St)) (fun i => i ≤ l.length ∧ gCheckF kind (l.drop i) = R) (fun i => l.length - i) (0) (by repeat (first | exact TmW.nil | refine TmW.upd ?_ (by simp (config := zd)))) (by repeat (first | exact BxW.nil | refine BxW.upd ?_ (by simp (config := zd)))) (⟨by omega, hR⟩) (fun i hi IH => ?_)
   by_cases g1 : i < l.length
   · have g1' : (i : Int) < l.length := by omega
     obtain ⟨h4, h3⟩ := buk_load l i g1
     have h6 : IntKind.i64.wrap ((i : Int) + 1) = i + 1 := wrap_i64 (by omega) (by omega)
     have hd := gCheckF_at (kind := kind) g1
     rw [hi.2] at hd
     obtain ⟨x, hx⟩ : ∃ x, nth l i = x := ⟨_, rfl⟩
     rw [hx] at h4 hd
     rw [hone x] at hd
     have cwa := gwatch_c kind x.watch
     clear hR hone hx hk
     by_cases q1 : x.wgroup = 4294967295
     · rw [if_neg (by simpa using q1)] at hd
       by_cases q2 : x.weight = W1
       · rw [if_neg (by simpa using q2)] at hd
         cases q3 : gWatch kind x.watch
         · rw [q3] at hd cwa
           rw [if_pos rfl] at hd
           simp only at hd
           rw [hd]
           clear IH hd hi
           repeat' (first | apply WK.s | apply WK.b | apply WK.k | refine WK.cT rfl ?_ | refine WK.cF rfl ?_ | (apply hQ.h; clear hQ hA) | (refine WK.R Tryz.ntmps71 ?_; intro A hA Q hQ; simp [Bucket.enc, bne, gF, *]) | (refine RunQ.k rfl rfl rfl rfl rfl ?_ (cwa) ?_ ?_ <;> simp (config := zd) [Bucket.enc, bne, gF, *] <;> refine ⟨?_⟩) | (refine RunQ.k rfl rfl rfl rfl rfl ?_ (b13) ?_ ?_ <;> simp (config := zd) [Bucket.enc, bne, gF, *] <;> refine ⟨?_⟩) | (refine WK.t Tryz.func71 ?_ ?_ <;> simp (config := zd) [Tryz.results71, Bucket.enc, bne, gF, *]))
         · rw [q3] at hd cwa
           rw [if_neg (by simp)] at hd
           simp only at hd
           repeat' (first | apply WK.s | apply WK.b | apply WK.n | apply WK.k | refine WK.cT rfl ?_ | refine WK.cF rfl ?_ | (apply hQ.h; clear hQ hA) | (refine WK.R Tryz.ntmps71 ?_; intro A hA Q hQ; simp [Bucket.enc, bne, *]) | (refine RunQ.k rfl rfl rfl rfl rfl ?_ (cwa) ?_ ?_ <;> simp (config := zd) [Bucket.enc, bne, *] <;> refine ⟨?_⟩))
           refine WK.N (fun n => n) (IH (i + 1) (⟨by omega, hd.symm⟩) (by first | omega | (dsimp only; omega)))
       · rw [if_pos (by simpa using q2)] at hd
         simp only at hd
         rw [hd]
         have q2' : (x.weight == W1) = false := by simpa using q2
         clear IH hd hi q2
         repeat' (first | apply WK.s | apply WK.b | apply WK.k | refine WK.cT rfl ?_ | refine WK.cF rfl ?_ | (apply hQ.h; clear hQ hA) | (refine WK.R Tryz.ntmps71 ?_; intro A hA Q hQ; simp [Bucket.enc, bne, gF, *]) | (refine WK.t Tryz.func71 ?_ ?_ <;> simp (config := zd) [Tryz.results71, Bucket.enc, bne, gF, *]))
     · rw [if_pos (by simpa using q1)] at hd
       simp only at hd
       rw [hd]
       have q1' : (x.wgroup == 4294967295) = false := by simpa using q1
       clear IH hd hi q1
       repeat' (first | apply WK.s | apply WK.b | apply WK.k | refine WK.cT rfl ?_ | (apply hQ.h; clear hQ hA) | (refine WK.R Tryz.ntmps71 ?_; intro A hA Q hQ; simp [Bucket.enc, bne, gF, *]) | (refine RunQ.k rfl rfl rfl rfl rfl ?_ (b6) ?_ ?_ <;> simp (config := zd) [Bucket.enc, bne, gF, *] <;> refine ⟨?_⟩) | (refine WK.t Tryz.func71 ?_ ?_ <;> simp (config := zd) [Tryz.results71, Bucket.enc, bne, gF, *]))
   · have g1' : ¬ (i : Int) < l.length := by omega
     have hd := hi.2
     rw [List.drop_of_length_le (by omega)] at hd
     have hd' : none = R := hd
     subst hd'
     clear IH hi hd hR hone hk
     repeat' (first | apply WK.s | refine WK.exit rfl ?_ | refine WK.cF rfl ?_ | (apply hQ.h; clear hQ hA) | (refine WK.R Tryz.ntmps71 ?_; intro A hA Q hQ; simp [gF, *]) | (refine WK.t Tryz.func71 ?_ ?_ <;> simp (config := zd) [Tryz.results71, gF, *]))

theorem clone_bukO (l : List Bucket) (hl : l.length ≤ 1000000) : FnO Tryz.prog 161 [bukS l] l.length 4 (bukL l) := by
 have hb : l.length * 48 ≤ 140737488355328 := by omega
 unfold bukS
 cases l with
 | nil =>
   refine FnO.intro Tryz.func161 rfl rfl fun G w => ?_
   repeat' (first | apply WK.s | apply WK.k | (apply hQ.h; clear hQ hA) | refine WK.condAny rfl ?_ ?_ | (refine WK.R Tryz.ntmps161 ?_; intro A hA Q hQ; simp [*]))
   · refine WK.ghost (Ghost.own 2 900 4 rfl rfl) ?_
     refine WK.retO Tryz.func161 (by rfl) (by rfl) (by simp (config := zd) [bukL_nil]) (by simp [bukL_nil])
   · repeat' (first | (apply hQ.h; clear hQ hA) | (refine RunQ.append0 900 901 app_buk rfl rfl rfl rfl rfl rfl rfl ?_ rfl ?_ ?_ ?_ ?_ ?_ ?_; (focus simp [*]; done); (focus first | omega | simp [*]; done); (focus first | omega | simp [*]; done); (focus simp [*]; done); (focus simp [*]; done); (focus simp [*]; done); refine RunQ.evalH ?_; simp [*]) | (refine WK.retO Tryz.func161 rfl rfl ?_ ?_ <;> simp (config := zd) [bukL_nil, *]))
 | cons x l =>
   have e : (bukL (x :: l)).take ((l.length + 1) * 4) = bukL (x :: l) := List.take_of_length_le (by simp)
   simp only [List.length_cons] at hl hb ⊢
   refine FnO.intro Tryz.func161 rfl rfl fun G w => ?_
   repeat' (first | apply WK.s | apply WK.k | refine WK.cF rfl ?_ | (apply hQ.h; clear hQ hA) | (refine WK.R Tryz.ntmps161 ?_; intro A hA Q hQ; simp [*]) | (refine RunQ.append0 900 901 app_buk rfl rfl rfl rfl rfl rfl rfl ?_ rfl ?_ ?_ ?_ ?_ ?_ ?_; (focus simp [*]; done); (focus first | omega | simp [*]; done); (focus first | omega | simp [*]; done); (focus simp [*]; done); (focus simp [*]; done); (focus simp [*]; done); refine RunQ.evalH ?_; simp [*]) | (refine WK.retO Tryz.func161 rfl rfl ?_ ?_ <;> simp (config := zd) [*]))
theorem put_same {L : List AV} {k : Nat} {v : AV} (hk : k < L.length) (hv : L[k] = v) : L.take k ++ v :: L.drop (k + 1) = L := by
 rw [← hv, ← List.drop_eq_getElem_cons hk, List.take_append_drop]
theorem gcopies_c (l : List Bucket) (hl : l.length ≤ 1000000) (ha : ∀ x, x ∈ l → x.acts.length ≤ 1000000) : FnP Tryz.prog 106 [bukS l] (bukS l) := by
 have hc := clone_bukO l hl
 unfold bukS at *
 refine FnP.i Tryz.func106 rfl rfl fun G w => ?_
 repeat' (first | apply WK.s | apply WK.b | (apply hQ.h; clear hQ hA) | (refine WK.R (id := 0) Tryz.ntmps106 ?_; intro A hA Q hQ; simp [*]) | (refine WK.R (id := 1) Tryz.ntmps106 ?_; intro A hA Q hQ; simp [*]) | (refine WK.R (id := 2) Tryz.ntmps106 ?_; intro A hA Q hQ; simp [*]) | (refine RunQ.callO 900 rfl rfl rfl rfl rfl ?_ (hc) ?_ ?_ ?_ ?_; (focus simp (config := zd) [*]; done); (focus simp [*]; done); (focus simp [*]; done); (focus simp [*]; done); refine RunQ.evalH ?_; simp [*]))
 refine WK.L (fun n => if n = 1 then 900 else n) (fun i : Nat => (⟨(upd (upd (upd J 3 (.msl 1 0 l.length)) 8 (.int .i64 l.length)) 9 (.int .i64 i)), (upd B0 1 (.buf 4 (bukL l))), 0⟩ : St)) (fun i => i ≤ l.length) (fun i => l.length - i) (0) (by repeat (first | exact TmW.nil | refine TmW.upd ?_ (by simp (config := zd)))) (by repeat (first | exact BxW.nil | refine BxW.upd ?_ (by simp (config := zd)))) (by omega) (fun i hi IH => ?_)
 by_cases h1 : i < l.length
 · have h1' : (i : Int) < l.length := by omega
   have h6 : IntKind.i64.wrap ((i : Int) + 1) = i + 1 := wrap_i64 (by omega) (by omega)
   have hk : i * 4 + 3 < (bukL l).length := by rw [bukL_len]; omega
   have hg := buk_get l i 3 h1 (by omega) hk
   have cl := clone_actP (nth l i).acts (ha _ (nth_mem h1))
   obtain ⟨x, hx⟩ : ∃ x, nth l i = x := ⟨_, rfl⟩
   have hg' : (bukL l)[i * 4 + 3] = .sl false x.acts.length (actL x.acts) := by rw [hg]; simp only [hx]; rfl
   have hp := put_same hk hg'
   have hq : (bukL l)[i * 4 + 3]? = some (.sl false x.acts.length (actL x.acts)) := List.getElem?_eq_some_iff.2 ⟨hk, hg'⟩
   have hk' : i * 4 + 3 < l.length * 4 := by omega
   have hk2 : i * 4 + 4 ≤ l.length * 4 := by omega
   rw [hx] at cl
   unfold actS at cl
   clear hg hx hc ha
   repeat' (first | apply WK.s | apply WK.b | apply WK.n | apply WK.k | refine WK.cT rfl ?_ | (apply hQ.h; clear hQ hA) | (refine WK.R Tryz.ntmps106 ?_; intro A hA Q hQ; simp [*]) | (refine RunQ.k rfl rfl rfl rfl rfl ?_ (cl) ?_ ?_ <;> simp (config := zd) [*] <;> refine ⟨?_⟩))
   refine WK.N (fun n => n) (IH (i + 1) (by omega) (by first | omega | (dsimp only; omega))) (by repeat (first | exact TmW.nil | refine TmW.upd ?_ (by simp (config := zd) [hp]))) (by repeat (first | exact BxW.nil | refine BxW.upd ?_ (by simp (config := zd) [hp])))
 · have h1' : ¬ (i : Int) < l.length := by omega
   clear hc ha IH
   repeat' (first | apply WK.s | refine WK.exit rfl ?_ | refine WK.cF rfl ?_ | (apply hQ.h; clear hQ hA) | (refine WK.R Tryz.ntmps106 ?_; intro A hA Q hQ; simp [*]))
   refine WK.ghost (Ghost.frzSl 2 4 rfl rfl) ?_
   repeat' (first | (refine WK.t Tryz.func106 ?_ ?_ <;> simp (config := zd) [Tryz.results106, *]))
structure GrB (g : Group) : Prop where
 len : g.buckets.length ≤ 1000
 acts : ∀ x, x ∈ g.buckets → x.acts.length ≤ 1000000
theorem gfresh_c (l : List Group) (hl : l.length ≤ 1000000) (hB : ∀ g, g ∈ l → GrB g) : FnO Tryz.prog 57 [grpS l] l.length 3 (grpL l) := by
 have hc := clone_grpO l hl
 unfold grpS at *
 refine FnO.intro Tryz.func57 rfl rfl fun G w => ?_
 repeat' (first | apply WK.s | apply WK.b | (apply hQ.h; clear hQ hA) | (refine WK.R (id := 0) Tryz.ntmps57 ?_; intro A hA Q hQ; simp [*]) | (refine WK.R (id := 1) Tryz.ntmps57 ?_; intro A hA Q hQ; simp [*]) | (refine WK.R (id := 2) Tryz.ntmps57 ?_; intro A hA Q hQ; simp [*]) | (refine RunQ.callO 900 rfl rfl rfl rfl rfl ?_ (hc) ?_ ?_ ?_ ?_; (focus simp (config := zd) [*]; done); (focus simp [*]; done); (focus simp [*]; done); (focus simp [*]; done); refine RunQ.evalH ?_; simp [*]))
 refine WK.L (fun n => if n = 1 then 900 else n) (fun i : Nat => (⟨(upd (upd (upd J 3 (.msl 1 0 l.length)) 8 (.int .i64 l.length)) 9 (.int .i64 i)), (upd B0 1 (.buf 3 (grpL l))), 0⟩ : St)) (fun i => i ≤ l.length) (fun i => l.length - i) (0) (by repeat (first | exact TmW.nil | refine TmW.upd ?_ (by simp (config := zd)))) (by repeat (first | exact BxW.nil | refine BxW.upd ?_ (by simp (config := zd)))) (by omega) (fun i hi IH => ?_)
 by_cases h1 : i < l.length
 · have h1' : (i : Int) < l.length := by omega
   have h6 : IntKind.i64.wrap ((i : Int) + 1) = i + 1 := wrap_i64 (by omega) (by omega)
   have hk : i * 3 + 2 < (grpL l).length := by rw [grpL_len]; omega
   have hg := grp_get l i 2 h1 (by omega) hk
   have hx0 := hB _ (nth_mem h1)
   have cl := gcopies_c (nth l i).buckets (by have := hx0.len; omega) hx0.acts
   obtain ⟨x, hx⟩ : ∃ x, nth l i = x := ⟨_, rfl⟩
   have hg' : (grpL l)[i * 3 + 2] = .sl false x.buckets.length (bukL x.buckets) := by rw [hg]; simp only [hx]; rfl
   have hp := put_same hk hg'
   have hq : (grpL l)[i * 3 + 2]? = some (.sl false x.buckets.length (bukL x.buckets)) := List.getElem?_eq_some_iff.2 ⟨hk, hg'⟩
   have hk' : i * 3 + 2 < l.length * 3 := by omega
   have hk2 : i * 3 + 3 ≤ l.length * 3 := by omega
   rw [hx] at cl
   unfold bukS at cl
   clear hg hx hc hB hx0
   repeat' (first | apply WK.s | apply WK.b | apply WK.n | apply WK.k | refine WK.cT rfl ?_ | (apply hQ.h; clear hQ hA) | (refine WK.R Tryz.ntmps57 ?_; intro A hA Q hQ; simp [*]) | (refine RunQ.k rfl rfl rfl rfl rfl ?_ (cl) ?_ ?_ <;> simp (config := zd) [*] <;> refine ⟨?_⟩))
   refine WK.N (fun n => n) (IH (i + 1) (by omega) (by first | omega | (dsimp only; omega))) (by repeat (first | exact TmW.nil | refine TmW.upd ?_ (by simp (config := zd) [hp]))) (by repeat (first | exact BxW.nil | refine BxW.upd ?_ (by simp (config := zd) [hp])))
 · have h1' : ¬ (i : Int) < l.length := by omega
   clear hc hB IH
   repeat' (first | apply WK.s | refine WK.exit rfl ?_ | refine WK.cF rfl ?_ | (apply hQ.h; clear hQ hA) | (refine WK.R Tryz.ntmps57 ?_; intro A hA Q hQ; simp [*]) | (refine WK.retO Tryz.func57 rfl rfl ?_ ?_ <;> simp (config := zd) [*]))

def gr0 : Group := ⟨0, 0, []⟩
def gFind (l : List Group) (id : Int) : Group × Bool := match gAt l id with | some i => (nth l i, true) | none => (gr0, false)
theorem gfind_c (l : List Group) (id : Int) (hl : l.length ≤ 1000000) (hB : ∀ g, g ∈ l → GrB g) : FnP Tryz.prog 32 [grpS l, .int .i64 id] (.tup [.agg (gFind l id).1.enc, .bool (gFind l id).2]) := by
 have p := gplace_c l id hl
 have hat := gPlace_at l id
 unfold gFind
 cases hg : gAt l id with
 | none =>
   rw [hg] at hat
   simp only at hat
   rw [hat] at p
   have e0 : gr0.enc = [.int .i64 0, .int .i64 0, .sl false 0 []] := rfl
   simp only [e0]
   unfold grpS at *
   clear hat hg hB
   refine FnP.i Tryz.func32 rfl rfl fun G w => ?_
   repeat' (first | apply WK.s | refine WK.cT rfl ?_ | (apply hQ.h; clear hQ hA) | (refine WK.R Tryz.ntmps32 ?_; intro A hA Q hQ; simp [*]) | (refine RunQ.k rfl rfl rfl rfl rfl ?_ (p) ?_ ?_ <;> simp (config := zd) [*] <;> refine ⟨?_⟩) | (refine WK.t Tryz.func32 ?_ ?_ <;> simp (config := zd) [Tryz.results32, *]))
 | some i =>
   rw [hg] at hat
   simp only at hat
   rw [hat] at p
   obtain ⟨h1, _⟩ := gAt_small hg
   have h1' : (i : Int) < l.length := by omega
   have h1'' : (i : Int) + 1 ≤ l.length := by omega
   have h6 : IntKind.i64.wrap ((i : Int) + 1) = i + 1 := wrap_i64 (by omega) (by omega)
   have h4 := grp_sub l i h1
   have f := gfresh_c [nth l i] (by simp) (fun g hgm => by simp only [List.mem_singleton] at hgm; subst hgm; exact hB _ (nth_mem h1))
   obtain ⟨x, hx⟩ : ∃ x, nth l i = x := ⟨_, rfl⟩
   rw [hx] at h4 f
   simp only [hx]
   have hn : ¬ (i : Int) < 0 := by omega
   have hle : (i : Int) ≤ (i : Int) + 1 := by omega
   have hs1 : i + 1 - i = 1 := by omega
   have h3 : 3 ≤ l.length * 3 - i * 3 := by omega
   rw [grpL_one] at f
   unfold grpS at *
   rw [grpL_one] at f
   unfold Group.enc at *
   clear hat hg hB hx
   refine FnP.i Tryz.func32 rfl rfl fun G w => ?_
   repeat' (first | apply WK.s | apply WK.k | refine WK.cF rfl ?_ | (apply hQ.h; clear hQ hA) | (refine WK.R Tryz.ntmps32 ?_; intro A hA Q hQ; simp [*]) | (refine RunQ.callO 900 rfl rfl rfl rfl rfl ?_ (f) ?_ ?_ ?_ ?_; (focus simp (config := zd) [*]; done); (focus simp [*]; done); (focus simp [*]; done); (focus simp [*]; done); refine RunQ.evalH ?_; simp [*]) | (refine RunQ.k rfl rfl rfl rfl rfl ?_ (p) ?_ ?_ <;> simp (config := zd) [*] <;> refine ⟨?_⟩) | (refine WK.t Tryz.func32 ?_ ?_ <;> simp (config := zd) [Tryz.results32, *]))
end Go.Proofs.YtmhapglejjehbaaGreat

namespace Go.Proofs.YtmhapglejjehbaaGreat
open Go Go.AI Go.Proofs
attribute [local irreducible] FnP FnO FnB FnT WK RunQ RunQW RunX RunXW RunN
def seenE (s : List Nat) : List (Int × Int) := s.map fun x : Nat => ((x : Int), (1 : Int))
theorem seenE_len (s : List Nat) : (seenE s).length = s.length := by simp [seenE]
theorem seenE_look (s : List Nat) (i : Nat) : (mpLook (seenE s) (i : Int)).isSome = decide (i ∈ s) ∧ mpVal (seenE s) (i : Int) = if i ∈ s then 1 else 0 := by
 induction s with
 | nil => exact ⟨rfl, rfl⟩
 | cons x s ih =>
   have e : seenE (x :: s) = ((x : Int), 1) :: seenE s := rfl
   rw [e]
   unfold mpVal at ih ⊢
   rw [mpLook]
   by_cases h : (i : Int) = (x : Int)
   · have h' : i = x := by omega
     subst h'
     rw [if_pos rfl]
     simp
   · have h' : ¬ i = x := by omega
     rw [if_neg h]
     have hm : (i ∈ x :: s) = (i ∈ s) := by simp [h']
     simp only [hm]
     cases hl : mpLook (seenE s) (i : Int) with
     | none => rw [hl] at ih; simpa using ih
     | some q => rw [hl] at ih; simpa using ih
theorem seenE_put {s : List Nat} {i : Nat} (h : i ∉ s) : mpPut (seenE s) (i : Int) 1 = seenE (s ++ [i]) := by
 have h1 := (seenE_look s i).1
 rw [decide_eq_false h] at h1
 rw [mpPut_none (by simpa using h1)]
 simp [seenE]
def gStep (l : List Group) (f : Nat) (s : List Nat) (id : Int) : List Nat := match gAt l id with
 | none => s
 | some i => if i ∈ s then s else dfs (gSucc l) f (s ++ [i]) i
theorem dfs_names (l : List Group) (f : Nat) (s : List Nat) (a : Nat) : dfs (gSucc l) (f + 1) s a = (gNames (nth l a).buckets).foldl (gStep l f) s := by
 rw [dfs]
 unfold gSucc
 rw [List.foldl_filterMap]
 congr 1
 funext s id
 unfold gStep
 cases gAt l id <;> rfl
structure GSeen (l : List Group) (n : Nat) (s : List Nat) : Prop where
 nodup : s.Nodup
 small : ∀ x, x ∈ s → x < l.length
 len : n ≤ s.length
theorem GSeen.le {l : List Group} {n : Nat} {s : List Nat} (h : GSeen l n s) : s.length ≤ l.length := nodup_lt_length l.length s h.nodup h.small
theorem GSeen.add {l : List Group} {n : Nat} {s : List Nat} {i : Nat} (h : GSeen l n s) (hi : i ∉ s) (hl : i < l.length) : GSeen l (n + 1) (s ++ [i]) := by
 refine ⟨?_, fun x hx => ?_, by have := h.len; simp; omega⟩
 · rw [List.nodup_append]
   refine ⟨h.nodup, by simp, ?_⟩
   intro x hx y hy e
   simp only [List.mem_singleton] at hy
   subst hy; subst e; exact hi hx
 · rcases List.mem_append.1 hx with hx | hx
   · exact h.small x hx
   · simp only [List.mem_singleton] at hx; subst hx; exact hl
theorem GSeen.dfs {l : List Group} {n f : Nat} {s : List Nat} (h : GSeen l n s) (hf : l.length < f + n) (a : Nat) : GSeen l n (dfs (gSucc l) f s a) := by
 have h1 := h.len
 have := dfs_seen (gSucc l) l.length (gSucc_small l) f s a h.nodup h.small (by omega)
 exact ⟨this.nodup, this.small, by have := this.len; omega⟩
theorem GSeen.step {l : List Group} {n f : Nat} {s : List Nat} (h : GSeen l n s) (hf : l.length < f + 1 + n) (id : Int) : GSeen l n (gStep l f s id) := by
 unfold gStep
 split
 · exact h
 · rename_i i hi
   split
   · exact h
   · rename_i hn
     have := (h.add hn (gAt_small hi).1).dfs (f := f) (by omega) i
     exact ⟨this.nodup, this.small, by have := this.len; omega⟩
theorem GSeen.fold {l : List Group} {n f : Nat} (hf : l.length < f + 1 + n) : ∀ (ids : List Int) {s : List Nat}, GSeen l n s → GSeen l n (ids.foldl (gStep l f) s)
 | [], s, h => h
 | id :: ids, s, h => GSeen.fold hf ids (h.step hf id)
theorem fold_take {α β : Type} [Inhabited β] (g : α → β → α) (s : α) {l : List β} {i : Nat} (h : i < l.length) : (l.take (i + 1)).foldl g s = g ((l.take i).foldl g s) (nth l i) := by
 rw [take_nth h, List.foldl_append]; rfl
set_option maxHeartbeats 4000000 in
set_option maxRecDepth 100000 in
theorem gfrom_c (gs : List Group) (hl : gs.length ≤ 1000000) (hB : ∀ g, g ∈ gs → GrB g) : ∀ (f c : Nat) (s : List Nat) (a : Nat), a < gs.length → GSeen gs 0 s → gs.length < f + s.length →
   FnB Tryz.prog 123 [.iptr [grpS gs, .mv 0], .int .i64 a] (.obj (mpObjK (Value.int .i64) c (seenE s))) (.tup []) (.obj (mpObjK (Value.int .i64) c (seenE (dfs (gSucc gs) f s a)))) := by
 intro f
 induction f with
 | zero => intro c s a ha hs hf; have := hs.le; omega
 | succ f ih =>
 intro c s a ha hs hf
 have hb0 := hB _ (nth_mem ha)
 have hn := gnames_c (nth gs a).buckets hb0.len hb0.acts
 have hnl := gNames_le (nth gs a).buckets 1000000 hb0.acts
 have hnl2 : (nth gs a).buckets.length * 1000000 ≤ 1000 * 1000000 := Nat.mul_le_mul_right _ hb0.len
 have hi' : (a : Int) < gs.length := by omega
 have hk : a * 3 + 2 < (grpL gs).length := by rw [grpL_len]; omega
 have hg := grp_get gs a 2 ha (by omega) hk
 rw [dfs_names]
 obtain ⟨x, hx⟩ : ∃ x, nth gs a = x := ⟨_, rfl⟩
 have hg' : (grpL gs)[a * 3 + 2] = .sl false x.buckets.length (bukL x.buckets) := by rw [hg]; simp only [hx]; rfl
 have hq : (grpL gs)[a * 3 + 2]? = some (.sl false x.buckets.length (bukL x.buckets)) := List.getElem?_eq_some_iff.2 ⟨hk, hg'⟩
 have hk' : a * 3 + 2 < gs.length * 3 := by omega
 rw [hx] at hn hnl hnl2 ⊢
 obtain ⟨N, hN⟩ : ∃ N, gNames x.buckets = N := ⟨_, rfl⟩
 rw [hN] at hn hnl ⊢
 have hNl : N.length ≤ 1000000000 := by omega
 have hpl : ∀ id, FnP Tryz.prog 56 [grpS gs, .int .i64 id] (.int .i64 (gPlace gs id)) := fun id => gplace_c gs id hl
 have hS0 : GSeen gs s.length s := ⟨hs.nodup, hs.small, Nat.le_refl _⟩
 clear hg hx hN hnl hnl2 hb0 hB
 unfold grpS bukS intS at *
 refine FnB.intro Tryz.func123 rfl rfl fun G w lB => ?_
 refine WK.anyNx (n := 100) ?_
 repeat' (first | apply WK.s | apply WK.b | apply WK.label | apply WK.scope | (apply hQ.h; clear hQ hA) | (refine WK.R Tryz.ntmps123 ?_; intro A hA Q hQ; simp [*]) | (refine RunQ.k rfl rfl rfl rfl rfl ?_ (hn) ?_ ?_ <;> simp (config := zd) [*] <;> refine ⟨?_⟩))
 refine WK.L (fun n => n) (fun i : Nat => (⟨(upd (upd (upd (upd J 0 (.iptr [.sl false gs.length (grpL gs), .mv 0])) 15 (.sl false N.length (intL N))) 16 (.int .i64 N.length)) 17 (.int .i64 i)), (upd B0 0 (.obj (mpObjK (Value.int .i64) c (seenE ((N.take i).foldl (gStep gs f) s))))), 0⟩ : St)) (fun i => i ≤ N.length) (fun i => N.length - i) (0) (by repeat (first | exact TmW.nil | refine TmW.upd ?_ (by simp (config := zd)))) (by repeat (first | exact BxW.nil | refine BxW.upd ?_ (by simp (config := zd)))) (by omega) (fun i hi IH => ?_)
 by_cases h1 : i < N.length
 · have h1' : (i : Int) < N.length := by omega
   have h3 : i < (intL N).length := by rw [show (intL N).length = N.length by simp [intL]]; exact h1
   have h4 := intL_get' N i h1
   have h6 : IntKind.i64.wrap ((i : Int) + 1) = i + 1 := wrap_i64 (by omega) (by omega)
   have hfo := fold_take (gStep gs f) s h1
   have hT := GSeen.fold (f := f) (by omega) (N.take i) hS0
   have hp := hpl (nth N i)
   have hat := gPlace_at gs (nth N i)
   obtain ⟨T, hTe⟩ : ∃ T, (N.take i).foldl (gStep gs f) s = T := ⟨_, rfl⟩
   rw [hTe] at hfo hT ⊢
   rw [show gStep gs f T (nth N i) = (match gAt gs (nth N i) with | none => T | some i => if i ∈ T then T else dfs (gSucc gs) f (T ++ [i]) i) from rfl] at hfo
   obtain ⟨id, hid⟩ : ∃ id, nth N i = id := ⟨_, rfl⟩
   rw [hid] at hfo hp hat h4
   clear hpl hTe hid
   cases hga : gAt gs id with
   | none =>
     rw [hga] at hfo hat
     simp only at hfo hat
     rw [hat] at hp
     clear hga hat ih
     repeat' (first | apply WK.s | apply WK.b | apply WK.k | refine WK.exit rfl ?_ | refine WK.cT rfl ?_ | (apply hQ.h; clear hQ hA) | (refine WK.R Tryz.ntmps123 ?_; intro A hA Q hQ; simp [*]) | (refine RunQ.g rfl (by rw [hA.h]; rfl) ?_; simp [*]) | (refine RunQ.k rfl rfl rfl rfl rfl ?_ (hp) ?_ ?_ <;> simp (config := zd) [*] <;> refine ⟨?_⟩))
     refine WK.N (fun n => n) (IH (i + 1) (by omega) (by first | omega | (dsimp only; omega))) (by repeat (first | exact TmW.nil | refine TmW.upd ?_ (by simp (config := zd) [hfo]))) (by repeat (first | exact BxW.nil | refine BxW.upd ?_ (by simp (config := zd) [hfo])))
   | some j =>
     obtain ⟨hj, _⟩ := gAt_small hga
     rw [hga] at hfo hat
     simp only at hfo hat
     rw [hat] at hp
     have hv := (seenE_look T j).2
     have hn0 : ¬ (j : Int) < 0 := by omega
     by_cases hjT : j ∈ T
     · rw [if_pos hjT] at hfo hv
       clear hga hat ih
       repeat' (first | apply WK.s | apply WK.b | apply WK.k | refine WK.exit rfl ?_ | refine WK.cT rfl ?_ | (apply hQ.h; clear hQ hA) | (refine WK.R Tryz.ntmps123 ?_; intro A hA Q hQ; simp [*]) | (refine RunQ.g rfl (by rw [hA.h]; rfl) ?_; simp [*]) | (refine RunQW.by (fun hw => ?_); refine RunQ.lookup mpOkInt rfl hw rfl rfl rfl rfl ?_; clear hw; refine RunQ.evalH ?_; simp [*]) | (refine RunQ.k rfl rfl rfl rfl rfl ?_ (hp) ?_ ?_ <;> simp (config := zd) [*] <;> refine ⟨?_⟩))
       refine WK.N (fun n => n) (IH (i + 1) (by omega) (by first | omega | (dsimp only; omega))) (by repeat (first | exact TmW.nil | refine TmW.upd ?_ (by simp (config := zd) [hfo]))) (by repeat (first | exact BxW.nil | refine BxW.upd ?_ (by simp (config := zd) [hfo])))
     · rw [if_neg hjT] at hfo hv
       have hpu := seenE_put hjT
       have hA := hT.add hjT hj
       have c1 := ih c (T ++ [j]) j hj ⟨hA.nodup, hA.small, Nat.zero_le _⟩ (by have := hA.len; omega)
       rw [← hfo] at c1
       have w1 : IntKind.i64.wrap 1 = 1 := rfl
       clear hga hat ih hT hA
       repeat' (first | apply WK.s | apply WK.b | apply WK.n | apply WK.k | refine WK.cT rfl ?_ | refine WK.cF rfl ?_ | (apply hQ.h; clear hQ hA) | (refine WK.R Tryz.ntmps123 ?_; intro A hA Q hQ; simp [*]) | (refine RunQ.g rfl (by rw [hA.h]; rfl) ?_; simp [*]) | (refine RunQ.lookup mpOkInt rfl rfl rfl rfl rfl rfl ?_; refine RunQ.evalH ?_; simp [*]) | (refine RunQW.by (fun hw => ?_); refine RunQ.lookup mpOkInt rfl hw rfl rfl rfl rfl ?_; clear hw; refine RunQ.evalH ?_; simp [*]) | (refine RunQ.mapUpdate mpOkInt rfl rfl rfl rfl rfl rfl rfl ?_; refine RunQ.evalH ?_; simp [*]) | (refine RunQ.callB 0 rfl rfl rfl rfl rfl (c1) ?_ ?_ rfl rfl ?_ ?_ ?_; (focus simp (config := zd) [*]; done); (focus simp (config := zd) [*]; done); (focus simp [*]; done); (focus simp [*]; done); refine RunQ.evalH ?_; simp [*]) | (refine RunQ.k rfl rfl rfl rfl rfl ?_ (hp) ?_ ?_ <;> simp (config := zd) [*] <;> refine ⟨?_⟩))
       refine WK.N (fun n => n) (IH (i + 1) (by omega) (by first | omega | (dsimp only; omega))) (by repeat (first | exact TmW.nil | refine TmW.upd ?_ (by simp (config := zd) [hfo]))) (by repeat (first | exact BxW.nil | refine BxW.upd ?_ (by simp (config := zd) [hfo])))
 · have h1' : ¬ (i : Int) < N.length := by omega
   have hil : i = N.length := by omega
   subst hil
   rw [List.take_length]
   clear IH ih hpl
   repeat' (first | apply WK.s | apply WK.inScope | refine WK.exit rfl ?_ | refine WK.cF rfl ?_ | (apply hQ.h; clear hQ hA) | (refine WK.R Tryz.ntmps123 ?_; intro A hA Q hQ; simp [*]) | (refine WK.retB Tryz.func123 ?_ ?_ rfl (.inl rfl) <;> simp (config := zd) [Tryz.results123, *]))

theorem grp_get0 (l : List Group) (i : Nat) (h : i < l.length) (h' : i * 3 < (grpL l).length) : (grpL l)[i * 3] = .int .i64 (nth l i).id := grp_get l i 0 h (by omega) h'
theorem gLoop_false {l : List Group} (h : ∀ i, i < l.length → gSelf l i = false) : gLoop l = false := by
 unfold gLoop
 rw [List.any_eq_false]
 intro i hi
 rw [h i (by simpa using hi)]; simp
theorem gLoop_true {l : List Group} {i : Nat} (h : i < l.length) (hs : gSelf l i = true) : gLoop l = true := by
 unfold gLoop
 rw [List.any_eq_true]
 exact ⟨i, by simpa using h, hs⟩
theorem gSeen_ok (l : List Group) (i : Nat) : GSeen l 0 (gSeen l i) := GSeen.dfs (s := []) ⟨by simp, by simp, by simp⟩ (by omega) i
theorem seenE_get {s : List Nat} {j : Nat} (h : j < (seenE s).length) (h' : j < s.length) : (seenE s)[j].1 = (s[j] : Int) := by simp [seenE]
theorem nodup_add {vs : List Nat} {n j : Nat} (h : vs.Nodup ∧ ∀ v, v ∈ vs → v < n) (hj : j < n) (hn : j ∉ vs) : (vs ++ [j]).Nodup ∧ (∀ v, v ∈ vs ++ [j] → v < n) ∧ vs.length < n := by
 have h1 : (vs ++ [j]).Nodup := by
   rw [List.nodup_append]
   refine ⟨h.1, by simp, ?_⟩
   intro x hx y hy e
   simp only [List.mem_singleton] at hy
   subst hy; subst e; exact hn hx
 have h2 : ∀ v, v ∈ vs ++ [j] → v < n := fun v hv => by
   rcases List.mem_append.1 hv with hv | hv
   · exact h.2 v hv
   · simp only [List.mem_singleton] at hv; subst hv; exact hj
 have h3 := nodup_lt_length n _ h1 h2
 exact ⟨h1, h2, by simp at h3; omega⟩
set_option maxHeartbeats 8000000 in
set_option maxRecDepth 100000 in
theorem gloop_c (l : List Group) (hl : l.length ≤ 1000000) (hB : ∀ g, g ∈ l → GrB g) : FnP Tryz.prog 69 [grpS l] (.bool (gLoop l)) := by
 have hfr : ∀ c a, a < l.length → FnB Tryz.prog 123 [.iptr [grpS l, .mv 0], .int .i64 a] (.obj (mpObjK (Value.int .i64) c [])) (.tup []) (.obj (mpObjK (Value.int .i64) c (seenE (gSeen l a)))) :=
   fun c a ha => gfrom_c l hl hB (l.length + 1) c [] a ha ⟨by simp, by simp, by simp⟩ (by simp)
 unfold grpS at *
 clear hB
 refine FnP.i Tryz.func69 rfl rfl fun G w => ?_
 repeat' (first | apply WK.s | (apply hQ.h; clear hQ hA) | (refine WK.R (id := 0) Tryz.ntmps69 ?_; intro A hA Q hQ; simp [*]) | (refine WK.R (id := 1) Tryz.ntmps69 ?_; intro A hA Q hQ; simp [*]) | (refine RunQ.makeMap 900 rfl rfl rfl ?_ ?_; (focus simp [*]; done); refine RunQ.evalH ?_; simp [*]))
 refine WK.ghost (Ghost.frzVar 3 rfl rfl) ?_
 repeat' (first | apply WK.b | (apply hQ.h; clear hQ hA) | (refine WK.R (id := 0) Tryz.ntmps69 ?_; intro A hA Q hQ; simp [*]) | (refine WK.R (id := 1) Tryz.ntmps69 ?_; intro A hA Q hQ; simp [*]) | (refine WK.R (id := 2) Tryz.ntmps69 ?_; intro A hA Q hQ; simp [*]))
 refine WK.L (fun n => if n = 1 then 900 else n) (fun x : Nat × Nat × List Nat => (⟨(upd (upd (upd (upd (upd (upd J 0 (.sl false l.length (grpL l))) 2 (.bool false)) 3 (.iptr [.sl false l.length (grpL l), .mv 1])) 11 (.sl false l.length (grpL l))) 12 (.int .i64 l.length)) 13 (.int .i64 x.1)), (upd B0 1 (.obj (mpObjK (Value.int .i64) x.2.1 (seenE x.2.2)))), 0⟩ : St)) (fun x => x.1 ≤ l.length ∧ ∀ k, k < x.1 → gSelf l k = false) (fun x => l.length - x.1) ((0, 0, [])) (by repeat (first | exact TmW.nil | refine TmW.upd ?_ (by simp (config := zd) [seenE]))) (by repeat (first | exact BxW.nil | refine BxW.upd ?_ (by simp (config := zd) [seenE]))) (⟨by simp, by simp⟩) (fun x hi IH => ?_)
 obtain ⟨i, c, t⟩ := x
 simp only at hi ⊢
 by_cases h1 : i < l.length
 · have h1' : (i : Int) < l.length := by omega
   have h6 : IntKind.i64.wrap ((i : Int) + 1) = i + 1 := wrap_i64 (by omega) (by omega)
   have h3 : 3 ≤ l.length * 3 - i * 3 := by omega
   have h4 := grp_sub l i h1
   have hf := hfr (c + (seenE t).length) i h1
   have hok := gSeen_ok l i
   have hse := gSelf l i
   have hsd : gSelf l i = (gSeen l i).any fun j => (nth l j).id == (nth l i).id := rfl
   have hlt := gLoop_true (l := l) h1
   obtain ⟨T, hT⟩ : ∃ T, gSeen l i = T := ⟨_, rfl⟩
   rw [hT] at hf hok hsd
   obtain ⟨g, hg⟩ : ∃ g, nth l i = g := ⟨_, rfl⟩
   rw [hg] at h4 hsd
   have hm : ∀ k, k < T.length → ((nth l (nth T k)).id == g.id) = true → gLoop l = true := fun k hk e => hlt (by rw [hsd, List.any_eq_true]; exact ⟨_, nth_mem hk, e⟩)
   have hno : (∀ k, k < T.length → ((nth l (nth T k)).id == g.id) = false) → gSelf l i = false := fun h => by
     rw [hsd, List.any_eq_false]
     intro y hy
     obtain ⟨k, hk, rfl⟩ := mem_nth hy
     rw [h k hk]; simp
   have hTs : ∀ k, k < T.length → nth T k < l.length := fun k hk => hok.small _ (nth_mem hk)
   clear hT hg hfr hlt hsd hse hok
   repeat' (first | apply WK.s | apply WK.b | apply WK.k | refine WK.cT rfl ?_ | (apply hQ.h; clear hQ hA) | (refine WK.R (id := 0) Tryz.ntmps69 ?_; intro A hA Q hQ; simp [Group.enc, *]) | (refine WK.R (id := 1) Tryz.ntmps69 ?_; intro A hA Q hQ; simp [Group.enc, *]) | (refine WK.R (id := 2) Tryz.ntmps69 ?_; intro A hA Q hQ; simp [Group.enc, *]) | (refine WK.R (id := 3) Tryz.ntmps69 ?_; intro A hA Q hQ; simp [Group.enc, *]) | (refine WK.R (id := 4) Tryz.ntmps69 ?_; intro A hA Q hQ; simp [Group.enc, *]) | (refine WK.R (id := 5) Tryz.ntmps69 ?_; intro A hA Q hQ; simp [Group.enc, *]) | (refine WK.R (id := 6) Tryz.ntmps69 ?_; intro A hA Q hQ; simp [Group.enc, *]) | (refine RunQ.clearM mpOkInt rfl rfl rfl rfl rfl rfl rfl rfl ?_; refine RunQ.evalH ?_; simp [Group.enc, *]) | (refine RunQ.callB 1 rfl rfl rfl rfl rfl (hf) ?_ ?_ rfl rfl ?_ ?_ ?_; (focus simp (config := zd) [Group.enc, *]; done); (focus simp (config := zd) [Group.enc, *]; done); (focus simp [Group.enc, *]; done); (focus simp [Group.enc, *]; done); refine RunQ.evalH ?_; simp [Group.enc, *]))
   refine WK.named 1 rfl fun m => ?_
   refine WK.regN Tryz.ntmps69 (by kernel_rfl) ?_
   intro A hA Q hQ
   simp [*]
   refine RunN.range 2 mpOkInt rfl rfl rfl rfl (by simp) List.mem_cons_self ?_
   refine RunN.evalH ?_
   simp
   refine hQ.h _ _ ?_
   clear hQ hA
   repeat (apply WK.b)
   refine WK.L (fun n => if n = 3 then 103 else n) (fun vs : List Nat => (⟨(upd (upd (upd (upd (upd (upd (upd (upd J 0 (.sl false l.length (grpL l))) 2 (.bool false)) 3 (.iptr [.sl false l.length (grpL l), .mv 1])) 5 (.ptr 3 0)) 11 (.sl false l.length (grpL l))) 12 (.int .i64 l.length)) 13 (.int .i64 i)) 29 (.ptr 2 0)), (upd (upd (upd B0 1 (.obj (mpObjK (Value.int .i64) (c + (seenE t).length) (seenE T)))) 2 (.obj (itObj m (c + (seenE t).length) (seenE T).length vs))) 3 (.var g.enc)), 0⟩ : St)) (fun vs => (vs.Nodup ∧ ∀ v, v ∈ vs → v < T.length) ∧ ∀ v, v ∈ vs → ((nth l (nth T v)).id == g.id) = false) (fun vs => T.length - vs.length) ([]) (by repeat (first | exact TmW.nil | refine TmW.upd ?_ (by simp (config := zd) [Group.enc]))) (by repeat (first | exact BxW.nil | refine BxW.upd ?_ (by simp (config := zd) [Group.enc]))) (⟨⟨by simp, by simp⟩, by simp⟩) (fun vs hv IHv => ?_)
   repeat apply WK.s
   refine WK.regN Tryz.ntmps69 (by kernel_rfl) ?_
   intro A hA Q hQ
   simp [*]
   refine RunN.next rfl rfl rfl rfl rfl List.mem_cons_self (fun h0 => ?_) (fun k hk hnv => ?_)
   · refine RunN.evalH ?_
     simp
     refine hQ.h _ _ ?_
     clear hQ hA
     have hs := hno (fun k hk => hv.2 k (h0 k (by rw [seenE_len]; exact hk)))
     have hi2 := hi.2
     clear hf hm hno hTs h0 IHv
     refine WK.unname ?_
     repeat' (first | apply WK.s | apply WK.n | refine WK.exit rfl ?_ | refine WK.cF rfl ?_ | (apply hQ.h; clear hQ hA) | (refine WK.R Tryz.ntmps69 ?_; intro A hA Q hQ; simp [*]))
     refine WK.N (fun n => n) (IH ((i + 1, c + (seenE t).length, T)) (⟨by simp only; omega, fun k hk => by by_cases h7 : k = i; (subst h7; exact hs); exact hi2 k (by simp only at hk; omega)⟩) (by first | omega | (dsimp only; omega)))
   · refine RunN.evalH ?_
     simp
     refine hQ.h _ _ ?_
     clear hQ hA
     rw [seenE_len] at hk
     have hge := seenE_get (s := T) (j := k) (by rw [seenE_len]; exact hk) hk
     have hnk := nth_eq hk
     have hsm := hTs k hk
     have hmk := hm k hk
     obtain ⟨n1, n2, n3⟩ := nodup_add hv.1 hk hnv
     obtain ⟨q, hq⟩ : ∃ q, nth T k = q := ⟨_, rfl⟩
     rw [hq] at hsm hmk
     rw [← hnk, hq] at hge
     have hst : ((nth l q).id == g.id) = false → ∀ v, v ∈ vs ++ [k] → ((nth l (nth T v)).id == g.id) = false := fun h v hv' => by
       rcases List.mem_append.1 hv' with hv' | hv'
       · exact hv.2 v hv'
       · simp only [List.mem_singleton] at hv'; subst hv'; rw [hq]; exact h
     have k4 := grp_get0 l q hsm
     have k5 : q * 3 < l.length * 3 := by omega
     have hq' : (q : Int) < l.length := by omega
     clear hf hm hno hTs hnk hq hi IH
     repeat' (first | apply WK.s | apply WK.b | apply WK.k | refine WK.cT rfl ?_)
     refine WK.regN Tryz.ntmps69 (by kernel_rfl) ?_
     intro A hA Q hQ
     simp [*]
     refine RunN.entry rfl rfl rfl rfl rfl List.mem_cons_self (by rw [seenE_len]; exact hk) ?_
     refine RunN.evalH ?_
     simp [hge]
     refine hQ.h _ _ ?_
     clear hQ hA
     cases h5 : (nth l q).id == g.id
     · have hst := hst h5
       clear hmk
       repeat' (first | apply WK.s | apply WK.n | apply WK.k | refine WK.cF rfl ?_ | (refine WK.X Tryz.ntmps69 ?_; intro A hA Q hQ; simp [Group.enc, *]) | (refine hQ.h _ _ _ (by decide +kernel) ?_; clear hQ hA))
       have hlen : (vs ++ [k]).length = vs.length + 1 := by simp
       refine WK.N (fun n => n) (IHv (vs ++ [k]) (⟨⟨n1, n2⟩, hst⟩) (by first | omega | (dsimp only; omega))) (by repeat (first | exact TmW.nil | refine TmW.upd ?_ (by simp (config := zd) [Group.enc]))) (by repeat (first | exact BxW.nil | refine BxW.upd ?_ (by simp (config := zd) [Group.enc])))
     · have e := hmk h5
       rw [e]
       clear hst hmk IHv
       refine WK.unname ?_
       repeat' (first | apply WK.s | refine WK.cT rfl ?_ | (refine hQ.h _ _ ?_; clear hQ hA) | (refine WK.R Tryz.ntmps69 ?_; intro A hA Q hQ; simp [Group.enc, *]) | (refine WK.X Tryz.ntmps69 ?_; intro A hA Q hQ; simp [Group.enc, *]) | (refine hQ.h _ _ _ (by decide +kernel) ?_; clear hQ hA) | (refine WK.t Tryz.func69 ?_ ?_ <;> simp (config := zd) [Tryz.results69, Group.enc, *]))
 · have h1' : ¬ (i : Int) < l.length := by omega
   have e := gLoop_false (l := l) (fun k hk => hi.2 k (by simp only at *; omega))
   rw [e]
   clear hfr IH hi
   repeat' (first | apply WK.s | refine WK.exit rfl ?_ | refine WK.cF rfl ?_ | (apply hQ.h; clear hQ hA) | (refine WK.R Tryz.ntmps69 ?_; intro A hA Q hQ; simp [*]) | (refine WK.t Tryz.func69 ?_ ?_ <;> simp (config := zd) [Tryz.results69, *]))
end Go.Proofs.YtmhapglejjehbaaGreat

namespace Go.Proofs.YtmhapglejjehbaaGreat
open Go Go.AI Go.Proofs
attribute [local irreducible] FnP FnO FnB FnT WK RunQ RunQW RunX RunXW
theorem rgrpbad_c (k : Int) : FnP Tryz.prog 147 [.int .i64 k] (.agg (gF (some (6, k)))) := by
 refine FnP.i Tryz.func147 rfl rfl fun G w => ?_
 repeat' (first | apply WK.s | (apply hQ.h; clear hQ hA) | (refine WK.R Tryz.ntmps147 ?_; intro A hA Q hQ; simp [*]) | (refine WK.t Tryz.func147 ?_ ?_ <;> simp (config := zd) [Tryz.results147, gF, *]))
theorem gAt_first' {l : List Group} {id : Int} {i : Nat} (hi : i < l.length) (h : (nth l i).id = id) (hn : ∀ j, j < i → ((nth l j).id == id) = false) : gPlace l id = i := by
 rw [gPlace_at, gAt_first hi h (fun j hj e => by have := hn j hj; simp [e] at this)]
theorem gAt_no {l : List Group} {id : Int} (hn : ∀ j, j < l.length → ((nth l j).id == id) = false) : gPlace l id = -1 := by
 rw [gPlace_at, gAt_none.2 fun g hg e => by
   obtain ⟨j, hj, rfl⟩ := mem_nth hg
   have := hn j hj; simp [e] at this]
theorem rgplace_c (l : List Group) (id : Int) (hl : l.length ≤ 1000000) : FnP Tryz.prog 88 [grpS l, .int .i64 id] (.int .i64 (gPlace l id)) := by
 obtain ⟨R, hR⟩ : ∃ R, gPlace l id = R := ⟨_, rfl⟩
 have hf := fun {i : Nat} => gAt_first' (l := l) (id := id) (i := i)
 have hno := gAt_no (l := l) (id := id)
 rw [hR] at hf hno ⊢
 clear hR
 unfold grpS
 refine FnP.i Tryz.func88 rfl rfl fun G w => ?_
 repeat' (first | apply WK.s | apply WK.b | (apply hQ.h; clear hQ hA) | (refine WK.R Tryz.ntmps88 ?_; intro A hA Q hQ; simp [*]))
 refine WK.L (fun n => n) (fun i : Nat => (⟨(upd (upd (upd J 0 (.sl false l.length (grpL l))) 1 (.int .i64 id)) 5 (.int .i64 i)), B0, 0⟩ : St)) (fun i => i ≤ l.length ∧ ∀ j, j < i → ((nth l j).id == id) = false) (fun i => l.length - i) (0) (by repeat (first | exact TmW.nil | refine TmW.upd ?_ (by simp (config := zd)))) (by repeat (first | exact BxW.nil | refine BxW.upd ?_ (by simp (config := zd)))) (⟨by omega, by simp⟩) (fun i hi IH => ?_)
 by_cases h1 : i < l.length
 · have h1' : (i : Int) < l.length := by omega
   have h4 := grp_get0 l i h1
   have h6 : IntKind.i64.wrap ((i : Int) + 1) = i + 1 := wrap_i64 (by omega) (by omega)
   have b1 : i * 3 < l.length * 3 := by omega
   cases h5 : (nth l i).id == id
   · clear hf hno
     repeat' (first | apply WK.s | apply WK.b | apply WK.n | apply WK.k | refine WK.cT rfl ?_ | refine WK.cF rfl ?_ | (apply hQ.h; clear hQ hA) | (refine WK.R Tryz.ntmps88 ?_; intro A hA Q hQ; simp [*]))
     refine WK.N (fun n => n) (IH (i + 1) (⟨by omega, fun j hj => by by_cases h7 : j = i; (subst h7; exact h5); exact hi.2 j (by omega)⟩) (by first | omega | (dsimp only; omega)))
   · have e := hf h1 (by simpa using h5) hi.2
     subst e
     clear hf hno IH
     repeat' (first | apply WK.s | apply WK.b | apply WK.k | refine WK.cT rfl ?_ | (apply hQ.h; clear hQ hA) | (refine WK.R Tryz.ntmps88 ?_; intro A hA Q hQ; simp [*]) | (refine WK.t Tryz.func88 ?_ ?_ <;> simp (config := zd) [Tryz.results88, *]))
 · have h1' : ¬ (i : Int) < l.length := by omega
   have e := hno (fun j hj => hi.2 j (by omega))
   subst e
   clear hf hno IH
   repeat' (first | apply WK.s | refine WK.exit rfl ?_ | refine WK.cF rfl ?_ | (apply hQ.h; clear hQ hA) | (refine WK.R Tryz.ntmps88 ?_; intro A hA Q hQ; simp [*]) | (refine WK.t Tryz.func88 ?_ ?_ <;> simp (config := zd) [Tryz.results88, *]))
theorem rgnames_c (l : List Bucket) (hl : l.length ≤ 1000) (ha : ∀ x, x ∈ l → x.acts.length ≤ 1000000) : FnP Tryz.prog 149 [bukS l] (intS (gNames l)) := by
 have hi0 : gNames (l.take 0) = [] := rfl
 unfold bukS intS
 refine FnP.i Tryz.func149 rfl rfl fun G w => ?_
 repeat' (first | apply WK.s | (apply hQ.h; clear hQ hA) | (refine WK.R (id := 0) Tryz.ntmps149 ?_; intro A hA Q hQ; simp [*]) | (refine WK.R (id := 1) Tryz.ntmps149 ?_; intro A hA Q hQ; simp [*]))
 refine WK.ghost (Ghost.own 3 900 1 rfl rfl) ?_
 repeat' (first | apply WK.b | (apply hQ.h; clear hQ hA) | (refine WK.R Tryz.ntmps149 ?_; intro A hA Q hQ; simp [*]))
 refine WK.L (fun n => if n = 1 then 900 else n) (fun i : Nat => (⟨(upd (upd (upd J 0 (.sl false l.length (bukL l))) 3 (.msl 1 0 (gNames (l.take i)).length)) 4 (.int .i64 i)), (upd B0 1 (.buf 1 (intL (gNames (l.take i))))), 0⟩ : St)) (fun i => i ≤ l.length) (fun i => l.length - i) (0) (by repeat (first | exact TmW.nil | refine TmW.upd ?_ (by simp (config := zd) [gNames, intL]))) (by repeat (first | exact BxW.nil | refine BxW.upd ?_ (by simp (config := zd) [gNames, intL]))) (by omega) (fun i hi IH => ?_)
 by_cases h1 : i < l.length
 · have h1' : (i : Int) < l.length := by omega
   have h6 : IntKind.i64.wrap ((i : Int) + 1) = i + 1 := wrap_i64 (by omega) (by omega)
   have hx := nth_mem h1
   have c := raGroups_c (nth l i).acts (ha _ hx)
   have hs := gNames_succ h1
   have hk : i * 4 + 3 < (bukL l).length := by rw [bukL_len]; omega
   have hg := buk_get l i 3 h1 (by omega) hk
   have hg' : (bukL l)[i * 4 + 3] = .sl false (nth l i).acts.length (actL (nth l i).acts) := by rw [hg]; rfl
   have hk' : i * 4 + 3 < l.length * 4 := by omega
   obtain ⟨N, hN⟩ : ∃ N, gNames (l.take i) = N := ⟨_, rfl⟩
   obtain ⟨M, hM⟩ : ∃ N, gNames (l.take (i + 1)) = N := ⟨_, rfl⟩
   obtain ⟨K, hK⟩ : ∃ K, ofA 22 Action.group (nth l i).acts = K := ⟨_, rfl⟩
   have hb : (N.length + K.length) * 8 ≤ 140737488355328 := by
     have a1 := gNames_le (l.take i) 1000000 (fun x hx => ha x (List.mem_of_mem_take hx))
     have a2 : (l.take i).length ≤ 1000 := by rw [List.length_take]; omega
     have a3 := ofA_le 22 Action.group (nth l i).acts
     have a4 := ha _ hx
     have a5 : (l.take i).length * 1000000 ≤ 1000 * 1000000 := Nat.mul_le_mul_right _ a2
     rw [hN] at a1
     rw [hK] at a3
     omega
   have hMl : M.length = N.length + K.length := by rw [← hM, hs, List.length_append, hN, hK]
   have hMi : intL M = intL N ++ intL K := by rw [← hM, hs, hN, hK]; simp [intL]
   rw [hK] at c
   rw [hN]
   unfold actS intS at c
   clear hs hK hl ha hi0 hx hg
   repeat' (first | apply WK.s | apply WK.b | apply WK.n | apply WK.k | refine WK.cT rfl ?_ | (apply hQ.h; clear hQ hA) | (refine WK.R Tryz.ntmps149 ?_; intro A hA Q hQ; simp [*]) | (refine RunQ.append 901 appInt rfl rfl rfl rfl rfl rfl rfl rfl rfl ?_ ?_ ?_ ?_ ?_; (focus first | omega | simp [*]; done); (focus first | omega | simp [*]; done); (focus first | omega | simp [*]; done); (focus first | omega | simp [*]; done); refine RunQ.evalH ?_; simp [*]) | (refine RunQ.k rfl rfl rfl rfl rfl ?_ (c) ?_ ?_ <;> simp (config := zd) [*] <;> refine ⟨?_⟩))
   rw [← hM] at hMl hMi
   refine WK.N (fun n => if n = 1 then 901 else n) (IH (i + 1) (by omega) (by first | omega | (dsimp only; omega))) (by repeat (first | exact TmW.nil | refine TmW.upd ?_ (by simp (config := zd) [hMl, hMi]))) (by repeat (first | exact BxW.nil | refine BxW.upd ?_ (by simp (config := zd) [hMl, hMi])))
 · have hil : i = l.length := by omega
   have h1' : ¬ (i : Int) < l.length := by omega
   subst hil
   rw [List.take_length]
   clear IH hi ha hl hi0
   repeat' (first | apply WK.s | refine WK.exit rfl ?_ | refine WK.cF rfl ?_ | (apply hQ.h; clear hQ hA) | (refine WK.R Tryz.ntmps149 ?_; intro A hA Q hQ; simp [*]))
   have hft : (intL (gNames l)).take (gNames l).length = intL (gNames l) := List.take_of_length_le (by simp [intL])
   refine WK.ghost (Ghost.frzSl 2 1 rfl rfl) ?_
   repeat' (first | (refine WK.t Tryz.func149 ?_ ?_ <;> simp (config := zd) [Tryz.results149, *]))
theorem rgthere_c (l : List Group) (bs : List Bucket) (hl : l.length ≤ 1000000) (hb : bs.length ≤ 1000) (ha : ∀ x, x ∈ bs → x.acts.length ≤ 1000000) : FnP Tryz.prog 90 [grpS l, bukS bs] (.bool (gThere l bs)) := by
 have hn := gNames_le bs 1000000 ha
 have hn' : bs.length * 1000000 ≤ 1000 * 1000000 := Nat.mul_le_mul_right _ hb
 have p := rgnames_c bs hb ha
 have hpl : ∀ id, FnP Tryz.prog 88 [grpS l, .int .i64 id] (.int .i64 (gPlace l id)) := fun id => rgplace_c l id hl
 have e : ∀ id, decide (gPlace l id < 0) = !(gAt l id).isSome := fun id => by
   rw [gPlace_at]
   cases gAt l id with
   | none => simp
   | some i => simp
 obtain ⟨R, hR⟩ : ∃ R, gThere l bs = R := ⟨_, rfl⟩
 have h0 : ∀ i, i < (gNames bs).length → decide (gPlace l (nth (gNames bs) i) < 0) = true → R = false := fun i hi h => by
   rw [e] at h
   rw [← hR]; unfold gThere
   rw [List.all_eq_false]
   exact ⟨_, nth_mem hi, by simpa using h⟩
 have h2 : (∀ i, i < (gNames bs).length → decide (gPlace l (nth (gNames bs) i) < 0) = false) → R = true := fun h => by
   rw [← hR]; unfold gThere
   rw [List.all_eq_true]
   intro id hid
   obtain ⟨i, hi, rfl⟩ := mem_nth hid
   have := h i hi
   rw [e] at this
   simpa using this
 obtain ⟨N, hN⟩ : ∃ N, gNames bs = N := ⟨_, rfl⟩
 rw [hN] at p h0 h2 hn
 rw [hR]
 have hNl : N.length ≤ 1000000000 := by omega
 clear hR hN hn hn' ha e
 unfold grpS bukS intS at *
 refine FnP.i Tryz.func90 rfl rfl fun G w => ?_
 repeat' (first | apply WK.s | apply WK.b | (apply hQ.h; clear hQ hA) | (refine WK.R Tryz.ntmps90 ?_; intro A hA Q hQ; simp [*]) | (refine RunQ.k rfl rfl rfl rfl rfl ?_ (p) ?_ ?_ <;> simp (config := zd) [*] <;> refine ⟨?_⟩))
 refine WK.L (fun n => n) (fun i : Nat => (⟨(upd (upd (upd J 0 (.sl false l.length (grpL l))) 5 (.sl false N.length (intL N))) 6 (.int .i64 i)), B0, 0⟩ : St)) (fun i => i ≤ N.length ∧ ∀ j, j < i → decide (gPlace l (nth N j) < 0) = false) (fun i => N.length - i) (0) (by repeat (first | exact TmW.nil | refine TmW.upd ?_ (by simp (config := zd)))) (by repeat (first | exact BxW.nil | refine BxW.upd ?_ (by simp (config := zd)))) (⟨by omega, by simp⟩) (fun i hi IH => ?_)
 by_cases h1 : i < N.length
 · have h1' : (i : Int) < N.length := by omega
   have h3 : i < (intL N).length := by rw [show (intL N).length = N.length by simp [intL]]; exact h1
   have h4 := intL_get' N i h1
   have h6 : IntKind.i64.wrap ((i : Int) + 1) = i + 1 := wrap_i64 (by omega) (by omega)
   have c := hpl (nth N i)
   have f0 := h0 i h1
   obtain ⟨id, hid⟩ : ∃ id, nth N i = id := ⟨_, rfl⟩
   have hi2 := hi.2
   have hst : decide (gPlace l id < 0) = false → ∀ j, j < i + 1 → decide (gPlace l (nth N j) < 0) = false := fun h j hj => by
     by_cases h7 : j = i
     · subst h7; rw [hid]; exact h
     · exact hi2 j (by omega)
   rw [hid] at c f0 h4
   clear h0 h2 hpl hid hi2
   cases h5 : decide (gPlace l id < 0)
   · have h5' : ¬ gPlace l id < 0 := by simpa using h5
     have hst := hst h5
     obtain ⟨P, hP⟩ : ∃ P, gPlace l id = P := ⟨_, rfl⟩
     rw [hP] at c h5'
     clear f0 h5 hP
     repeat' (first | apply WK.s | apply WK.b | apply WK.n | apply WK.k | refine WK.cT rfl ?_ | refine WK.cF rfl ?_ | (apply hQ.h; clear hQ hA) | (refine WK.R Tryz.ntmps90 ?_; intro A hA Q hQ; simp [*]) | (refine RunQ.k rfl rfl rfl rfl rfl ?_ (c) ?_ ?_ <;> simp (config := zd) [*] <;> refine ⟨?_⟩))
     refine WK.N (fun n => n) (IH (i + 1) (⟨by omega, hst⟩) (by first | omega | (dsimp only; omega)))
   · have h5' : gPlace l id < 0 := by simpa using h5
     have e := f0 h5
     subst e
     obtain ⟨P, hP⟩ : ∃ P, gPlace l id = P := ⟨_, rfl⟩
     rw [hP] at c h5'
     clear hst h5 hP IH
     repeat' (first | apply WK.s | apply WK.b | apply WK.k | refine WK.cT rfl ?_ | (apply hQ.h; clear hQ hA) | (refine WK.R Tryz.ntmps90 ?_; intro A hA Q hQ; simp [*]) | (refine RunQ.k rfl rfl rfl rfl rfl ?_ (c) ?_ ?_ <;> simp (config := zd) [*] <;> refine ⟨?_⟩) | (refine WK.t Tryz.func90 ?_ ?_ <;> simp (config := zd) [Tryz.results90, *]))
 · have h1' : ¬ (i : Int) < N.length := by omega
   have e := h2 (fun j hj => hi.2 j (by omega))
   subst e
   clear h0 h2 hpl IH hi
   repeat' (first | apply WK.s | refine WK.exit rfl ?_ | refine WK.cF rfl ?_ | (apply hQ.h; clear hQ hA) | (refine WK.R Tryz.ntmps90 ?_; intro A hA Q hQ; simp [*]) | (refine WK.t Tryz.func90 ?_ ?_ <;> simp (config := zd) [Tryz.results90, *]))
theorem rgone_c (kind : Int) (x : Bucket) : FnP Tryz.prog 148 [.int .i64 kind, .agg x.enc] (.agg (gF ((gOne kind x).map fun c => (6, c)))) := by
 have b1 := rgrpbad_c 1
 have b2 := rgrpbad_c 2
 have b6 := rgrpbad_c 6
 have b13 := rgrpbad_c 13
 have f1 : ∀ c, gF (some (6, c)) = [.bool true, .int .i64 6, .int .i64 c] := fun c => rfl
 rw [f1] at b1 b2 b6 b13
 have f0 : gF (none : Option (Int × Int)) = [.bool false, .int .i64 0, .int .i64 0] := rfl
 unfold gOne gWeigh gWatch
 by_cases h1 : x.wgroup = 4294967295
 case neg =>
   have h1' : (x.wgroup == 4294967295) = false := by simpa using h1
   rw [if_pos h1, Option.map_some, f1]
   refine FnP.i Tryz.func148 rfl rfl fun G w => ?_
   repeat' (first | apply WK.s | apply WK.b | refine WK.cT rfl ?_ | (apply hQ.h; clear hQ hA) | (refine WK.R Tryz.ntmps148 ?_; intro A hA Q hQ; simp [Bucket.enc, bne, *]) | (refine RunQ.k rfl rfl rfl rfl rfl ?_ (b6) ?_ ?_ <;> simp (config := zd) [Bucket.enc, bne, *] <;> refine ⟨?_⟩) | (refine WK.t Tryz.func148 ?_ ?_ <;> simp (config := zd) [Tryz.results148, Bucket.enc, bne, *]))
 rw [if_neg (by simpa using h1)]
 by_cases hk : kind = 1
 · subst hk
   rw [if_pos rfl]
   by_cases h2 : x.weight = 1
   · rw [if_neg (by simpa using h2), if_neg (show ¬ ((1 : Int) = 3) by decide)]
     by_cases h3 : x.watch = 4294967295
     · rw [if_neg (by simpa using h3), Option.map_none, f0]
       refine FnP.i Tryz.func148 rfl rfl fun G w => ?_
       repeat' (first | apply WK.s | apply WK.b | apply WK.n | apply WK.k | refine WK.cF rfl ?_ | (apply hQ.h; clear hQ hA) | (refine WK.R Tryz.ntmps148 ?_; intro A hA Q hQ; simp [Bucket.enc, bne, *]) | (refine RunQ.g rfl (by rw [hA.h]; rfl) ?_; simp [Bucket.enc, bne, *]) | (refine WK.t Tryz.func148 ?_ ?_ <;> simp (config := zd) [Tryz.results148, Bucket.enc, bne, *]))
     · have h3' : (x.watch == 4294967295) = false := by simpa using h3
       rw [if_pos (by simpa using h3), Option.map_some, f1]
       refine FnP.i Tryz.func148 rfl rfl fun G w => ?_
       repeat' (first | apply WK.s | apply WK.b | refine WK.cT rfl ?_ | refine WK.cF rfl ?_ | (apply hQ.h; clear hQ hA) | (refine WK.R Tryz.ntmps148 ?_; intro A hA Q hQ; simp [Bucket.enc, bne, *]) | (refine RunQ.g rfl (by rw [hA.h]; rfl) ?_; simp [Bucket.enc, bne, *]) | (refine RunQ.k rfl rfl rfl rfl rfl ?_ (b13) ?_ ?_ <;> simp (config := zd) [Bucket.enc, bne, *] <;> refine ⟨?_⟩) | (refine WK.t Tryz.func148 ?_ ?_ <;> simp (config := zd) [Tryz.results148, Bucket.enc, bne, *]))
   · have h2' : (x.weight == 1) = false := by simpa using h2
     rw [if_pos (by simpa using h2), Option.map_some, f1]
     refine FnP.i Tryz.func148 rfl rfl fun G w => ?_
     repeat' (first | apply WK.s | apply WK.b | refine WK.cT rfl ?_ | refine WK.cF rfl ?_ | (apply hQ.h; clear hQ hA) | (refine WK.R Tryz.ntmps148 ?_; intro A hA Q hQ; simp [Bucket.enc, bne, *]) | (refine RunQ.g rfl (by rw [hA.h]; rfl) ?_; simp [Bucket.enc, bne, *]) | (refine RunQ.k rfl rfl rfl rfl rfl ?_ (b2) ?_ ?_ <;> simp (config := zd) [Bucket.enc, bne, *] <;> refine ⟨?_⟩) | (refine WK.t Tryz.func148 ?_ ?_ <;> simp (config := zd) [Tryz.results148, Bucket.enc, bne, *]))
 · have hk' : (kind == 1) = false := by simpa using hk
   rw [if_neg hk]
   by_cases h2 : x.weight = 0
   · rw [if_neg (by simpa using h2)]
     by_cases hk3 : kind = 3
     · subst hk3
       rw [if_pos rfl]
       by_cases g1 : 1 ≤ x.watch
       · have g1' : ¬ x.watch < 1 := by omega
         by_cases g2 : x.watch ≤ 6
         · have g2' : ¬ 6 < x.watch := by omega
           rw [decide_eq_true g1, decide_eq_true g2, if_neg (by decide), Option.map_none, f0]
           refine FnP.i Tryz.func148 rfl rfl fun G w => ?_
           repeat' (first | apply WK.s | apply WK.b | apply WK.n | apply WK.k | refine WK.cF rfl ?_ | (apply hQ.h; clear hQ hA) | (refine WK.R Tryz.ntmps148 ?_; intro A hA Q hQ; simp [Bucket.enc, bne, *]) | (refine RunQ.g rfl (by rw [hA.h]; rfl) ?_; simp [Bucket.enc, bne, *]) | (refine WK.t Tryz.func148 ?_ ?_ <;> simp (config := zd) [Tryz.results148, Bucket.enc, bne, *]))
         · have g2' : 6 < x.watch := by omega
           rw [decide_eq_true g1, decide_eq_false g2, if_pos (by decide), Option.map_some, f1]
           refine FnP.i Tryz.func148 rfl rfl fun G w => ?_
           repeat' (first | apply WK.s | apply WK.b | refine WK.cT rfl ?_ | refine WK.cF rfl ?_ | (apply hQ.h; clear hQ hA) | (refine WK.R Tryz.ntmps148 ?_; intro A hA Q hQ; simp [Bucket.enc, bne, *]) | (refine RunQ.g rfl (by rw [hA.h]; rfl) ?_; simp [Bucket.enc, bne, *]) | (refine RunQ.k rfl rfl rfl rfl rfl ?_ (b13) ?_ ?_ <;> simp (config := zd) [Bucket.enc, bne, *] <;> refine ⟨?_⟩) | (refine WK.t Tryz.func148 ?_ ?_ <;> simp (config := zd) [Tryz.results148, Bucket.enc, bne, *]))
       · have g1' : x.watch < 1 := by omega
         rw [decide_eq_false g1, if_pos (by simp), Option.map_some, f1]
         refine FnP.i Tryz.func148 rfl rfl fun G w => ?_
         repeat' (first | apply WK.s | apply WK.b | refine WK.cT rfl ?_ | refine WK.cF rfl ?_ | (apply hQ.h; clear hQ hA) | (refine WK.R Tryz.ntmps148 ?_; intro A hA Q hQ; simp [Bucket.enc, bne, *]) | (refine RunQ.g rfl (by rw [hA.h]; rfl) ?_; simp [Bucket.enc, bne, *]) | (refine RunQ.k rfl rfl rfl rfl rfl ?_ (b13) ?_ ?_ <;> simp (config := zd) [Bucket.enc, bne, *] <;> refine ⟨?_⟩) | (refine WK.t Tryz.func148 ?_ ?_ <;> simp (config := zd) [Tryz.results148, Bucket.enc, bne, *]))
     · have hk3' : (kind == 3) = false := by simpa using hk3
       rw [if_neg hk3]
       by_cases h3 : x.watch = 4294967295
       · rw [if_neg (by simpa using h3), Option.map_none, f0]
         refine FnP.i Tryz.func148 rfl rfl fun G w => ?_
         repeat' (first | apply WK.s | apply WK.b | apply WK.n | apply WK.k | refine WK.cF rfl ?_ | (apply hQ.h; clear hQ hA) | (refine WK.R Tryz.ntmps148 ?_; intro A hA Q hQ; simp [Bucket.enc, bne, *]) | (refine RunQ.g rfl (by rw [hA.h]; rfl) ?_; simp [Bucket.enc, bne, *]) | (refine WK.t Tryz.func148 ?_ ?_ <;> simp (config := zd) [Tryz.results148, Bucket.enc, bne, *]))
       · have h3' : (x.watch == 4294967295) = false := by simpa using h3
         rw [if_pos (by simpa using h3), Option.map_some, f1]
         refine FnP.i Tryz.func148 rfl rfl fun G w => ?_
         repeat' (first | apply WK.s | apply WK.b | refine WK.cT rfl ?_ | refine WK.cF rfl ?_ | (apply hQ.h; clear hQ hA) | (refine WK.R Tryz.ntmps148 ?_; intro A hA Q hQ; simp [Bucket.enc, bne, *]) | (refine RunQ.g rfl (by rw [hA.h]; rfl) ?_; simp [Bucket.enc, bne, *]) | (refine RunQ.k rfl rfl rfl rfl rfl ?_ (b13) ?_ ?_ <;> simp (config := zd) [Bucket.enc, bne, *] <;> refine ⟨?_⟩) | (refine WK.t Tryz.func148 ?_ ?_ <;> simp (config := zd) [Tryz.results148, Bucket.enc, bne, *]))
   · have h2' : (x.weight == 0) = false := by simpa using h2
     rw [if_pos (by simpa using h2), Option.map_some, f1]
     refine FnP.i Tryz.func148 rfl rfl fun G w => ?_
     repeat' (first | apply WK.s | apply WK.b | refine WK.cT rfl ?_ | refine WK.cF rfl ?_ | (apply hQ.h; clear hQ hA) | (refine WK.R Tryz.ntmps148 ?_; intro A hA Q hQ; simp [Bucket.enc, bne, *]) | (refine RunQ.g rfl (by rw [hA.h]; rfl) ?_; simp [Bucket.enc, bne, *]) | (refine RunQ.k rfl rfl rfl rfl rfl ?_ (b1) ?_ ?_ <;> simp (config := zd) [Bucket.enc, bne, *] <;> refine ⟨?_⟩) | (refine WK.t Tryz.func148 ?_ ?_ <;> simp (config := zd) [Tryz.results148, Bucket.enc, bne, *]))
end Go.Proofs.YtmhapglejjehbaaGreat

namespace Go.Proofs.YtmhapglejjehbaaGreat
open Go Go.AI Go.Proofs
attribute [local irreducible] FnP FnO FnB FnT WK RunQ RunQW RunX RunXW RunN
set_option maxHeartbeats 4000000 in
theorem rgcheck_c (kind : Int) (l : List Bucket) (hl : l.length ≤ 1000000) : FnP Tryz.prog 89 [.int .i64 kind, bukS l] (.agg (gF (gCheck kind l))) := by
 have f1 : ∀ c, gF (some (6, c)) = [.bool true, .int .i64 6, .int .i64 c] := fun c => rfl
 have f0 : gF (none : Option (Int × Int)) = [.bool false, .int .i64 0, .int .i64 0] := rfl
 unfold bukS
 by_cases h1 : kind < 0 ∨ 3 < kind
 · have e : gCheck kind l = some (6, 10) := by unfold gCheck; rw [if_pos h1]
   have b := rgrpbad_c 10
   rw [e]
   clear e
   rcases h1 with h1 | h1
   · refine FnP.i Tryz.func89 rfl rfl fun G w => ?_
     repeat' (first | apply WK.s | apply WK.b | refine WK.cT rfl ?_ | (apply hQ.h; clear hQ hA) | (refine WK.R Tryz.ntmps89 ?_; intro A hA Q hQ; simp [gF, *]) | (refine RunQ.g rfl (by rw [hA.h]; rfl) ?_; simp [gF, *]) | (refine RunQ.k rfl rfl rfl rfl rfl ?_ (b) ?_ ?_ <;> simp (config := zd) [gF, *] <;> refine ⟨?_⟩) | (refine WK.t Tryz.func89 ?_ ?_ <;> simp (config := zd) [Tryz.results89, gF, *]))
   · have h0 : ¬ kind < 0 := by omega
     refine FnP.i Tryz.func89 rfl rfl fun G w => ?_
     repeat' (first | apply WK.s | apply WK.b | refine WK.cT rfl ?_ | (apply hQ.h; clear hQ hA) | (refine WK.R Tryz.ntmps89 ?_; intro A hA Q hQ; simp [gF, *]) | (refine RunQ.g rfl (by rw [hA.h]; rfl) ?_; simp [gF, *]) | (refine RunQ.k rfl rfl rfl rfl rfl ?_ (b) ?_ ?_ <;> simp (config := zd) [gF, *] <;> refine ⟨?_⟩) | (refine WK.t Tryz.func89 ?_ ?_ <;> simp (config := zd) [Tryz.results89, gF, *]))
 have h10 : ¬ kind < 0 := fun h => h1 (.inl h)
 have h11 : ¬ 3 < kind := fun h => h1 (.inr h)
 by_cases h2 : 4 < l.length
 · have e : gCheck kind l = some (6, 4) := by unfold gCheck; rw [if_neg h1, if_pos h2]
   rw [e]
   have b := rgrpbad_c 4
   have h2' : (4 : Int) < l.length := by omega
   clear e h1
   refine FnP.i Tryz.func89 rfl rfl fun G w => ?_
   repeat' (first | apply WK.s | apply WK.b | refine WK.cT rfl ?_ | refine WK.cF rfl ?_ | (apply hQ.h; clear hQ hA) | (refine WK.R Tryz.ntmps89 ?_; intro A hA Q hQ; simp [gF, *]) | (refine RunQ.g rfl (by rw [hA.h]; rfl) ?_; simp [gF, *]) | (refine RunQ.k rfl rfl rfl rfl rfl ?_ (b) ?_ ?_ <;> simp (config := zd) [gF, *] <;> refine ⟨?_⟩) | (refine WK.t Tryz.func89 ?_ ?_ <;> simp (config := zd) [Tryz.results89, gF, *]))
 have h2' : ¬ (4 : Int) < l.length := by omega
 by_cases h3 : kind = 2 ∧ ¬ l.length = 1
 · have e : gCheck kind l = some (6, 1) := by unfold gCheck; rw [if_neg h1, if_neg h2, if_pos h3]
   rw [e]
   have b := rgrpbad_c 1
   obtain ⟨rfl, h3⟩ := h3
   have h3' : ((l.length : Int) == 1) = false := by rw [beq_eq_false_iff_ne]; omega
   clear e h1
   refine FnP.i Tryz.func89 rfl rfl fun G w => ?_
   repeat' (first | apply WK.s | apply WK.b | refine WK.cT rfl ?_ | refine WK.cF rfl ?_ | (apply hQ.h; clear hQ hA) | (refine WK.R Tryz.ntmps89 ?_; intro A hA Q hQ; simp [gF, bne, *]) | (refine RunQ.g rfl (by rw [hA.h]; rfl) ?_; simp [gF, bne, *]) | (refine RunQ.k rfl rfl rfl rfl rfl ?_ (b) ?_ ?_ <;> simp (config := zd) [gF, bne, *] <;> refine ⟨?_⟩) | (refine WK.t Tryz.func89 ?_ ?_ <;> simp (config := zd) [Tryz.results89, gF, bne, *]))
 have e : gCheck kind l = (gCheckF kind l).map fun c => (6, c) := by unfold gCheck; rw [if_neg h1, if_neg h2, if_neg h3]
 rw [e]
 have hkk : (kind == 2) = false ∨ ((kind == 2) = true ∧ ((l.length : Int) == 1) = true) := by
   by_cases hk : kind = 2
   · have : l.length = 1 := by
       rcases Nat.decEq l.length 1 with h | h
       · exact absurd ⟨hk, h⟩ h3
       · exact h
     rw [this]; simp [hk]
   · left; simpa using hk
 obtain ⟨R, hR⟩ : ∃ R, gCheckF kind l = R := ⟨_, rfl⟩
 rw [hR]
 have hone : ∀ x, FnP Tryz.prog 148 [.int .i64 kind, .agg x.enc] (.agg (gF ((gOne kind x).map fun c => (6, c)))) := fun x => rgone_c kind x
 clear e h1 h2 h3
 refine FnP.i Tryz.func89 rfl rfl fun G w => ?_
 rcases hkk with hk | ⟨hk, hk1⟩
 all_goals
   repeat' (first | apply WK.s | apply WK.b | apply WK.n | apply WK.k | refine WK.cF rfl ?_ | (apply hQ.h; clear hQ hA) | (refine WK.R (id := 0) Tryz.ntmps89 ?_; intro A hA Q hQ; simp [bne, *]) | (refine WK.R (id := 1) Tryz.ntmps89 ?_; intro A hA Q hQ; simp [bne, *]) | (refine WK.R (id := 2) Tryz.ntmps89 ?_; intro A hA Q hQ; simp [bne, *]) | (refine WK.R (id := 3) Tryz.ntmps89 ?_; intro A hA Q hQ; simp [bne, *]) | (refine WK.R (id := 4) Tryz.ntmps89 ?_; intro A hA Q hQ; simp [bne, *]) | (refine WK.R (id := 5) Tryz.ntmps89 ?_; intro A hA Q hQ; simp [bne, *]) | (refine WK.R (id := 6) Tryz.ntmps89 ?_; intro A hA Q hQ; simp [bne, *]) | (refine WK.R (id := 7) Tryz.ntmps89 ?_; intro A hA Q hQ; simp [bne, *]) | (refine RunQ.g rfl (by rw [hA.h]; rfl) ?_; simp [bne, *]))
   refine WK.L (fun n => n) (fun i : Nat => (⟨(upd (upd (upd (upd J 0 (.int .i64 kind)) 1 (.sl false l.length (bukL l))) 4 (.ptr 0 0)) 5 (.int .i64 i)), (upd B0 0 (.var [.bool false, .int .i64 0, .int .i64 0])), 0⟩ : St)) (fun i => i ≤ l.length ∧ gCheckF kind (l.drop i) = R) (fun i => l.length - i) (0) (by repeat (first | exact TmW.nil | refine TmW.upd ?_ (by simp (config := zd)))) (by repeat (first | exact BxW.nil | refine BxW.upd ?_ (by simp (config := zd)))) (⟨by omega, hR⟩) (fun i hi IH => ?_)
   by_cases g1 : i < l.length
   · have g1' : (i : Int) < l.length := by omega
     obtain ⟨h4, h3⟩ := buk_load l i g1
     have h6 : IntKind.i64.wrap ((i : Int) + 1) = i + 1 := wrap_i64 (by omega) (by omega)
     have hd := gCheckF_at (kind := kind) g1
     rw [hi.2] at hd
     have ho := hone (nth l i)
     obtain ⟨x, hx⟩ : ∃ x, nth l i = x := ⟨_, rfl⟩
     rw [hx] at h4 hd ho
     clear hR hone hx hk
     cases q1 : gOne kind x with
     | none =>
       rw [q1] at hd ho
       rw [Option.map_none, f0] at ho
       simp only at hd
       clear f1
       repeat' (first | apply WK.s | apply WK.b | apply WK.n | apply WK.k | refine WK.cT rfl ?_ | refine WK.cF rfl ?_ | (apply hQ.h; clear hQ hA) | (refine WK.R Tryz.ntmps89 ?_; intro A hA Q hQ; simp [*]) | (refine RunQ.k rfl rfl rfl rfl rfl ?_ (ho) ?_ ?_ <;> simp (config := zd) [*] <;> refine ⟨?_⟩))
       refine WK.N (fun n => n) (IH (i + 1) (⟨by omega, hd.symm⟩) (by first | omega | (dsimp only; omega)))
     | some c =>
       rw [q1] at hd ho
       rw [Option.map_some, f1] at ho
       simp only at hd
       rw [hd, Option.map_some, f1]
       clear f1 IH hi hd
       repeat' (first | apply WK.s | apply WK.b | apply WK.k | refine WK.cT rfl ?_ | (apply hQ.h; clear hQ hA) | (refine WK.R Tryz.ntmps89 ?_; intro A hA Q hQ; simp [*]) | (refine RunQ.k rfl rfl rfl rfl rfl ?_ (ho) ?_ ?_ <;> simp (config := zd) [*] <;> refine ⟨?_⟩) | (refine WK.t Tryz.func89 ?_ ?_ <;> simp (config := zd) [Tryz.results89, *]))
   · have g1' : ¬ (i : Int) < l.length := by omega
     have hd := hi.2
     rw [List.drop_of_length_le (by omega)] at hd
     have hd' : none = R := hd
     subst hd'
     rw [Option.map_none, f0]
     clear IH hi hd hR hone hk f1
     repeat' (first | apply WK.s | refine WK.exit rfl ?_ | refine WK.cF rfl ?_ | (apply hQ.h; clear hQ hA) | (refine WK.R Tryz.ntmps89 ?_; intro A hA Q hQ; simp [*]) | (refine WK.t Tryz.func89 ?_ ?_ <;> simp (config := zd) [Tryz.results89, *]))
def seenB (n : Nat) (s : List Nat) : List AV := (List.range n).map fun j => .bool (decide (j ∈ s))
@[simp] theorem seenB_len (n : Nat) (s : List Nat) : (seenB n s).length = n := by simp [seenB]
@[simp] theorem seenB_cl (n : Nat) (s : List Nat) : ClL (seenB n s) = true := by
 unfold seenB
 induction List.range n with
 | nil => rfl
 | cons x l ih => simp only [List.map_cons, ClL, Cl, ih, Bool.true_and]
theorem seenB_get (n : Nat) (s : List Nat) (j : Nat) (h : j < n) (h' : j < (seenB n s).length) : (seenB n s)[j] = .bool (decide (j ∈ s)) := by simp [seenB]
theorem seenB_nil (n : Nat) : seenB n [] = List.replicate n (AV.bool false) := by
 unfold seenB
 simp only [List.not_mem_nil, decide_false]
 rw [List.map_const', List.length_range]
theorem seenB_add {n : Nat} {s : List Nat} {i : Nat} (h : i < n) : (seenB n s).take i ++ AV.bool true :: (seenB n s).drop (i + 1) = seenB n (s ++ [i]) := by
 apply List.ext_getElem
 · simp; omega
 · intro j h1 h2
   rw [seenB_get _ _ _ (by simpa using h2)]
   rcases Nat.lt_trichotomy j i with hj | hj | hj
   · rw [List.getElem_append_left (by simp; omega), List.getElem_take, seenB_get _ _ _ (by omega)]
     have : j ≠ i := by omega
     simp [this]
   · subst hj
     have hmin : min j n = j := Nat.min_eq_left (Nat.le_of_lt h)
     rw [List.getElem_append_right (by simp [hmin])]
     simp [hmin]
   · rw [List.getElem_append_right (by simp; omega)]
     have e : j - ((seenB n s).take i).length = (j - i - 1) + 1 := by simp; omega
     simp only [e, List.getElem_cons_succ, List.getElem_drop]
     rw [seenB_get _ _ _ (by simp at h2; omega)]
     have e2 : i + 1 + (j - i - 1) = j := by omega
     have : j ≠ i := by omega
     rw [e2]; simp [this]
def bStep (l : List Group) (p : List Nat × List Nat) (id : Int) : List Nat × List Nat := match gAt l id with
 | none => p
 | some i => bfsOne p i
theorem bfs_names (l : List Group) (a : Nat) (p : List Nat × List Nat) : (gSucc l a).foldl bfsOne p = (gNames (nth l a).buckets).foldl (bStep l) p := by
 unfold gSucc
 rw [List.foldl_filterMap]
 congr 1
 funext s id
 unfold bStep
 cases gAt l id <;> rfl
theorem appBool : AppOk Tryz.prog 186 4 1 1 := ⟨by simp, by simp, by simp, by simp, by simp, by simp, by omega, by omega⟩
end Go.Proofs.YtmhapglejjehbaaGreat
