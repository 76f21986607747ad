/- Groups: are the names there; what a row of ints holds. -/
import Derived.Test.YtmhapglejjehbaaGreatAf
import Derived.Test.YtmhapglejjehbaaGreatWk7
import Derived.Test.YtmhapglejjehbaaGreatAg
import Derived.Test.YtmhapglejjehbaaGreatWk5
set_option linter.all false
set_option linter.unnecessarySimpa false
namespace Go.Proofs.YtmhapglejjehbaaGreat
open Go Go.AI Go.Proofs
attribute [local irreducible] FnP FnO FnB FnT FnSeq FnV FnSeqV WK RunQ RunQW RunX RunXW
theorem indexf_int (fid : Nat) (caps : List AV) (p : Int → Bool) (l : List Int) (hcl : ClL caps = true) (hl : l.length ≤ 1000000000)
   (hf : ∀ x, x ∈ l → FnP Tryz.prog fid (.int .i64 x :: caps) (.bool (p x))) : FnP Tryz.prog 173 [intS l, .fn fid caps] (.int .i64 (idxI p l)) := by
 unfold intS
 refine FnP.i Tryz.func173 rfl rfl fun G w => ?_
 repeat apply WK.s
 refine WK.g 100 Tryz.ntmps173 (by kernel_rfl) ?_
 intro A hA Q hQ
 simp
 apply hQ
 clear hQ hA
 repeat apply WK.s
 refine WK.g 200 Tryz.ntmps173 (by kernel_rfl) ?_
 intro A hA Q hQ
 simp
 apply hQ
 clear hQ hA
 repeat (apply WK.b)
 refine WK.lI (fun n => n) (fun i : Nat => (⟨(upd (upd (upd (upd J 0 (.sl false l.length (intL l))) 1 (.fn fid caps)) 7 (.int .i64 l.length)) 8 (.int .i64 i)), B0, 0⟩ : St)) (fun i => i ≤ l.length ∧ ∀ j, j < i → p (nth l j) = false) (fun i => l.length - i) (0) (by repeat (first | exact TmW.nil | refine TmW.upd ?_ (by simp (maxDischargeDepth := 120) [hcl]))) (by repeat (first | exact BxW.nil | refine BxW.upd ?_ (by simp (maxDischargeDepth := 120) [hcl]))) InjW.id (⟨by omega, by simp⟩) (fun i hi IH => ?_)
 by_cases h1 : i < l.length
 · have h1' : (i : Int) < l.length := by omega
   have h3 : i < (intL l).length := by rw [show (intL l).length = l.length by simp [intL]]; exact h1
   have h4 := intL_get' l i h1
   have h6 : IntKind.i64.wrap ((i : Int) + 1) = i + 1 := wrap_i64 (by omega) (by omega)
   have c := hf (nth l i) (nth_mem h1)
   cases h5 : p (nth l i)
   · rw [h5] at c
     repeat' (first | apply WK.s | apply WK.b | apply WK.n | apply WK.k | refine WK.cT rfl ?_ | refine WK.cF rfl ?_ | (refine hQ.h _ _ ?_; clear hQ hA) | (refine WK.rH Tryz.ntmps173 (by kernel_rfl) ?_; intro A hA Q hQ; simp [*]) | (refine RunQ.k rfl rfl rfl rfl rfl ?_ (c) ?_ ?_ <;> simp (maxDischargeDepth := 120) [*] <;> refine ⟨?_⟩))
     refine WK.next (fun n => n) (IH (i + 1) (⟨by omega, fun j hj => by by_cases h7 : j = i; (subst h7; exact h5); exact hi.2 j (by omega)⟩) (by first | omega | (dsimp only; omega))) (by repeat (first | exact TmW.nil | refine TmW.upd ?_ (by simp (maxDischargeDepth := 120) [hcl]))) (by repeat (first | exact BxW.nil | refine BxW.upd ?_ (by simp (maxDischargeDepth := 120) [hcl]))) InjW.id
   · rw [h5] at c
     have e := idxI_some h1 h5 hi.2
     clear IH hf
     repeat' (first | apply WK.s | apply WK.b | apply WK.k | refine WK.cT rfl ?_ | (refine hQ.h _ _ ?_; clear hQ hA) | (refine WK.rH Tryz.ntmps173 (by kernel_rfl) ?_; intro A hA Q hQ; simp [*]) | (refine RunQ.k rfl rfl rfl rfl rfl ?_ (c) ?_ ?_ <;> simp (maxDischargeDepth := 120) [*] <;> refine ⟨?_⟩) | (refine WK.t Tryz.func173 ?_ ?_ <;> simp (maxDischargeDepth := 120) [Tryz.results173, *]))
 · have h1' : ¬ (i : Int) < l.length := by omega
   have e := idxI_none (p := p) (l := l) (fun j hj => hi.2 j (by omega))
   clear IH hf
   repeat' (first | apply WK.s | refine WK.exit rfl ?_ | refine WK.cF rfl ?_ | (refine hQ.h _ _ ?_; clear hQ hA) | (refine WK.rH Tryz.ntmps173 (by kernel_rfl) ?_; intro A hA Q hQ; simp [*]) | (refine WK.t Tryz.func173 ?_ ?_ <;> simp (maxDischargeDepth := 120) [Tryz.results173, *]))
theorem containsf_int (fid : Nat) (caps : List AV) (p : Int → Bool) (l : List Int) (hcl : ClL caps = true) (hl : l.length ≤ 1000000000)
   (hf : ∀ x, x ∈ l → FnP Tryz.prog fid (.int .i64 x :: caps) (.bool (p x))) : FnP Tryz.prog 127 [intS l, .fn fid caps] (.bool (l.any p)) := by
 have e := idxI_ge p l
 simp only [ge_iff_le] at e
 have c := indexf_int fid caps p l hcl hl hf
 unfold intS at *
 clear hf
 refine FnP.i Tryz.func127 rfl rfl fun G w => ?_
 repeat' (first | apply WK.s | (refine hQ.h _ _ ?_; clear hQ hA) | (refine WK.rH Tryz.ntmps127 (by kernel_rfl) ?_; intro A hA Q hQ; simp [*]) | (refine RunQ.k rfl rfl rfl rfl rfl ?_ (c) ?_ ?_ <;> simp (maxDischargeDepth := 120) [*] <;> refine ⟨?_⟩) | (refine WK.t Tryz.func127 ?_ ?_ <;> simp (maxDischargeDepth := 120) [Tryz.results127, *]))
theorem gthere_c (l : List Group) (bs : List Bucket) (hl : l.length ≤ 1000000) (hb : bs.length ≤ 1000) (ha : ∀ x, x ∈ bs → x.acts.length ≤ 1000000) : FnP Tryz.prog 72 [grpS l, bukS bs] (.bool (gThere l bs)) := by
 have hn := gNames_le bs 1000000 ha
 have hn' : bs.length * 1000000 ≤ 1000 * 1000000 := Nat.mul_le_mul_right _ hb
 have p := gnames_c bs hb ha
 have c := containsf_int 129 [.iptr [grpS l]] (fun id => !(gAt l id).isSome) (gNames bs) (by simp) (by omega) (fun x _ => gthere1_c l x hl)
 have e : gThere l bs = !((gNames bs).any fun id => !(gAt l id).isSome) := by
   unfold gThere
   rw [List.not_any_eq_all_not]
   simp
 obtain ⟨S, hS⟩ : ∃ S, gThere l bs = S := ⟨_, rfl⟩
 obtain ⟨T, hT⟩ : ∃ T, ((gNames bs).any fun id => !(gAt l id).isSome) = T := ⟨_, rfl⟩
 rw [hS, hT] at e
 rw [hT] at c
 rw [hS]
 clear hS hT hn hn' ha
 unfold grpS bukS at *
 unfold intS at *
 refine FnP.i Tryz.func72 rfl rfl fun G w => ?_
 repeat apply WK.s
 refine WK.g 100 Tryz.ntmps72 (by kernel_rfl) ?_
 intro A hA Q hQ
 simp
 apply hQ
 clear hQ hA
 repeat apply WK.s
 refine WK.ghost (Ghost.frzVar 2 rfl rfl) ?_
 repeat' (first | (refine hQ.h _ _ ?_; clear hQ hA) | (refine WK.rH Tryz.ntmps72 (by kernel_rfl) ?_; intro A hA Q hQ; simp [*]) | (refine RunQ.k rfl rfl rfl rfl rfl ?_ (p) ?_ ?_ <;> simp (maxDischargeDepth := 120) [*] <;> refine ⟨?_⟩) | (refine RunQ.k rfl rfl rfl rfl rfl ?_ (c) ?_ ?_ <;> simp (maxDischargeDepth := 120) [*] <;> refine ⟨?_⟩) | (refine WK.t Tryz.func72 ?_ ?_ <;> simp (maxDischargeDepth := 120) [Tryz.results72, *]))

theorem gweigh_c (kind : Int) : FnP Tryz.prog 125 [.int .i64 kind] (.tup [.int .i64 (gWeigh kind).1, .agg (gF (some (6, (gWeigh kind).2)))]) := by
 have b2 := grpbad_c 2
 have b1 := grpbad_c 1
 unfold gWeigh
 by_cases h : kind = 1
 · rw [if_pos h]
   clear b1
   refine FnP.i Tryz.func125 rfl rfl fun G w => ?_
   repeat' (first | apply WK.s | refine WK.cT rfl ?_ | (refine hQ.h _ _ ?_; clear hQ hA) | (refine WK.rH Tryz.ntmps125 (by kernel_rfl) ?_; intro A hA Q hQ; simp [gF, *]) | (refine RunQ.k rfl rfl rfl rfl rfl ?_ (b2) ?_ ?_ <;> simp (maxDischargeDepth := 120) [gF, *] <;> refine ⟨?_⟩) | (refine WK.t Tryz.func125 ?_ ?_ <;> simp (maxDischargeDepth := 120) [Tryz.results125, gF, *]))
 · rw [if_neg h]
   have h' : (kind == 1) = false := by simpa using h
   clear b2
   refine FnP.i Tryz.func125 rfl rfl fun G w => ?_
   repeat' (first | apply WK.s | apply WK.k | refine WK.cF rfl ?_ | (refine hQ.h _ _ ?_; clear hQ hA) | (refine WK.rH Tryz.ntmps125 (by kernel_rfl) ?_; intro A hA Q hQ; simp [gF, *]) | (refine RunQ.k rfl rfl rfl rfl rfl ?_ (b1) ?_ ?_ <;> simp (maxDischargeDepth := 120) [gF, *] <;> refine ⟨?_⟩) | (refine WK.t Tryz.func125 ?_ ?_ <;> simp (maxDischargeDepth := 120) [Tryz.results125, gF, *]))
set_option maxHeartbeats 8000000 in
theorem gcheck_c (kind : Int) (l : List Bucket) (hl : l.length ≤ 1000000) : FnP Tryz.prog 71 [.int .i64 kind, bukS l] (.agg (gF (gCheck kind l))) := by
 unfold bukS
 by_cases h1 : kind < 0 ∨ 3 < kind
 · have e : gCheck kind l = some (6, 10) := by unfold gCheck; rw [if_pos h1]
   rw [e]
   have b := grpbad_c 10
   clear e
   rcases h1 with h1 | h1
   · refine FnP.i Tryz.func71 rfl rfl fun G w => ?_
     repeat' (first | apply WK.s | apply WK.b | refine WK.cT rfl ?_ | (refine hQ.h _ _ ?_; clear hQ hA) | (refine WK.rH Tryz.ntmps71 (by kernel_rfl) ?_; intro A hA Q hQ; simp [gF, *]) | (refine RunQ.g rfl (by rw [hA.h]; rfl) ?_; simp [gF, *]) | (refine RunQ.k rfl rfl rfl rfl rfl ?_ (b) ?_ ?_ <;> simp (maxDischargeDepth := 120) [gF, *] <;> refine ⟨?_⟩) | (refine WK.t Tryz.func71 ?_ ?_ <;> simp (maxDischargeDepth := 120) [Tryz.results71, gF, *]))
   · have h0 : ¬ kind < 0 := by omega
     refine FnP.i Tryz.func71 rfl rfl fun G w => ?_
     repeat' (first | apply WK.s | apply WK.b | refine WK.cT rfl ?_ | (refine hQ.h _ _ ?_; clear hQ hA) | (refine WK.rH Tryz.ntmps71 (by kernel_rfl) ?_; intro A hA Q hQ; simp [gF, *]) | (refine RunQ.g rfl (by rw [hA.h]; rfl) ?_; simp [gF, *]) | (refine RunQ.k rfl rfl rfl rfl rfl ?_ (b) ?_ ?_ <;> simp (maxDischargeDepth := 120) [gF, *] <;> refine ⟨?_⟩) | (refine WK.t Tryz.func71 ?_ ?_ <;> simp (maxDischargeDepth := 120) [Tryz.results71, gF, *]))
 have h10 : ¬ kind < 0 := fun h => h1 (.inl h)
 have h11 : ¬ 3 < kind := fun h => h1 (.inr h)
 by_cases h2 : 4 < l.length
 · have e : gCheck kind l = some (6, 4) := by unfold gCheck; rw [if_neg h1, if_pos h2]
   rw [e]
   have b := grpbad_c 4
   have h2' : (4 : Int) < l.length := by omega
   clear e h1
   refine FnP.i Tryz.func71 rfl rfl fun G w => ?_
   repeat' (first | apply WK.s | apply WK.b | refine WK.cT rfl ?_ | refine WK.cF rfl ?_ | (refine hQ.h _ _ ?_; clear hQ hA) | (refine WK.rH Tryz.ntmps71 (by kernel_rfl) ?_; intro A hA Q hQ; simp [gF, *]) | (refine RunQ.g rfl (by rw [hA.h]; rfl) ?_; simp [gF, *]) | (refine RunQ.k rfl rfl rfl rfl rfl ?_ (b) ?_ ?_ <;> simp (maxDischargeDepth := 120) [gF, *] <;> refine ⟨?_⟩) | (refine WK.t Tryz.func71 ?_ ?_ <;> simp (maxDischargeDepth := 120) [Tryz.results71, gF, *]))
 have h2' : ¬ (4 : Int) < l.length := by omega
 by_cases h3 : kind = 2 ∧ ¬ l.length = 1
 · have e : gCheck kind l = some (6, 1) := by unfold gCheck; rw [if_neg h1, if_neg h2, if_pos h3]
   rw [e]
   have b := grpbad_c 1
   obtain ⟨rfl, h3⟩ := h3
   have h3' : ((l.length : Int) == 1) = false := by rw [beq_eq_false_iff_ne]; omega
   clear e h1
   refine FnP.i Tryz.func71 rfl rfl fun G w => ?_
   repeat' (first | apply WK.s | apply WK.b | refine WK.cT rfl ?_ | refine WK.cF rfl ?_ | (refine hQ.h _ _ ?_; clear hQ hA) | (refine WK.rH Tryz.ntmps71 (by kernel_rfl) ?_; intro A hA Q hQ; simp [gF, bne, *]) | (refine RunQ.g rfl (by rw [hA.h]; rfl) ?_; simp [gF, bne, *]) | (refine RunQ.k rfl rfl rfl rfl rfl ?_ (b) ?_ ?_ <;> simp (maxDischargeDepth := 120) [gF, bne, *] <;> refine ⟨?_⟩) | (refine WK.t Tryz.func71 ?_ ?_ <;> simp (maxDischargeDepth := 120) [Tryz.results71, gF, bne, *]))
 have e : gCheck kind l = (gCheckF kind l).map fun c => (6, c) := by unfold gCheck; rw [if_neg h1, if_neg h2, if_neg h3]
 rw [e]
 obtain ⟨R, hR⟩ : ∃ R, gCheckF kind l = R := ⟨_, rfl⟩
 rw [hR]
 have cw := gweigh_c kind
 have hfw : gF (some (6, (gWeigh kind).2)) = [.bool true, .int .i64 6, .int .i64 (gWeigh kind).2] := rfl
 rw [hfw] at cw
 obtain ⟨W1, hW1⟩ : ∃ x, (gWeigh kind).1 = x := ⟨_, rfl⟩
 obtain ⟨W2, hW2⟩ : ∃ x, (gWeigh kind).2 = x := ⟨_, rfl⟩
 rw [hW1, hW2] at cw
 clear hfw
 have hh : (kind == 2 && !((l.length : Int) == 1)) = false := by
   by_cases hk : kind = 2
   · have : l.length = 1 := by
       rcases Nat.decEq l.length 1 with h | h
       · exact absurd ⟨hk, h⟩ h3
       · exact h
     rw [this]; simp
   · have : (kind == 2) = false := by simpa using hk
     rw [this]; rfl
 have hkk : (kind == 2) = false ∨ ((kind == 2) = true ∧ ((l.length : Int) == 1) = true) := by
   cases hk : (kind == 2)
   · exact .inl rfl
   · rw [hk, Bool.true_and] at hh
     exact .inr ⟨rfl, by simpa using hh⟩
 have hone : ∀ x, gOne kind x = if ¬ x.wgroup = 4294967295 then some 6 else if ¬ x.weight = W1 then some W2 else if gWatch kind x.watch = false then some 13 else none := by
   intro x; unfold gOne; rw [hW1, hW2]
 have b6 := grpbad_c 6
 have b13 := grpbad_c 13
 have hf6 : gF (some (6, 6)) = [.bool true, .int .i64 6, .int .i64 6] := rfl
 have hf13 : gF (some (6, 13)) = [.bool true, .int .i64 6, .int .i64 13] := rfl
 rw [hf6] at b6
 rw [hf13] at b13
 clear e hh h1 h2 h3 hW1 hW2 hf6 hf13
 refine FnP.i Tryz.func71 rfl rfl fun G w => ?_
 rcases hkk with hk | ⟨hk, hk1⟩
 all_goals
   repeat' (first | apply WK.s | apply WK.b | apply WK.n | apply WK.k | refine WK.cF rfl ?_ | (refine hQ.h _ _ ?_; clear hQ hA) | (refine WK.rH (id := 0) Tryz.ntmps71 (by kernel_rfl) ?_; intro A hA Q hQ; simp [bne, *]) | (refine WK.rH (id := 1) Tryz.ntmps71 (by kernel_rfl) ?_; intro A hA Q hQ; simp [bne, *]) | (refine WK.rH (id := 2) Tryz.ntmps71 (by kernel_rfl) ?_; intro A hA Q hQ; simp [bne, *]) | (refine WK.rH (id := 3) Tryz.ntmps71 (by kernel_rfl) ?_; intro A hA Q hQ; simp [bne, *]) | (refine WK.rH (id := 4) Tryz.ntmps71 (by kernel_rfl) ?_; intro A hA Q hQ; simp [bne, *]) | (refine WK.rH (id := 5) Tryz.ntmps71 (by kernel_rfl) ?_; intro A hA Q hQ; simp [bne, *]) | (refine WK.rH (id := 6) Tryz.ntmps71 (by kernel_rfl) ?_; intro A hA Q hQ; simp [bne, *]) | (refine WK.rH (id := 7) Tryz.ntmps71 (by kernel_rfl) ?_; intro A hA Q hQ; simp [bne, *]) | (refine WK.rH (id := 8) Tryz.ntmps71 (by kernel_rfl) ?_; intro A hA Q hQ; simp [bne, *]) | (refine RunQ.g rfl (by rw [hA.h]; rfl) ?_; simp [bne, *]) | (refine RunQ.k rfl rfl rfl rfl rfl ?_ (cw) ?_ ?_ <;> simp (maxDischargeDepth := 120) [bne, *] <;> refine ⟨?_⟩))
   refine WK.lI (fun n => if n = 1 then 405 else n) (fun i : Nat => (⟨(upd (upd (upd (upd (upd (upd (upd J 0 (.int .i64 kind)) 4 (.ptr 0 0)) 5 (.int .i64 W1)) 6 (.ptr 1 0)) 36 (.sl false l.length (bukL l))) 37 (.int .i64 l.length)) 38 (.int .i64 i)), (upd (upd B0 0 (.var [.bool false, .int .i64 0, .int .i64 0])) 1 (.var [.bool true, .int .i64 6, .int .i64 W2])), 0⟩ : St)) (fun i => i ≤ l.length ∧ gCheckF kind (l.drop i) = R) (fun i => l.length - i) (0) (by repeat (first | exact TmW.nil | refine TmW.upd ?_ (by simp (maxDischargeDepth := 120)))) (by repeat (first | exact BxW.nil | refine BxW.upd ?_ (by simp (maxDischargeDepth := 120)))) (by first | exact InjW.id | exact InjW.nil | exact InjW.one | exact InjW.two (by simp) | exact InjW.three (by simp) (by simp) (by simp)) (⟨by omega, hR⟩) (fun i hi IH => ?_)
   by_cases g1 : i < l.length
   · have g1' : (i : Int) < l.length := by omega
     obtain ⟨h4, h3⟩ := buk_load l i g1
     have h6 : IntKind.i64.wrap ((i : Int) + 1) = i + 1 := wrap_i64 (by omega) (by omega)
     have hd := gCheckF_at (kind := kind) g1
     rw [hi.2] at hd
     obtain ⟨x, hx⟩ : ∃ x, nth l i = x := ⟨_, rfl⟩
     rw [hx] at h4 hd
     rw [hone x] at hd
     have cwa := gwatch_c kind x.watch
     clear hR hone hx hk
     by_cases q1 : x.wgroup = 4294967295
     · rw [if_neg (by simpa using q1)] at hd
       by_cases q2 : x.weight = W1
       · rw [if_neg (by simpa using q2)] at hd
         cases q3 : gWatch kind x.watch
         · rw [q3] at hd cwa
           rw [if_pos rfl] at hd
           simp only at hd
           rw [hd]
           clear IH hd hi
           repeat' (first | apply WK.s | apply WK.b | apply WK.k | refine WK.cT rfl ?_ | refine WK.cF rfl ?_ | (refine hQ.h _ _ ?_; clear hQ hA) | (refine WK.rH Tryz.ntmps71 (by kernel_rfl) ?_; intro A hA Q hQ; simp [Bucket.enc, bne, gF, *]) | (refine RunQ.k rfl rfl rfl rfl rfl ?_ (cwa) ?_ ?_ <;> simp (maxDischargeDepth := 120) [Bucket.enc, bne, gF, *] <;> refine ⟨?_⟩) | (refine RunQ.k rfl rfl rfl rfl rfl ?_ (b13) ?_ ?_ <;> simp (maxDischargeDepth := 120) [Bucket.enc, bne, gF, *] <;> refine ⟨?_⟩) | (refine WK.t Tryz.func71 ?_ ?_ <;> simp (maxDischargeDepth := 120) [Tryz.results71, Bucket.enc, bne, gF, *]))
         · rw [q3] at hd cwa
           rw [if_neg (by simp)] at hd
           simp only at hd
           repeat' (first | apply WK.s | apply WK.b | apply WK.n | apply WK.k | refine WK.cT rfl ?_ | refine WK.cF rfl ?_ | (refine hQ.h _ _ ?_; clear hQ hA) | (refine WK.rH Tryz.ntmps71 (by kernel_rfl) ?_; intro A hA Q hQ; simp [Bucket.enc, bne, *]) | (refine RunQ.k rfl rfl rfl rfl rfl ?_ (cwa) ?_ ?_ <;> simp (maxDischargeDepth := 120) [Bucket.enc, bne, *] <;> refine ⟨?_⟩))
           refine WK.next (fun n => n) (IH (i + 1) (⟨by omega, hd.symm⟩) (by first | omega | (dsimp only; omega))) (by repeat (first | exact TmW.nil | refine TmW.upd ?_ (by simp (maxDischargeDepth := 120)))) (by repeat (first | exact BxW.nil | refine BxW.upd ?_ (by simp (maxDischargeDepth := 120)))) InjW.id
       · rw [if_pos (by simpa using q2)] at hd
         simp only at hd
         rw [hd]
         have q2' : (x.weight == W1) = false := by simpa using q2
         clear IH hd hi q2
         repeat' (first | apply WK.s | apply WK.b | apply WK.k | refine WK.cT rfl ?_ | refine WK.cF rfl ?_ | (refine hQ.h _ _ ?_; clear hQ hA) | (refine WK.rH Tryz.ntmps71 (by kernel_rfl) ?_; intro A hA Q hQ; simp [Bucket.enc, bne, gF, *]) | (refine WK.t Tryz.func71 ?_ ?_ <;> simp (maxDischargeDepth := 120) [Tryz.results71, Bucket.enc, bne, gF, *]))
     · rw [if_pos (by simpa using q1)] at hd
       simp only at hd
       rw [hd]
       have q1' : (x.wgroup == 4294967295) = false := by simpa using q1
       clear IH hd hi q1
       repeat' (first | apply WK.s | apply WK.b | apply WK.k | refine WK.cT rfl ?_ | (refine hQ.h _ _ ?_; clear hQ hA) | (refine WK.rH Tryz.ntmps71 (by kernel_rfl) ?_; intro A hA Q hQ; simp [Bucket.enc, bne, gF, *]) | (refine RunQ.k rfl rfl rfl rfl rfl ?_ (b6) ?_ ?_ <;> simp (maxDischargeDepth := 120) [Bucket.enc, bne, gF, *] <;> refine ⟨?_⟩) | (refine WK.t Tryz.func71 ?_ ?_ <;> simp (maxDischargeDepth := 120) [Tryz.results71, Bucket.enc, bne, gF, *]))
   · have g1' : ¬ (i : Int) < l.length := by omega
     have hd := hi.2
     rw [List.drop_of_length_le (by omega)] at hd
     have hd' : none = R := hd
     subst hd'
     clear IH hi hd hR hone hk
     repeat' (first | apply WK.s | refine WK.exit rfl ?_ | refine WK.cF rfl ?_ | (refine hQ.h _ _ ?_; clear hQ hA) | (refine WK.rH Tryz.ntmps71 (by kernel_rfl) ?_; intro A hA Q hQ; simp [gF, *]) | (refine WK.t Tryz.func71 ?_ ?_ <;> simp (maxDischargeDepth := 120) [Tryz.results71, gF, *]))

theorem clone_bukO (l : List Bucket) (hl : l.length ≤ 1000000) : FnO Tryz.prog 161 [bukS l] l.length 4 (bukL l) := by
 have hb : l.length * 48 ≤ 140737488355328 := by omega
 unfold bukS
 cases l with
 | nil =>
   refine FnO.intro Tryz.func161 rfl rfl fun G w => ?_
   repeat' (first | apply WK.s | apply WK.k | (refine hQ.h _ _ ?_; clear hQ hA) | refine WK.condAny rfl ?_ ?_ | (refine WK.rH Tryz.ntmps161 (by kernel_rfl) ?_; intro A hA Q hQ; simp [*]))
   · refine WK.ghost (Ghost.own 2 900 4 rfl rfl) ?_
     refine WK.retO Tryz.func161 (by rfl) (by rfl) (by simp (maxDischargeDepth := 120) [bukL_nil]) (by simp [bukL_nil])
   · repeat' (first | (refine hQ.h _ _ ?_; clear hQ hA) | (refine RunQ.append0 900 901 app_buk rfl rfl rfl rfl rfl rfl rfl ?_ rfl ?_ ?_ ?_ ?_ ?_ ?_; (focus (simp [*]; done)); (focus (first | omega | (simp [*]; done); done)); (focus (first | omega | (simp [*]; done); done)); (focus (simp [*]; done)); (focus (simp [*]; done)); (focus (simp [*]; done)); refine RunQ.evalH ?_; simp [*]) | (refine WK.retO Tryz.func161 rfl rfl ?_ ?_ <;> simp (maxDischargeDepth := 120) [bukL_nil, *]))
 | cons x l =>
   have e : (bukL (x :: l)).take ((l.length + 1) * 4) = bukL (x :: l) := List.take_of_length_le (by simp)
   simp only [List.length_cons] at hl hb ⊢
   refine FnO.intro Tryz.func161 rfl rfl fun G w => ?_
   repeat' (first | apply WK.s | apply WK.k | refine WK.cF rfl ?_ | (refine hQ.h _ _ ?_; clear hQ hA) | (refine WK.rH Tryz.ntmps161 (by kernel_rfl) ?_; intro A hA Q hQ; simp [*]) | (refine RunQ.append0 900 901 app_buk rfl rfl rfl rfl rfl rfl rfl ?_ rfl ?_ ?_ ?_ ?_ ?_ ?_; (focus (simp [*]; done)); (focus (first | omega | (simp [*]; done); done)); (focus (first | omega | (simp [*]; done); done)); (focus (simp [*]; done)); (focus (simp [*]; done)); (focus (simp [*]; done)); refine RunQ.evalH ?_; simp [*]) | (refine WK.retO Tryz.func161 rfl rfl ?_ ?_ <;> simp (maxDischargeDepth := 120) [*]))
theorem put_same {L : List AV} {k : Nat} {v : AV} (hk : k < L.length) (hv : L[k] = v) : L.take k ++ v :: L.drop (k + 1) = L := by
 rw [← hv, ← List.drop_eq_getElem_cons hk, List.take_append_drop]
theorem gcopies_c (l : List Bucket) (hl : l.length ≤ 1000000) (ha : ∀ x, x ∈ l → x.acts.length ≤ 1000000) : FnP Tryz.prog 106 [bukS l] (bukS l) := by
 have hc := clone_bukO l hl
 unfold bukS at *
 refine FnP.i Tryz.func106 rfl rfl fun G w => ?_
 repeat' (first | apply WK.s | apply WK.b | (refine hQ.h _ _ ?_; clear hQ hA) | (refine WK.rH (id := 0) Tryz.ntmps106 (by kernel_rfl) ?_; intro A hA Q hQ; simp [*]) | (refine WK.rH (id := 1) Tryz.ntmps106 (by kernel_rfl) ?_; intro A hA Q hQ; simp [*]) | (refine WK.rH (id := 2) Tryz.ntmps106 (by kernel_rfl) ?_; intro A hA Q hQ; simp [*]) | (refine RunQ.callO 900 rfl rfl rfl rfl rfl ?_ (hc) ?_ ?_ ?_ ?_; (focus (simp (maxDischargeDepth := 120) [*]; done)); (focus (simp [*]; done)); (focus (simp [*]; done)); (focus (simp [*]; done)); refine RunQ.evalH ?_; simp [*]))
 refine WK.lI (fun n => if n = 1 then 900 else n) (fun i : Nat => (⟨(upd (upd (upd J 3 (.msl 1 0 l.length)) 8 (.int .i64 l.length)) 9 (.int .i64 i)), (upd B0 1 (.buf 4 (bukL l))), 0⟩ : St)) (fun i => i ≤ l.length) (fun i => l.length - i) (0) (by repeat (first | exact TmW.nil | refine TmW.upd ?_ (by simp (maxDischargeDepth := 120)))) (by repeat (first | exact BxW.nil | refine BxW.upd ?_ (by simp (maxDischargeDepth := 120)))) (by first | exact InjW.id | exact InjW.nil | exact InjW.one | exact InjW.two (by simp) | exact InjW.three (by simp) (by simp) (by simp)) (by omega) (fun i hi IH => ?_)
 by_cases h1 : i < l.length
 · have h1' : (i : Int) < l.length := by omega
   have h6 : IntKind.i64.wrap ((i : Int) + 1) = i + 1 := wrap_i64 (by omega) (by omega)
   have hk : i * 4 + 3 < (bukL l).length := by rw [bukL_len]; omega
   have hg := buk_get l i 3 h1 (by omega) hk
   have cl := clone_actP (nth l i).acts (ha _ (nth_mem h1))
   obtain ⟨x, hx⟩ : ∃ x, nth l i = x := ⟨_, rfl⟩
   have hg' : (bukL l)[i * 4 + 3] = .sl false x.acts.length (actL x.acts) := by rw [hg]; simp only [hx]; rfl
   have hp := put_same hk hg'
   have hq : (bukL l)[i * 4 + 3]? = some (.sl false x.acts.length (actL x.acts)) := List.getElem?_eq_some_iff.2 ⟨hk, hg'⟩
   have hk' : i * 4 + 3 < l.length * 4 := by omega
   have hk2 : i * 4 + 4 ≤ l.length * 4 := by omega
   rw [hx] at cl
   unfold actS at cl
   clear hg hx hc ha
   repeat' (first | apply WK.s | apply WK.b | apply WK.n | apply WK.k | refine WK.cT rfl ?_ | (refine hQ.h _ _ ?_; clear hQ hA) | (refine WK.rH Tryz.ntmps106 (by kernel_rfl) ?_; intro A hA Q hQ; simp [*]) | (refine RunQ.k rfl rfl rfl rfl rfl ?_ (cl) ?_ ?_ <;> simp (maxDischargeDepth := 120) [*] <;> refine ⟨?_⟩))
   refine WK.next (fun n => n) (IH (i + 1) (by omega) (by first | omega | (dsimp only; omega))) (by repeat (first | exact TmW.nil | refine TmW.upd ?_ (by simp (maxDischargeDepth := 120) [hp]))) (by repeat (first | exact BxW.nil | refine BxW.upd ?_ (by simp (maxDischargeDepth := 120) [hp]))) InjW.id
 · have h1' : ¬ (i : Int) < l.length := by omega
   clear hc ha IH
   repeat' (first | apply WK.s | refine WK.exit rfl ?_ | refine WK.cF rfl ?_ | (refine hQ.h _ _ ?_; clear hQ hA) | (refine WK.rH Tryz.ntmps106 (by kernel_rfl) ?_; intro A hA Q hQ; simp [*]))
   refine WK.ghost (Ghost.frzSl 2 4 rfl rfl) ?_
   repeat' (first | (refine WK.t Tryz.func106 ?_ ?_ <;> simp (maxDischargeDepth := 120) [Tryz.results106, *]))
structure GrB (g : Group) : Prop where
 len : g.buckets.length ≤ 1000
 acts : ∀ x, x ∈ g.buckets → x.acts.length ≤ 1000000
theorem gfresh_c (l : List Group) (hl : l.length ≤ 1000000) (hB : ∀ g, g ∈ l → GrB g) : FnO Tryz.prog 57 [grpS l] l.length 3 (grpL l) := by
 have hc := clone_grpO l hl
 unfold grpS at *
 refine FnO.intro Tryz.func57 rfl rfl fun G w => ?_
 repeat' (first | apply WK.s | apply WK.b | (refine hQ.h _ _ ?_; clear hQ hA) | (refine WK.rH (id := 0) Tryz.ntmps57 (by kernel_rfl) ?_; intro A hA Q hQ; simp [*]) | (refine WK.rH (id := 1) Tryz.ntmps57 (by kernel_rfl) ?_; intro A hA Q hQ; simp [*]) | (refine WK.rH (id := 2) Tryz.ntmps57 (by kernel_rfl) ?_; intro A hA Q hQ; simp [*]) | (refine RunQ.callO 900 rfl rfl rfl rfl rfl ?_ (hc) ?_ ?_ ?_ ?_; (focus (simp (maxDischargeDepth := 120) [*]; done)); (focus (simp [*]; done)); (focus (simp [*]; done)); (focus (simp [*]; done)); refine RunQ.evalH ?_; simp [*]))
 refine WK.lI (fun n => if n = 1 then 900 else n) (fun i : Nat => (⟨(upd (upd (upd J 3 (.msl 1 0 l.length)) 8 (.int .i64 l.length)) 9 (.int .i64 i)), (upd B0 1 (.buf 3 (grpL l))), 0⟩ : St)) (fun i => i ≤ l.length) (fun i => l.length - i) (0) (by repeat (first | exact TmW.nil | refine TmW.upd ?_ (by simp (maxDischargeDepth := 120)))) (by repeat (first | exact BxW.nil | refine BxW.upd ?_ (by simp (maxDischargeDepth := 120)))) (by first | exact InjW.id | exact InjW.nil | exact InjW.one | exact InjW.two (by simp) | exact InjW.three (by simp) (by simp) (by simp)) (by omega) (fun i hi IH => ?_)
 by_cases h1 : i < l.length
 · have h1' : (i : Int) < l.length := by omega
   have h6 : IntKind.i64.wrap ((i : Int) + 1) = i + 1 := wrap_i64 (by omega) (by omega)
   have hk : i * 3 + 2 < (grpL l).length := by rw [grpL_len]; omega
   have hg := grp_get l i 2 h1 (by omega) hk
   have hx0 := hB _ (nth_mem h1)
   have cl := gcopies_c (nth l i).buckets (by have := hx0.len; omega) hx0.acts
   obtain ⟨x, hx⟩ : ∃ x, nth l i = x := ⟨_, rfl⟩
   have hg' : (grpL l)[i * 3 + 2] = .sl false x.buckets.length (bukL x.buckets) := by rw [hg]; simp only [hx]; rfl
   have hp := put_same hk hg'
   have hq : (grpL l)[i * 3 + 2]? = some (.sl false x.buckets.length (bukL x.buckets)) := List.getElem?_eq_some_iff.2 ⟨hk, hg'⟩
   have hk' : i * 3 + 2 < l.length * 3 := by omega
   have hk2 : i * 3 + 3 ≤ l.length * 3 := by omega
   rw [hx] at cl
   unfold bukS at cl
   clear hg hx hc hB hx0
   repeat' (first | apply WK.s | apply WK.b | apply WK.n | apply WK.k | refine WK.cT rfl ?_ | (refine hQ.h _ _ ?_; clear hQ hA) | (refine WK.rH Tryz.ntmps57 (by kernel_rfl) ?_; intro A hA Q hQ; simp [*]) | (refine RunQ.k rfl rfl rfl rfl rfl ?_ (cl) ?_ ?_ <;> simp (maxDischargeDepth := 120) [*] <;> refine ⟨?_⟩))
   refine WK.next (fun n => n) (IH (i + 1) (by omega) (by first | omega | (dsimp only; omega))) (by repeat (first | exact TmW.nil | refine TmW.upd ?_ (by simp (maxDischargeDepth := 120) [hp]))) (by repeat (first | exact BxW.nil | refine BxW.upd ?_ (by simp (maxDischargeDepth := 120) [hp]))) InjW.id
 · have h1' : ¬ (i : Int) < l.length := by omega
   clear hc hB IH
   repeat' (first | apply WK.s | refine WK.exit rfl ?_ | refine WK.cF rfl ?_ | (refine hQ.h _ _ ?_; clear hQ hA) | (refine WK.rH Tryz.ntmps57 (by kernel_rfl) ?_; intro A hA Q hQ; simp [*]) | (refine WK.retO Tryz.func57 rfl rfl ?_ ?_ <;> simp (maxDischargeDepth := 120) [*]))

def gr0 : Group := ⟨0, 0, []⟩
def gFind (l : List Group) (id : Int) : Group × Bool := match gAt l id with | some i => (nth l i, true) | none => (gr0, false)
theorem gfind_c (l : List Group) (id : Int) (hl : l.length ≤ 1000000) (hB : ∀ g, g ∈ l → GrB g) : FnP Tryz.prog 32 [grpS l, .int .i64 id] (.tup [.agg (gFind l id).1.enc, .bool (gFind l id).2]) := by
 have p := gplace_c l id hl
 have hat := gPlace_at l id
 unfold gFind
 cases hg : gAt l id with
 | none =>
   rw [hg] at hat
   simp only at hat
   rw [hat] at p
   have e0 : gr0.enc = [.int .i64 0, .int .i64 0, .sl false 0 []] := rfl
   simp only [e0]
   unfold grpS at *
   clear hat hg hB
   refine FnP.i Tryz.func32 rfl rfl fun G w => ?_
   repeat' (first | apply WK.s | refine WK.cT rfl ?_ | (refine hQ.h _ _ ?_; clear hQ hA) | (refine WK.rH Tryz.ntmps32 (by kernel_rfl) ?_; intro A hA Q hQ; simp [*]) | (refine RunQ.k rfl rfl rfl rfl rfl ?_ (p) ?_ ?_ <;> simp (maxDischargeDepth := 120) [*] <;> refine ⟨?_⟩) | (refine WK.t Tryz.func32 ?_ ?_ <;> simp (maxDischargeDepth := 120) [Tryz.results32, *]))
 | some i =>
   rw [hg] at hat
   simp only at hat
   rw [hat] at p
   obtain ⟨h1, _⟩ := gAt_small hg
   have h1' : (i : Int) < l.length := by omega
   have h1'' : (i : Int) + 1 ≤ l.length := by omega
   have h6 : IntKind.i64.wrap ((i : Int) + 1) = i + 1 := wrap_i64 (by omega) (by omega)
   have h4 := grp_sub l i h1
   have f := gfresh_c [nth l i] (by simp) (fun g hgm => by simp only [List.mem_singleton] at hgm; subst hgm; exact hB _ (nth_mem h1))
   obtain ⟨x, hx⟩ : ∃ x, nth l i = x := ⟨_, rfl⟩
   rw [hx] at h4 f
   simp only [hx]
   have hn : ¬ (i : Int) < 0 := by omega
   have hle : (i : Int) ≤ (i : Int) + 1 := by omega
   have hs1 : i + 1 - i = 1 := by omega
   have h3 : 3 ≤ l.length * 3 - i * 3 := by omega
   rw [grpL_one] at f
   unfold grpS at *
   rw [grpL_one] at f
   unfold Group.enc at *
   clear hat hg hB hx
   refine FnP.i Tryz.func32 rfl rfl fun G w => ?_
   repeat' (first | apply WK.s | apply WK.k | refine WK.cF rfl ?_ | (refine hQ.h _ _ ?_; clear hQ hA) | (refine WK.rH Tryz.ntmps32 (by kernel_rfl) ?_; intro A hA Q hQ; simp [*]) | (refine RunQ.callO 900 rfl rfl rfl rfl rfl ?_ (f) ?_ ?_ ?_ ?_; (focus (simp (maxDischargeDepth := 120) [*]; done)); (focus (simp [*]; done)); (focus (simp [*]; done)); (focus (simp [*]; done)); refine RunQ.evalH ?_; simp [*]) | (refine RunQ.k rfl rfl rfl rfl rfl ?_ (p) ?_ ?_ <;> simp (maxDischargeDepth := 120) [*] <;> refine ⟨?_⟩) | (refine WK.t Tryz.func32 ?_ ?_ <;> simp (maxDischargeDepth := 120) [Tryz.results32, *]))
end Go.Proofs.YtmhapglejjehbaaGreat

namespace Go.Proofs.YtmhapglejjehbaaGreat
open Go Go.AI Go.Proofs
attribute [local irreducible] FnP FnO FnB FnT FnSeq FnV FnSeqV WK RunQ RunQW RunX RunXW RunN
def seenE (s : List Nat) : List (Int × Int) := s.map fun x : Nat => ((x : Int), (1 : Int))
theorem seenE_len (s : List Nat) : (seenE s).length = s.length := by simp [seenE]
theorem seenE_look (s : List Nat) (i : Nat) : (mpLook (seenE s) (i : Int)).isSome = decide (i ∈ s) ∧ mpVal (seenE s) (i : Int) = if i ∈ s then 1 else 0 := by
 induction s with
 | nil => exact ⟨rfl, rfl⟩
 | cons x s ih =>
   have e : seenE (x :: s) = ((x : Int), 1) :: seenE s := rfl
   rw [e]
   unfold mpVal at ih ⊢
   rw [mpLook]
   by_cases h : (i : Int) = (x : Int)
   · have h' : i = x := by omega
     subst h'
     rw [if_pos rfl]
     simp
   · have h' : ¬ i = x := by omega
     rw [if_neg h]
     have hm : (i ∈ x :: s) = (i ∈ s) := by simp [h']
     simp only [hm]
     cases hl : mpLook (seenE s) (i : Int) with
     | none => rw [hl] at ih; simpa using ih
     | some q => rw [hl] at ih; simpa using ih
theorem seenE_put {s : List Nat} {i : Nat} (h : i ∉ s) : mpPut (seenE s) (i : Int) 1 = seenE (s ++ [i]) := by
 have h1 := (seenE_look s i).1
 rw [decide_eq_false h] at h1
 rw [mpPut_none (by simpa using h1)]
 simp [seenE]
def gStep (l : List Group) (f : Nat) (s : List Nat) (id : Int) : List Nat := match gAt l id with
 | none => s
 | some i => if i ∈ s then s else dfs (gSucc l) f (s ++ [i]) i
theorem dfs_names (l : List Group) (f : Nat) (s : List Nat) (a : Nat) : dfs (gSucc l) (f + 1) s a = (gNames (nth l a).buckets).foldl (gStep l f) s := by
 rw [dfs]
 unfold gSucc
 rw [List.foldl_filterMap]
 congr 1
 funext s id
 unfold gStep
 cases gAt l id <;> rfl
structure GSeen (l : List Group) (n : Nat) (s : List Nat) : Prop where
 nodup : s.Nodup
 small : ∀ x, x ∈ s → x < l.length
 len : n ≤ s.length
theorem GSeen.le {l : List Group} {n : Nat} {s : List Nat} (h : GSeen l n s) : s.length ≤ l.length := nodup_lt_length l.length s h.nodup h.small
theorem GSeen.add {l : List Group} {n : Nat} {s : List Nat} {i : Nat} (h : GSeen l n s) (hi : i ∉ s) (hl : i < l.length) : GSeen l (n + 1) (s ++ [i]) := by
 refine ⟨?_, fun x hx => ?_, by have := h.len; simp; omega⟩
 · rw [List.nodup_append]
   refine ⟨h.nodup, by simp, ?_⟩
   intro x hx y hy e
   simp only [List.mem_singleton] at hy
   subst hy; subst e; exact hi hx
 · rcases List.mem_append.1 hx with hx | hx
   · exact h.small x hx
   · simp only [List.mem_singleton] at hx; subst hx; exact hl
theorem GSeen.dfs {l : List Group} {n f : Nat} {s : List Nat} (h : GSeen l n s) (hf : l.length < f + n) (a : Nat) : GSeen l n (dfs (gSucc l) f s a) := by
 have h1 := h.len
 have := dfs_seen (gSucc l) l.length (gSucc_small l) f s a h.nodup h.small (by omega)
 exact ⟨this.nodup, this.small, by have := this.len; omega⟩
theorem GSeen.step {l : List Group} {n f : Nat} {s : List Nat} (h : GSeen l n s) (hf : l.length < f + 1 + n) (id : Int) : GSeen l n (gStep l f s id) := by
 unfold gStep
 split
 · exact h
 · rename_i i hi
   split
   · exact h
   · rename_i hn
     have := (h.add hn (gAt_small hi).1).dfs (f := f) (by omega) i
     exact ⟨this.nodup, this.small, by have := this.len; omega⟩
theorem GSeen.fold {l : List Group} {n f : Nat} (hf : l.length < f + 1 + n) : ∀ (ids : List Int) {s : List Nat}, GSeen l n s → GSeen l n (ids.foldl (gStep l f) s)
 | [], s, h => h
 | id :: ids, s, h => GSeen.fold hf ids (h.step hf id)
theorem fold_take {α β : Type} [Inhabited β] (g : α → β → α) (s : α) {l : List β} {i : Nat} (h : i < l.length) : (l.take (i + 1)).foldl g s = g ((l.take i).foldl g s) (nth l i) := by
 rw [take_nth h, List.foldl_append]; rfl
set_option maxHeartbeats 4000000 in
set_option maxRecDepth 100000 in
theorem gfrom_c (gs : List Group) (hl : gs.length ≤ 1000000) (hB : ∀ g, g ∈ gs → GrB g) : ∀ (f c : Nat) (s : List Nat) (a : Nat), a < gs.length → GSeen gs 0 s → gs.length < f + s.length →
   FnB Tryz.prog 123 [.iptr [grpS gs, .mv 0], .int .i64 a] (.obj (mpObjK (Value.int .i64) c (seenE s))) (.tup []) (.obj (mpObjK (Value.int .i64) c (seenE (dfs (gSucc gs) f s a)))) := by
 intro f
 induction f with
 | zero => intro c s a ha hs hf; have := hs.le; omega
 | succ f ih =>
 intro c s a ha hs hf
 have hb0 := hB _ (nth_mem ha)
 have hn := gnames_c (nth gs a).buckets hb0.len hb0.acts
 have hnl := gNames_le (nth gs a).buckets 1000000 hb0.acts
 have hnl2 : (nth gs a).buckets.length * 1000000 ≤ 1000 * 1000000 := Nat.mul_le_mul_right _ hb0.len
 have hi' : (a : Int) < gs.length := by omega
 have hk : a * 3 + 2 < (grpL gs).length := by rw [grpL_len]; omega
 have hg := grp_get gs a 2 ha (by omega) hk
 rw [dfs_names]
 obtain ⟨x, hx⟩ : ∃ x, nth gs a = x := ⟨_, rfl⟩
 have hg' : (grpL gs)[a * 3 + 2] = .sl false x.buckets.length (bukL x.buckets) := by rw [hg]; simp only [hx]; rfl
 have hq : (grpL gs)[a * 3 + 2]? = some (.sl false x.buckets.length (bukL x.buckets)) := List.getElem?_eq_some_iff.2 ⟨hk, hg'⟩
 have hk' : a * 3 + 2 < gs.length * 3 := by omega
 rw [hx] at hn hnl hnl2 ⊢
 obtain ⟨N, hN⟩ : ∃ N, gNames x.buckets = N := ⟨_, rfl⟩
 rw [hN] at hn hnl ⊢
 have hNl : N.length ≤ 1000000000 := by omega
 have hpl : ∀ id, FnP Tryz.prog 56 [grpS gs, .int .i64 id] (.int .i64 (gPlace gs id)) := fun id => gplace_c gs id hl
 have hS0 : GSeen gs s.length s := ⟨hs.nodup, hs.small, Nat.le_refl _⟩
 clear hg hx hN hnl hnl2 hb0 hB
 unfold grpS bukS intS at *
 refine FnB.intro Tryz.func123 rfl rfl fun G w lB => ?_
 refine WK.anyNx (n := 100) ?_
 repeat' (first | apply WK.s | apply WK.b | apply WK.label | apply WK.scope | (refine hQ.h _ _ ?_; clear hQ hA) | (refine WK.rH Tryz.ntmps123 (by kernel_rfl) ?_; intro A hA Q hQ; simp [*]) | (refine RunQ.k rfl rfl rfl rfl rfl ?_ (hn) ?_ ?_ <;> simp (maxDischargeDepth := 120) [*] <;> refine ⟨?_⟩))
 refine WK.lI (fun n => n) (fun i : Nat => (⟨(upd (upd (upd (upd J 0 (.iptr [.sl false gs.length (grpL gs), .mv 0])) 15 (.sl false N.length (intL N))) 16 (.int .i64 N.length)) 17 (.int .i64 i)), (upd B0 0 (.obj (mpObjK (Value.int .i64) c (seenE ((N.take i).foldl (gStep gs f) s))))), 0⟩ : St)) (fun i => i ≤ N.length) (fun i => N.length - i) (0) (by repeat (first | exact TmW.nil | refine TmW.upd ?_ (by simp (maxDischargeDepth := 120)))) (by repeat (first | exact BxW.nil | refine BxW.upd ?_ (by simp (maxDischargeDepth := 120)))) InjW.id (by omega) (fun i hi IH => ?_)
 by_cases h1 : i < N.length
 · have h1' : (i : Int) < N.length := by omega
   have h3 : i < (intL N).length := by rw [show (intL N).length = N.length by simp [intL]]; exact h1
   have h4 := intL_get' N i h1
   have h6 : IntKind.i64.wrap ((i : Int) + 1) = i + 1 := wrap_i64 (by omega) (by omega)
   have hfo := fold_take (gStep gs f) s h1
   have hT := GSeen.fold (f := f) (by omega) (N.take i) hS0
   have hp := hpl (nth N i)
   have hat := gPlace_at gs (nth N i)
   obtain ⟨T, hTe⟩ : ∃ T, (N.take i).foldl (gStep gs f) s = T := ⟨_, rfl⟩
   rw [hTe] at hfo hT ⊢
   rw [show gStep gs f T (nth N i) = (match gAt gs (nth N i) with | none => T | some i => if i ∈ T then T else dfs (gSucc gs) f (T ++ [i]) i) from rfl] at hfo
   obtain ⟨id, hid⟩ : ∃ id, nth N i = id := ⟨_, rfl⟩
   rw [hid] at hfo hp hat h4
   clear hpl hTe hid
   cases hga : gAt gs id with
   | none =>
     rw [hga] at hfo hat
     simp only at hfo hat
     rw [hat] at hp
     clear hga hat ih
     repeat' (first | apply WK.s | apply WK.b | apply WK.k | refine WK.exit rfl ?_ | refine WK.cT rfl ?_ | (refine hQ.h _ _ ?_; clear hQ hA) | (refine WK.rH Tryz.ntmps123 (by kernel_rfl) ?_; intro A hA Q hQ; simp [*]) | (refine RunQ.g rfl (by rw [hA.h]; rfl) ?_; simp [*]) | (refine RunQ.k rfl rfl rfl rfl rfl ?_ (hp) ?_ ?_ <;> simp (maxDischargeDepth := 120) [*] <;> refine ⟨?_⟩))
     refine WK.next (fun n => n) (IH (i + 1) (by omega) (by first | omega | (dsimp only; omega))) (by repeat (first | exact TmW.nil | refine TmW.upd ?_ (by simp (maxDischargeDepth := 120) [hfo]))) (by repeat (first | exact BxW.nil | refine BxW.upd ?_ (by simp (maxDischargeDepth := 120) [hfo]))) InjW.id
   | some j =>
     obtain ⟨hj, _⟩ := gAt_small hga
     rw [hga] at hfo hat
     simp only at hfo hat
     rw [hat] at hp
     have hv := (seenE_look T j).2
     have hn0 : ¬ (j : Int) < 0 := by omega
     by_cases hjT : j ∈ T
     · rw [if_pos hjT] at hfo hv
       clear hga hat ih
       repeat' (first | apply WK.s | apply WK.b | apply WK.k | refine WK.exit rfl ?_ | refine WK.cT rfl ?_ | (refine hQ.h _ _ ?_; clear hQ hA) | (refine WK.rH Tryz.ntmps123 (by kernel_rfl) ?_; intro A hA Q hQ; simp [*]) | (refine RunQ.g rfl (by rw [hA.h]; rfl) ?_; simp [*]) | (refine RunQW.by (fun hw => ?_); refine RunQ.lookup mpOkInt rfl hw rfl rfl rfl rfl ?_; clear hw; refine RunQ.evalH ?_; simp [*]) | (refine RunQ.k rfl rfl rfl rfl rfl ?_ (hp) ?_ ?_ <;> simp (maxDischargeDepth := 120) [*] <;> refine ⟨?_⟩))
       refine WK.next (fun n => n) (IH (i + 1) (by omega) (by first | omega | (dsimp only; omega))) (by repeat (first | exact TmW.nil | refine TmW.upd ?_ (by simp (maxDischargeDepth := 120) [hfo]))) (by repeat (first | exact BxW.nil | refine BxW.upd ?_ (by simp (maxDischargeDepth := 120) [hfo]))) InjW.id
     · rw [if_neg hjT] at hfo hv
       have hpu := seenE_put hjT
       have hA := hT.add hjT hj
       have c1 := ih c (T ++ [j]) j hj ⟨hA.nodup, hA.small, Nat.zero_le _⟩ (by have := hA.len; omega)
       rw [← hfo] at c1
       have w1 : IntKind.i64.wrap 1 = 1 := rfl
       clear hga hat ih hT hA
       repeat' (first | apply WK.s | apply WK.b | apply WK.n | apply WK.k | refine WK.cT rfl ?_ | refine WK.cF rfl ?_ | (refine hQ.h _ _ ?_; clear hQ hA) | (refine WK.rH Tryz.ntmps123 (by kernel_rfl) ?_; intro A hA Q hQ; simp [*]) | (refine RunQ.g rfl (by rw [hA.h]; rfl) ?_; simp [*]) | (refine RunQ.lookup mpOkInt rfl rfl rfl rfl rfl rfl ?_; refine RunQ.evalH ?_; simp [*]) | (refine RunQW.by (fun hw => ?_); refine RunQ.lookup mpOkInt rfl hw rfl rfl rfl rfl ?_; clear hw; refine RunQ.evalH ?_; simp [*]) | (refine RunQ.mapUpdate mpOkInt rfl rfl rfl rfl rfl rfl rfl ?_; refine RunQ.evalH ?_; simp [*]) | (refine RunQ.callB 0 rfl rfl rfl rfl rfl (c1) ?_ ?_ rfl rfl ?_ ?_ ?_; (focus (simp (maxDischargeDepth := 120) [*]; done)); (focus (simp (maxDischargeDepth := 120) [*]; done)); (focus (simp [*]; done)); (focus (simp [*]; done)); refine RunQ.evalH ?_; simp [*]) | (refine RunQ.k rfl rfl rfl rfl rfl ?_ (hp) ?_ ?_ <;> simp (maxDischargeDepth := 120) [*] <;> refine ⟨?_⟩))
       refine WK.next (fun n => n) (IH (i + 1) (by omega) (by first | omega | (dsimp only; omega))) (by repeat (first | exact TmW.nil | refine TmW.upd ?_ (by simp (maxDischargeDepth := 120) [hfo]))) (by repeat (first | exact BxW.nil | refine BxW.upd ?_ (by simp (maxDischargeDepth := 120) [hfo]))) InjW.id
 · have h1' : ¬ (i : Int) < N.length := by omega
   have hil : i = N.length := by omega
   subst hil
   rw [List.take_length]
   clear IH ih hpl
   repeat' (first | apply WK.s | apply WK.inScope | refine WK.exit rfl ?_ | refine WK.cF rfl ?_ | (refine hQ.h _ _ ?_; clear hQ hA) | (refine WK.rH Tryz.ntmps123 (by kernel_rfl) ?_; intro A hA Q hQ; simp [*]) | (refine WK.retB Tryz.func123 ?_ ?_ rfl (.inl rfl) <;> simp (maxDischargeDepth := 120) [Tryz.results123, *]))

theorem grp_get0 (l : List Group) (i : Nat) (h : i < l.length) (h' : i * 3 < (grpL l).length) : (grpL l)[i * 3] = .int .i64 (nth l i).id := grp_get l i 0 h (by omega) h'
theorem gLoop_false {l : List Group} (h : ∀ i, i < l.length → gSelf l i = false) : gLoop l = false := by
 unfold gLoop
 rw [List.any_eq_false]
 intro i hi
 rw [h i (by simpa using hi)]; simp
theorem gLoop_true {l : List Group} {i : Nat} (h : i < l.length) (hs : gSelf l i = true) : gLoop l = true := by
 unfold gLoop
 rw [List.any_eq_true]
 exact ⟨i, by simpa using h, hs⟩
theorem gSeen_ok (l : List Group) (i : Nat) : GSeen l 0 (gSeen l i) := GSeen.dfs (s := []) ⟨by simp, by simp, by simp⟩ (by omega) i
theorem seenE_get {s : List Nat} {j : Nat} (h : j < (seenE s).length) (h' : j < s.length) : (seenE s)[j].1 = (s[j] : Int) := by simp [seenE]
theorem nodup_add {vs : List Nat} {n j : Nat} (h : vs.Nodup ∧ ∀ v, v ∈ vs → v < n) (hj : j < n) (hn : j ∉ vs) : (vs ++ [j]).Nodup ∧ (∀ v, v ∈ vs ++ [j] → v < n) ∧ vs.length < n := by
 have h1 : (vs ++ [j]).Nodup := by
   rw [List.nodup_append]
   refine ⟨h.1, by simp, ?_⟩
   intro x hx y hy e
   simp only [List.mem_singleton] at hy
   subst hy; subst e; exact hn hx
 have h2 : ∀ v, v ∈ vs ++ [j] → v < n := fun v hv => by
   rcases List.mem_append.1 hv with hv | hv
   · exact h.2 v hv
   · simp only [List.mem_singleton] at hv; subst hv; exact hj
 have h3 := nodup_lt_length n _ h1 h2
 exact ⟨h1, h2, by simp at h3; omega⟩
set_option maxHeartbeats 8000000 in
set_option maxRecDepth 100000 in
theorem gloop_c (l : List Group) (hl : l.length ≤ 1000000) (hB : ∀ g, g ∈ l → GrB g) : FnP Tryz.prog 69 [grpS l] (.bool (gLoop l)) := by
 have hfr : ∀ c a, a < l.length → FnB Tryz.prog 123 [.iptr [grpS l, .mv 0], .int .i64 a] (.obj (mpObjK (Value.int .i64) c [])) (.tup []) (.obj (mpObjK (Value.int .i64) c (seenE (gSeen l a)))) :=
   fun c a ha => gfrom_c l hl hB (l.length + 1) c [] a ha ⟨by simp, by simp, by simp⟩ (by simp)
 unfold grpS at *
 clear hB
 refine FnP.i Tryz.func69 rfl rfl fun G w => ?_
 repeat' (first | apply WK.s | (refine hQ.h _ _ ?_; clear hQ hA) | (refine WK.rH (id := 0) Tryz.ntmps69 (by kernel_rfl) ?_; intro A hA Q hQ; simp [*]) | (refine WK.rH (id := 1) Tryz.ntmps69 (by kernel_rfl) ?_; intro A hA Q hQ; simp [*]) | (refine RunQ.makeMap 900 rfl rfl rfl ?_ ?_; (focus (simp [*]; done)); refine RunQ.evalH ?_; simp [*]))
 refine WK.ghost (Ghost.frzVar 3 rfl rfl) ?_
 repeat' (first | apply WK.b | (refine hQ.h _ _ ?_; clear hQ hA) | (refine WK.rH (id := 0) Tryz.ntmps69 (by kernel_rfl) ?_; intro A hA Q hQ; simp [*]) | (refine WK.rH (id := 1) Tryz.ntmps69 (by kernel_rfl) ?_; intro A hA Q hQ; simp [*]) | (refine WK.rH (id := 2) Tryz.ntmps69 (by kernel_rfl) ?_; intro A hA Q hQ; simp [*]))
 refine WK.lI (fun n => if n = 1 then 900 else n) (fun x : Nat × Nat × List Nat => (⟨(upd (upd (upd (upd (upd (upd J 0 (.sl false l.length (grpL l))) 2 (.bool false)) 3 (.iptr [.sl false l.length (grpL l), .mv 1])) 11 (.sl false l.length (grpL l))) 12 (.int .i64 l.length)) 13 (.int .i64 x.1)), (upd B0 1 (.obj (mpObjK (Value.int .i64) x.2.1 (seenE x.2.2)))), 0⟩ : St)) (fun x => x.1 ≤ l.length ∧ ∀ k, k < x.1 → gSelf l k = false) (fun x => l.length - x.1) ((0, 0, [])) (by repeat (first | exact TmW.nil | refine TmW.upd ?_ (by simp (maxDischargeDepth := 120) [seenE]))) (by repeat (first | exact BxW.nil | refine BxW.upd ?_ (by simp (maxDischargeDepth := 120) [seenE]))) (by first | exact InjW.id | exact InjW.nil | exact InjW.one | exact InjW.two (by simp) | exact InjW.three (by simp) (by simp) (by simp)) (⟨by simp, by simp⟩) (fun x hi IH => ?_)
 obtain ⟨i, c, t⟩ := x
 simp only at hi ⊢
 by_cases h1 : i < l.length
 · have h1' : (i : Int) < l.length := by omega
   have h6 : IntKind.i64.wrap ((i : Int) + 1) = i + 1 := wrap_i64 (by omega) (by omega)
   have h3 : 3 ≤ l.length * 3 - i * 3 := by omega
   have h4 := grp_sub l i h1
   have hf := hfr (c + (seenE t).length) i h1
   have hok := gSeen_ok l i
   have hse := gSelf l i
   have hsd : gSelf l i = (gSeen l i).any fun j => (nth l j).id == (nth l i).id := rfl
   have hlt := gLoop_true (l := l) h1
   obtain ⟨T, hT⟩ : ∃ T, gSeen l i = T := ⟨_, rfl⟩
   rw [hT] at hf hok hsd
   obtain ⟨g, hg⟩ : ∃ g, nth l i = g := ⟨_, rfl⟩
   rw [hg] at h4 hsd
   have hm : ∀ k, k < T.length → ((nth l (nth T k)).id == g.id) = true → gLoop l = true := fun k hk e => hlt (by rw [hsd, List.any_eq_true]; exact ⟨_, nth_mem hk, e⟩)
   have hno : (∀ k, k < T.length → ((nth l (nth T k)).id == g.id) = false) → gSelf l i = false := fun h => by
     rw [hsd, List.any_eq_false]
     intro y hy
     obtain ⟨k, hk, rfl⟩ := mem_nth hy
     rw [h k hk]; simp
   have hTs : ∀ k, k < T.length → nth T k < l.length := fun k hk => hok.small _ (nth_mem hk)
   clear hT hg hfr hlt hsd hse hok
   repeat' (first | apply WK.s | apply WK.b | apply WK.k | refine WK.cT rfl ?_ | (refine hQ.h _ _ ?_; clear hQ hA) | (refine WK.rH (id := 0) Tryz.ntmps69 (by kernel_rfl) ?_; intro A hA Q hQ; simp [Group.enc, *]) | (refine WK.rH (id := 1) Tryz.ntmps69 (by kernel_rfl) ?_; intro A hA Q hQ; simp [Group.enc, *]) | (refine WK.rH (id := 2) Tryz.ntmps69 (by kernel_rfl) ?_; intro A hA Q hQ; simp [Group.enc, *]) | (refine WK.rH (id := 3) Tryz.ntmps69 (by kernel_rfl) ?_; intro A hA Q hQ; simp [Group.enc, *]) | (refine WK.rH (id := 4) Tryz.ntmps69 (by kernel_rfl) ?_; intro A hA Q hQ; simp [Group.enc, *]) | (refine WK.rH (id := 5) Tryz.ntmps69 (by kernel_rfl) ?_; intro A hA Q hQ; simp [Group.enc, *]) | (refine WK.rH (id := 6) Tryz.ntmps69 (by kernel_rfl) ?_; intro A hA Q hQ; simp [Group.enc, *]) | (refine RunQ.clearM mpOkInt rfl rfl rfl rfl rfl rfl rfl rfl ?_; refine RunQ.evalH ?_; simp [Group.enc, *]) | (refine RunQ.callB 1 rfl rfl rfl rfl rfl (hf) ?_ ?_ rfl rfl ?_ ?_ ?_; (focus (simp (maxDischargeDepth := 120) [Group.enc, *]; done)); (focus (simp (maxDischargeDepth := 120) [Group.enc, *]; done)); (focus (simp [Group.enc, *]; done)); (focus (simp [Group.enc, *]; done)); refine RunQ.evalH ?_; simp [Group.enc, *]))
   refine WK.named 1 rfl fun m => ?_
   refine WK.regN Tryz.ntmps69 (by kernel_rfl) ?_
   intro A hA Q hQ
   simp [*]
   refine RunN.range 2 mpOkInt rfl rfl rfl rfl (by simp) List.mem_cons_self ?_
   refine RunN.evalH ?_
   simp
   refine hQ.h _ _ ?_
   clear hQ hA
   repeat (apply WK.b)
   refine WK.lI (fun n => if n = 3 then 103 else n) (fun vs : List Nat => (⟨(upd (upd (upd (upd (upd (upd (upd (upd J 0 (.sl false l.length (grpL l))) 2 (.bool false)) 3 (.iptr [.sl false l.length (grpL l), .mv 1])) 5 (.ptr 3 0)) 11 (.sl false l.length (grpL l))) 12 (.int .i64 l.length)) 13 (.int .i64 i)) 29 (.ptr 2 0)), (upd (upd (upd B0 1 (.obj (mpObjK (Value.int .i64) (c + (seenE t).length) (seenE T)))) 2 (.obj (itObj m (c + (seenE t).length) (seenE T).length vs))) 3 (.var g.enc)), 0⟩ : St)) (fun vs => (vs.Nodup ∧ ∀ v, v ∈ vs → v < T.length) ∧ ∀ v, v ∈ vs → ((nth l (nth T v)).id == g.id) = false) (fun vs => T.length - vs.length) ([]) (by repeat (first | exact TmW.nil | refine TmW.upd ?_ (by simp (maxDischargeDepth := 120) [Group.enc]))) (by repeat (first | exact BxW.nil | refine BxW.upd ?_ (by simp (maxDischargeDepth := 120) [Group.enc]))) (by first | exact InjW.id | exact InjW.nil | exact InjW.one | exact InjW.two (by simp) | exact InjW.three (by simp) (by simp) (by simp)) (⟨⟨by simp, by simp⟩, by simp⟩) (fun vs hv IHv => ?_)
   repeat apply WK.s
   refine WK.regN Tryz.ntmps69 (by kernel_rfl) ?_
   intro A hA Q hQ
   simp [*]
   refine RunN.next rfl rfl rfl rfl rfl List.mem_cons_self (fun h0 => ?_) (fun k hk hnv => ?_)
   · refine RunN.evalH ?_
     simp
     refine hQ.h _ _ ?_
     clear hQ hA
     have hs := hno (fun k hk => hv.2 k (h0 k (by rw [seenE_len]; exact hk)))
     have hi2 := hi.2
     clear hf hm hno hTs h0 IHv
     refine WK.unname ?_
     repeat' (first | apply WK.s | apply WK.n | refine WK.exit rfl ?_ | refine WK.cF rfl ?_ | (refine hQ.h _ _ ?_; clear hQ hA) | (refine WK.rH Tryz.ntmps69 (by kernel_rfl) ?_; intro A hA Q hQ; simp [*]))
     refine WK.next (fun n => n) (IH ((i + 1, c + (seenE t).length, T)) (⟨by simp only; omega, fun k hk => by by_cases h7 : k = i; (subst h7; exact hs); exact hi2 k (by simp only at hk; omega)⟩) (by first | omega | (dsimp only; omega))) (by repeat (first | exact TmW.nil | refine TmW.upd ?_ (by simp (maxDischargeDepth := 120)))) (by repeat (first | exact BxW.nil | refine BxW.upd ?_ (by simp (maxDischargeDepth := 120)))) InjW.id
   · refine RunN.evalH ?_
     simp
     refine hQ.h _ _ ?_
     clear hQ hA
     rw [seenE_len] at hk
     have hge := seenE_get (s := T) (j := k) (by rw [seenE_len]; exact hk) hk
     have hnk := nth_eq hk
     have hsm := hTs k hk
     have hmk := hm k hk
     obtain ⟨n1, n2, n3⟩ := nodup_add hv.1 hk hnv
     obtain ⟨q, hq⟩ : ∃ q, nth T k = q := ⟨_, rfl⟩
     rw [hq] at hsm hmk
     rw [← hnk, hq] at hge
     have hst : ((nth l q).id == g.id) = false → ∀ v, v ∈ vs ++ [k] → ((nth l (nth T v)).id == g.id) = false := fun h v hv' => by
       rcases List.mem_append.1 hv' with hv' | hv'
       · exact hv.2 v hv'
       · simp only [List.mem_singleton] at hv'; subst hv'; rw [hq]; exact h
     have k4 := grp_get0 l q hsm
     have k5 : q * 3 < l.length * 3 := by omega
     have hq' : (q : Int) < l.length := by omega
     clear hf hm hno hTs hnk hq hi IH
     repeat' (first | apply WK.s | apply WK.b | apply WK.k | refine WK.cT rfl ?_)
     refine WK.regN Tryz.ntmps69 (by kernel_rfl) ?_
     intro A hA Q hQ
     simp [*]
     refine RunN.entry rfl rfl rfl rfl rfl List.mem_cons_self (by rw [seenE_len]; exact hk) ?_
     refine RunN.evalH ?_
     simp [hge]
     refine hQ.h _ _ ?_
     clear hQ hA
     cases h5 : (nth l q).id == g.id
     · have hst := hst h5
       clear hmk
       repeat' (first | apply WK.s | apply WK.n | apply WK.k | refine WK.cF rfl ?_ | (refine WK.rX (by kernel_rfl) Tryz.ntmps69 (by kernel_rfl) ?_; intro A hA Q hQ; simp [Group.enc, *]) | (refine hQ.h _ _ _ (by decide +kernel) ?_; clear hQ hA))
       have hlen : (vs ++ [k]).length = vs.length + 1 := by simp
       refine WK.next (fun n => n) (IHv (vs ++ [k]) (⟨⟨n1, n2⟩, hst⟩) (by first | omega | (dsimp only; omega))) (by repeat (first | exact TmW.nil | refine TmW.upd ?_ (by simp (maxDischargeDepth := 120) [Group.enc]))) (by repeat (first | exact BxW.nil | refine BxW.upd ?_ (by simp (maxDischargeDepth := 120) [Group.enc]))) InjW.id
     · have e := hmk h5
       rw [e]
       clear hst hmk IHv
       refine WK.unname ?_
       repeat' (first | apply WK.s | refine WK.cT rfl ?_ | (refine hQ.h _ _ ?_; clear hQ hA) | (refine WK.rH Tryz.ntmps69 (by kernel_rfl) ?_; intro A hA Q hQ; simp [Group.enc, *]) | (refine WK.rX (by kernel_rfl) Tryz.ntmps69 (by kernel_rfl) ?_; intro A hA Q hQ; simp [Group.enc, *]) | (refine hQ.h _ _ _ (by decide +kernel) ?_; clear hQ hA) | (refine WK.t Tryz.func69 ?_ ?_ <;> simp (maxDischargeDepth := 120) [Tryz.results69, Group.enc, *]))
 · have h1' : ¬ (i : Int) < l.length := by omega
   have e := gLoop_false (l := l) (fun k hk => hi.2 k (by simp only at *; omega))
   rw [e]
   clear hfr IH hi
   repeat' (first | apply WK.s | refine WK.exit rfl ?_ | refine WK.cF rfl ?_ | (refine hQ.h _ _ ?_; clear hQ hA) | (refine WK.rH Tryz.ntmps69 (by kernel_rfl) ?_; intro A hA Q hQ; simp [*]) | (refine WK.t Tryz.func69 ?_ ?_ <;> simp (maxDischargeDepth := 120) [Tryz.results69, *]))

def bStep (l : List Group) (p : List Nat × List Nat) (id : Int) : List Nat × List Nat := match gAt l id with
 | none => p
 | some i => bfsOne p i
theorem bfs_names (l : List Group) (a : Nat) (p : List Nat × List Nat) : (gSucc l a).foldl bfsOne p = (gNames (nth l a).buckets).foldl (bStep l) p := by
 unfold gSucc
 rw [List.foldl_filterMap]
 congr 1
 funext s id
 unfold bStep
 cases gAt l id <;> rfl

structure BfAt (l : List Group) (r : Nat) (x : Nat × List AV × List Nat × List Nat) : Prop where
 pre : x.2.1.length = x.1
 cl : ClL x.2.1 = true
 bf : Bf (gSucc l) l.length r x.2.2.2 x.2.2.1
 le : x.2.2.1.length ≤ x.2.2.2.length + 1
theorem BfAt.next {l : List Group} {r a : Nat} {s t : List Nat} (h : Bf (gSucc l) l.length r s (a :: t)) (hle : t.length ≤ s.length) (pre : List AV) (hc : ClL pre = true) {s' t' : List Nat} (e : (gNames (nth l a).buckets).foldl (bStep l) (s, t) = (s', t')) :
   BfAt l r (pre.length, pre, t', s') ∧ 2 * (l.length - s'.length) + t'.length < 2 * (l.length - s.length) + (t.length + 1) := by
 obtain ⟨n, h1, h2⟩ := h.next (gSucc_small l)
 rw [bfs_names, e] at h1
 obtain ⟨rfl, rfl⟩ := Prod.mk.inj h1
 have := h2.less
 refine ⟨⟨rfl, hc, h2, by simp; omega⟩, ?_⟩
 simp only [List.length_append] at this ⊢
 omega
theorem BfAt.small {l : List Group} {r : Nat} {x : Nat × List AV × List Nat × List Nat} (h : BfAt l r x) (hr : r < l.length) : ∀ y, y ∈ x.2.2.1 → y < l.length := fun y hy => by
 rcases h.bf.todo y hy with rfl | hre
 · exact hr
 · cases hre with
   | one h1 => exact gSucc_small l _ _ h1
   | more _ h1 => exact gSucc_small l _ _ h1

theorem gOk_all {l : List Group} (h : ∀ i, i < l.length → gOk l i = true) : (List.range l.length).all (gOk l) = true := by
 rw [List.all_eq_true]
 intro i hi; exact h i (by simpa using hi)
theorem gOk_not {l : List Group} {i : Nat} (hi : i < l.length) (h : gOk l i = false) : (List.range l.length).all (gOk l) = false := by
 rw [List.all_eq_false]
 exact ⟨i, by simpa using hi, by simp [h]⟩
theorem gPlace_eq (l : List Group) (id : Int) (i : Nat) : (gPlace l id == (i : Int)) = (gAt l id == some i) := by
 rw [gPlace_at]
 cases gAt l id with
 | none => simp
 | some j =>
   rw [Bool.eq_iff_iff]
   simp
   omega
set_option maxHeartbeats 8000000 in
theorem gright_grp_c (l : List Group) (hl : l.length ≤ 1000000) (hB : ∀ g, g ∈ l → GrB g) : FnP Tryz.prog 41 [grpS l] (.bool (gRightL l)) := by
 have cl := gloop_c l hl hB
 have f1 : ∀ c, gF (some c) = [.bool true, .int .i64 c.1, .int .i64 c.2] := fun c => rfl
 have f0 : gF (none : Option (Int × Int)) = [.bool false, .int .i64 0, .int .i64 0] := rfl
 by_cases h8 : l.length ≤ 8
 case neg =>
   have e : gRightL l = false := by unfold gRightL; rw [decide_eq_false h8]; rfl
   rw [e]
   have h8' : (8 : Int) < l.length := by omega
   have h8'' : 8 < l.length := by omega
   clear hB cl
   unfold grpS
   refine FnP.i Tryz.func41 rfl rfl fun G w => ?_
   repeat' (first | apply WK.s | refine WK.cT rfl ?_ | (refine hQ.h _ _ ?_; clear hQ hA) | (refine WK.rH Tryz.ntmps41 (by kernel_rfl) ?_; intro A hA Q hQ; simp [*]) | (refine RunQ.g rfl (by rw [hA.h]; rfl) ?_; simp [*]) | (refine WK.t Tryz.func41 ?_ ?_ <;> simp (maxDischargeDepth := 120) [Tryz.results41, *]))
 have h8' : ¬ (8 : Int) < l.length := by omega
 have h8'' : ¬ 8 < l.length := by omega
 cases hlo : gLoop l
 case true =>
   have e : gRightL l = false := by unfold gRightL; rw [hlo]; simp
   rw [e]
   rw [hlo] at cl
   clear hB hlo
   unfold grpS at *
   refine FnP.i Tryz.func41 rfl rfl fun G w => ?_
   repeat' (first | apply WK.s | refine WK.cT rfl ?_ | (refine hQ.h _ _ ?_; clear hQ hA) | (refine WK.rH Tryz.ntmps41 (by kernel_rfl) ?_; intro A hA Q hQ; simp [*]) | (refine RunQ.g rfl (by rw [hA.h]; rfl) ?_; simp [*]) | (refine RunQW.k rfl rfl rfl rfl ?_ (cl) ?_ ?_ <;> simp (maxDischargeDepth := 120) [*] <;> refine ⟨?_⟩) | (refine WK.t Tryz.func41 ?_ ?_ <;> simp (maxDischargeDepth := 120) [Tryz.results41, *]))
 have e : gRightL l = (List.range l.length).all (gOk l) := by unfold gRightL; rw [hlo, decide_eq_true h8]; rfl
 rw [e]
 rw [hlo] at cl
 have ha := gOk_all (l := l)
 have hn := fun {i : Nat} => gOk_not (l := l) (i := i)
 have hth : ∀ i, i < l.length → FnP Tryz.prog 72 [grpS l, bukS (nth l i).buckets] (.bool (gThere l (nth l i).buckets)) := fun i hi => by
   have := hB _ (nth_mem hi)
   exact gthere_c l _ hl this.len this.acts
 have hck : ∀ i, i < l.length → FnP Tryz.prog 71 [.int .i64 (nth l i).kind, bukS (nth l i).buckets] (.agg (gF (gCheck (nth l i).kind (nth l i).buckets))) := fun i hi => by
   have := (hB _ (nth_mem hi)).len
   exact gcheck_c _ _ (by omega)
 have hpl : ∀ id, FnP Tryz.prog 56 [grpS l, .int .i64 id] (.int .i64 (gPlace l id)) := fun id => gplace_c l id hl
 obtain ⟨R, hR⟩ : ∃ R, (List.range l.length).all (gOk l) = R := ⟨_, rfl⟩
 rw [hR] at ha ⊢
 simp only [hR] at hn
 clear hR e hB hlo
 unfold grpS bukS at *
 refine FnP.i Tryz.func41 rfl rfl fun G w => ?_
 repeat' (first | apply WK.s | apply WK.b | apply WK.k | refine WK.cF rfl ?_ | (refine hQ.h _ _ ?_; clear hQ hA) | (refine WK.rH (id := 0) Tryz.ntmps41 (by kernel_rfl) ?_; intro A hA Q hQ; simp [*]) | (refine WK.rH (id := 1) Tryz.ntmps41 (by kernel_rfl) ?_; intro A hA Q hQ; simp [*]) | (refine WK.rH (id := 2) Tryz.ntmps41 (by kernel_rfl) ?_; intro A hA Q hQ; simp [*]) | (refine WK.rH (id := 3) Tryz.ntmps41 (by kernel_rfl) ?_; intro A hA Q hQ; simp [*]) | (refine RunQ.g rfl (by rw [hA.h]; rfl) ?_; simp [*]) | (refine RunQW.k rfl rfl rfl rfl ?_ (cl) ?_ ?_ <;> simp (maxDischargeDepth := 120) [*] <;> refine ⟨?_⟩))
 refine WK.lI (fun n => n) (fun i : Nat => (⟨(upd (upd (upd (upd J 0 (.sl false l.length (grpL l))) 12 (.sl false l.length (grpL l))) 13 (.int .i64 l.length)) 14 (.int .i64 i)), B0, 0⟩ : St)) (fun i => i ≤ l.length ∧ ∀ k, k < i → gOk l k = true) (fun i => l.length - i) (0) (by repeat (first | exact TmW.nil | refine TmW.upd ?_ (by simp (maxDischargeDepth := 120)))) (by repeat (first | exact BxW.nil | refine BxW.upd ?_ (by simp (maxDischargeDepth := 120)))) InjW.id (⟨by omega, by simp⟩) (fun i hi IH => ?_)
 by_cases h1 : i < l.length
 · have h1' : (i : Int) < l.length := by omega
   have h6 : IntKind.i64.wrap ((i : Int) + 1) = i + 1 := wrap_i64 (by omega) (by omega)
   obtain ⟨h4, h3⟩ := grp_load l i h1
   have k1 := gnum_c (nth l i).id
   have k2 := hpl (nth l i).id
   have k3 := hck i h1
   have k4 := hth i h1
   have hpe := gPlace_eq l (nth l i).id i
   have hok : gOk l i = (gNum (nth l i).id && (gAt l (nth l i).id == some i && ((gCheck (nth l i).kind (nth l i).buckets).isNone && gThere l (nth l i).buckets))) := rfl
   have hno := hn h1
   have hi2 := hi.2
   have hst : gOk l i = true → ∀ k, k < i + 1 → gOk l k = true := fun h k hk => by
     by_cases h7 : k = i
     · subst h7; exact h
     · exact hi2 k (by omega)
   rw [hok] at hno hst
   obtain ⟨x, hx⟩ : ∃ x, nth l i = x := ⟨_, rfl⟩
   simp only [hx] at h4 k1 k2 k3 k4 hpe hno hst
   obtain ⟨b1, e1⟩ : ∃ b, gNum x.id = b := ⟨_, rfl⟩
   obtain ⟨b2, e2⟩ : ∃ b, (gAt l x.id == some i) = b := ⟨_, rfl⟩
   obtain ⟨b3, e3⟩ : ∃ b, gCheck x.kind x.buckets = b := ⟨_, rfl⟩
   obtain ⟨b4, e4⟩ : ∃ b, gThere l x.buckets = b := ⟨_, rfl⟩
   obtain ⟨P, eP⟩ : ∃ P, gPlace l x.id = P := ⟨_, rfl⟩
   simp only [e1, e2, e3, e4, eP] at k1 k2 k3 k4 hpe hno hst
   clear e1 e2 e3 e4 eP hok hx hn ha hpl hck hth hi
   cases b1
   · have e := hno rfl
     subst e
     clear hst IH hno k2 k3 k4
     repeat' (first | apply WK.s | apply WK.b | apply WK.k | refine WK.cT rfl ?_ | (refine hQ.h _ _ ?_; clear hQ hA) | (refine WK.rH Tryz.ntmps41 (by kernel_rfl) ?_; intro A hA Q hQ; simp [Group.enc, *]) | (refine RunQ.g rfl (by rw [hA.h]; rfl) ?_; simp [Group.enc, *]) | (refine RunQ.k rfl rfl rfl rfl rfl ?_ (k1) ?_ ?_ <;> simp (maxDischargeDepth := 120) [Group.enc, *] <;> refine ⟨?_⟩) | (refine WK.t Tryz.func41 ?_ ?_ <;> simp (maxDischargeDepth := 120) [Tryz.results41, Group.enc, *]))
   cases b2
   · have e := hno rfl
     subst e
     clear hst IH hno k3 k4
     repeat' (first | apply WK.s | apply WK.b | apply WK.k | refine WK.cT rfl ?_ | (refine hQ.h _ _ ?_; clear hQ hA) | (refine WK.rH Tryz.ntmps41 (by kernel_rfl) ?_; intro A hA Q hQ; simp [Group.enc, bne, *]) | (refine RunQ.g rfl (by rw [hA.h]; rfl) ?_; simp [Group.enc, bne, *]) | (refine RunQ.k rfl rfl rfl rfl rfl ?_ (k1) ?_ ?_ <;> simp (maxDischargeDepth := 120) [Group.enc, bne, *] <;> refine ⟨?_⟩) | (refine RunQ.k rfl rfl rfl rfl rfl ?_ (k2) ?_ ?_ <;> simp (maxDischargeDepth := 120) [Group.enc, bne, *] <;> refine ⟨?_⟩) | (refine RunQW.k rfl rfl rfl rfl ?_ (k1) ?_ ?_ <;> simp (maxDischargeDepth := 120) [Group.enc, bne, *] <;> refine ⟨?_⟩) | (refine RunQW.k rfl rfl rfl rfl ?_ (k2) ?_ ?_ <;> simp (maxDischargeDepth := 120) [Group.enc, bne, *] <;> refine ⟨?_⟩) | (refine WK.t Tryz.func41 ?_ ?_ <;> simp (maxDischargeDepth := 120) [Tryz.results41, Group.enc, bne, *]))
   cases b3 with
   | some c =>
     have e := hno rfl
     subst e
     rw [f1] at k3
     clear hst IH hno k4 f1 f0
     repeat' (first | apply WK.s | apply WK.b | apply WK.k | refine WK.cT rfl ?_ | (refine hQ.h _ _ ?_; clear hQ hA) | (refine WK.rH Tryz.ntmps41 (by kernel_rfl) ?_; intro A hA Q hQ; simp [Group.enc, bne, *]) | (refine RunQ.g rfl (by rw [hA.h]; rfl) ?_; simp [Group.enc, bne, *]) | (refine RunQ.k rfl rfl rfl rfl rfl ?_ (k1) ?_ ?_ <;> simp (maxDischargeDepth := 120) [Group.enc, bne, *] <;> refine ⟨?_⟩) | (refine RunQ.k rfl rfl rfl rfl rfl ?_ (k2) ?_ ?_ <;> simp (maxDischargeDepth := 120) [Group.enc, bne, *] <;> refine ⟨?_⟩) | (refine RunQ.k rfl rfl rfl rfl rfl ?_ (k3) ?_ ?_ <;> simp (maxDischargeDepth := 120) [Group.enc, bne, *] <;> refine ⟨?_⟩) | (refine RunQW.k rfl rfl rfl rfl ?_ (k1) ?_ ?_ <;> simp (maxDischargeDepth := 120) [Group.enc, bne, *] <;> refine ⟨?_⟩) | (refine RunQW.k rfl rfl rfl rfl ?_ (k2) ?_ ?_ <;> simp (maxDischargeDepth := 120) [Group.enc, bne, *] <;> refine ⟨?_⟩) | (refine RunQW.k rfl rfl rfl rfl ?_ (k3) ?_ ?_ <;> simp (maxDischargeDepth := 120) [Group.enc, bne, *] <;> refine ⟨?_⟩) | (refine WK.t Tryz.func41 ?_ ?_ <;> simp (maxDischargeDepth := 120) [Tryz.results41, Group.enc, bne, *]))
   | none =>
   rw [f0] at k3
   clear f1 f0
   cases b4
   · have e := hno rfl
     subst e
     clear hst IH hno
     repeat' (first | apply WK.s | apply WK.b | apply WK.k | refine WK.cT rfl ?_ | (refine hQ.h _ _ ?_; clear hQ hA) | (refine WK.rH Tryz.ntmps41 (by kernel_rfl) ?_; intro A hA Q hQ; simp [Group.enc, bne, *]) | (refine RunQ.g rfl (by rw [hA.h]; rfl) ?_; simp [Group.enc, bne, *]) | (refine RunQ.k rfl rfl rfl rfl rfl ?_ (k1) ?_ ?_ <;> simp (maxDischargeDepth := 120) [Group.enc, bne, *] <;> refine ⟨?_⟩) | (refine RunQ.k rfl rfl rfl rfl rfl ?_ (k2) ?_ ?_ <;> simp (maxDischargeDepth := 120) [Group.enc, bne, *] <;> refine ⟨?_⟩) | (refine RunQ.k rfl rfl rfl rfl rfl ?_ (k3) ?_ ?_ <;> simp (maxDischargeDepth := 120) [Group.enc, bne, *] <;> refine ⟨?_⟩) | (refine RunQ.k rfl rfl rfl rfl rfl ?_ (k4) ?_ ?_ <;> simp (maxDischargeDepth := 120) [Group.enc, bne, *] <;> refine ⟨?_⟩) | (refine RunQW.k rfl rfl rfl rfl ?_ (k1) ?_ ?_ <;> simp (maxDischargeDepth := 120) [Group.enc, bne, *] <;> refine ⟨?_⟩) | (refine RunQW.k rfl rfl rfl rfl ?_ (k2) ?_ ?_ <;> simp (maxDischargeDepth := 120) [Group.enc, bne, *] <;> refine ⟨?_⟩) | (refine RunQW.k rfl rfl rfl rfl ?_ (k3) ?_ ?_ <;> simp (maxDischargeDepth := 120) [Group.enc, bne, *] <;> refine ⟨?_⟩) | (refine RunQW.k rfl rfl rfl rfl ?_ (k4) ?_ ?_ <;> simp (maxDischargeDepth := 120) [Group.enc, bne, *] <;> refine ⟨?_⟩) | (refine WK.t Tryz.func41 ?_ ?_ <;> simp (maxDischargeDepth := 120) [Tryz.results41, Group.enc, bne, *]))
   · have hst := hst rfl
     clear hno
     repeat' (first | apply WK.s | apply WK.b | apply WK.n | apply WK.k | refine WK.cT rfl ?_ | refine WK.cF rfl ?_ | (refine hQ.h _ _ ?_; clear hQ hA) | (refine WK.rH Tryz.ntmps41 (by kernel_rfl) ?_; intro A hA Q hQ; simp [Group.enc, bne, *]) | (refine RunQ.g rfl (by rw [hA.h]; rfl) ?_; simp [Group.enc, bne, *]) | (refine RunQ.k rfl rfl rfl rfl rfl ?_ (k1) ?_ ?_ <;> simp (maxDischargeDepth := 120) [Group.enc, bne, *] <;> refine ⟨?_⟩) | (refine RunQ.k rfl rfl rfl rfl rfl ?_ (k2) ?_ ?_ <;> simp (maxDischargeDepth := 120) [Group.enc, bne, *] <;> refine ⟨?_⟩) | (refine RunQ.k rfl rfl rfl rfl rfl ?_ (k3) ?_ ?_ <;> simp (maxDischargeDepth := 120) [Group.enc, bne, *] <;> refine ⟨?_⟩) | (refine RunQ.k rfl rfl rfl rfl rfl ?_ (k4) ?_ ?_ <;> simp (maxDischargeDepth := 120) [Group.enc, bne, *] <;> refine ⟨?_⟩) | (refine RunQW.k rfl rfl rfl rfl ?_ (k1) ?_ ?_ <;> simp (maxDischargeDepth := 120) [Group.enc, bne, *] <;> refine ⟨?_⟩) | (refine RunQW.k rfl rfl rfl rfl ?_ (k2) ?_ ?_ <;> simp (maxDischargeDepth := 120) [Group.enc, bne, *] <;> refine ⟨?_⟩) | (refine RunQW.k rfl rfl rfl rfl ?_ (k3) ?_ ?_ <;> simp (maxDischargeDepth := 120) [Group.enc, bne, *] <;> refine ⟨?_⟩) | (refine RunQW.k rfl rfl rfl rfl ?_ (k4) ?_ ?_ <;> simp (maxDischargeDepth := 120) [Group.enc, bne, *] <;> refine ⟨?_⟩))
     refine WK.next (fun n => n) (IH (i + 1) (⟨by omega, hst⟩) (by first | omega | (dsimp only; omega))) (by repeat (first | exact TmW.nil | refine TmW.upd ?_ (by simp (maxDischargeDepth := 120)))) (by repeat (first | exact BxW.nil | refine BxW.upd ?_ (by simp (maxDischargeDepth := 120)))) InjW.id
 · have h1' : ¬ (i : Int) < l.length := by omega
   have e := ha (fun k hk => hi.2 k (by omega))
   subst e
   clear hn ha hpl hck hth IH hi f1
   repeat' (first | apply WK.s | refine WK.exit rfl ?_ | refine WK.cF rfl ?_ | (refine hQ.h _ _ ?_; clear hQ hA) | (refine WK.rH Tryz.ntmps41 (by kernel_rfl) ?_; intro A hA Q hQ; simp [*]) | (refine WK.t Tryz.func41 ?_ ?_ <;> simp (maxDischargeDepth := 120) [Tryz.results41, *]))

structure FlB (f : Flow) : Prop where
 mat : f.mat.length ≤ 10000
 insts : f.insts.length ≤ 100
 acts : ∀ x, x ∈ f.insts → x.acts.length ≤ 10000
theorem FlB.pl {f : Flow} (h : FlB f) : FPl f := by
 have h1 := h.mat
 have h2 := h.insts
 have h3 := allI_len (g := id) (fun l => Nat.le_refl _) 10000 f.insts h.acts
 have h4 : f.insts.length * 10000 ≤ 100 * 10000 := Nat.mul_le_mul_right _ h2
 exact ⟨⟨by omega, ⟨by omega, fun x hx => by have := h.acts x hx; omega⟩⟩, by omega⟩
theorem FlB.mod {f : Flow} (h : FlB f) (t : Int) : FmB (stMod f t) := ⟨h.mat, h.insts, fun x hx => by have := h.acts x hx; omega⟩
theorem FlB.plain {f : Flow} (h : Flow.plain f = true) : FlB f := by
 unfold Flow.plain instsPlain at h
 simp only [Bool.and_eq_true, decide_eq_true_eq, List.all_eq_true, actsPlain] at h
 obtain ⟨h1, h2, h3⟩ := h
 exact ⟨by omega, by omega, fun x hx => by have := h3 x hx; omega⟩
set_option maxHeartbeats 4000000 in
set_option maxRecDepth 100000 in
theorem stmod_c (f : Flow) (t : Int) (hf : FOk f) : FnP Tryz.prog 45 [.agg f.enc, .int .i64 t] (.agg (stMod f t).enc) := by
 obtain ⟨ck, pr, idl, hd, fl, ma, ins⟩ := f
 have c : FnP Tryz.prog 80 [.agg [.int .u64 (uI ck), .int .u64 0, .int .i64 0, .int .i64 0, .int .i64 idl, .int .i64 hd, .int .i64 pr, .int .i64 0, .int .i64 0, .int .i64 0, .int .i64 fl, .sl false ma.length (oxmL ma), .sl false ins.length (instL ins)]]
     (.agg (Flow.enc ⟨ck, pr, idl, hd, fl, ma, ins⟩)) := of2_c ⟨ck, 0#64, 0, 0, idl, hd, pr, 0, 0, 0, fl, ma, ins⟩ hf
 have e : (stMod ⟨ck, pr, idl, hd, fl, ma, ins⟩ t).enc = [.int .u64 (uI ck), .int .u64 0, .int .i64 t, .int .i64 0, .int .i64 idl, .int .i64 hd, .int .i64 pr, .int .i64 4294967295, .int .i64 4294967295, .int .i64 4294967295, .int .i64 fl, .sl false ma.length (oxmL ma), .sl false ins.length (instL ins)] := rfl
 have e2 : Flow.enc ⟨ck, pr, idl, hd, fl, ma, ins⟩ = [.int .u64 (uI ck), .int .i64 pr, .int .i64 idl, .int .i64 hd, .int .i64 fl, .sl false ma.length (oxmL ma), .sl false ins.length (instL ins)] := rfl
 rw [e]
 rw [e2] at c ⊢
 clear hf e e2
 refine FnP.i Tryz.func45 rfl rfl fun G w => ?_
 repeat' (first | apply WK.s | (refine hQ.h _ _ ?_; clear hQ hA) | (refine WK.rH Tryz.ntmps45 (by kernel_rfl) ?_; intro A hA Q hQ; simp [*]) | (refine WK.rX (by kernel_rfl) Tryz.ntmps45 (by kernel_rfl) ?_; intro A hA Q hQ; simp [*]) | (refine hQ.h _ _ _ (by decide +kernel) ?_; clear hQ hA) | (refine RunQ.k rfl rfl rfl rfl rfl ?_ (c) ?_ ?_ <;> simp (maxDischargeDepth := 120) [*] <;> refine ⟨?_⟩) | (refine WK.t Tryz.func45 ?_ ?_ <;> simp (maxDischargeDepth := 120) [Tryz.results45, *]))
theorem gFind_some (l : List Group) (id : Int) : (gFind l id).2 = (gAt l id).isSome := by
 unfold gFind
 cases gAt l id <;> rfl
theorem gone1_c (l : List Group) (id : Int) (hl : l.length ≤ 1000000) (hB : ∀ g, g ∈ l → GrB g) : FnP Tryz.prog 141 [.int .i64 id, .iptr [grpS l]] (.bool (!(gAt l id).isSome)) := by
 have c := gfind_c l id hl hB
 have e := gFind_some l id
 obtain ⟨⟨g, b⟩, hg⟩ : ∃ p, gFind l id = p := ⟨_, rfl⟩
 rw [hg] at c e
 simp only at c e
 rw [← e]
 unfold grpS Group.enc at *
 clear hg e hB
 refine FnP.i Tryz.func141 rfl rfl fun G w => ?_
 repeat' (first | apply WK.s | (refine hQ.h _ _ ?_; clear hQ hA) | (refine WK.rH Tryz.ntmps141 (by kernel_rfl) ?_; intro A hA Q hQ; simp [*]) | (refine RunQ.k rfl rfl rfl rfl rfl ?_ (c) ?_ ?_ <;> simp (maxDischargeDepth := 120) [*] <;> refine ⟨?_⟩) | (refine WK.t Tryz.func141 ?_ ?_ <;> simp (maxDischargeDepth := 120) [Tryz.results141, *]))
theorem gone_c (l : List Group) (ids : List Int) (hl : l.length ≤ 1000000) (hB : ∀ g, g ∈ l → GrB g) (hi : ids.length ≤ 1000000000) : FnP Tryz.prog 82 [grpS l, intS ids] (.bool (stGone l ids)) := by
 have c := containsf_int 141 [.iptr [grpS l]] (fun id => !(gAt l id).isSome) ids (by simp) hi (fun x _ => gone1_c l x hl hB)
 unfold stGone
 obtain ⟨T, hT⟩ : ∃ T, (ids.any fun id => !(gAt l id).isSome) = T := ⟨_, rfl⟩
 rw [hT] at c ⊢
 unfold grpS intS at *
 clear hT hB
 refine FnP.i Tryz.func82 rfl rfl fun G w => ?_
 repeat apply WK.s
 refine WK.g 100 Tryz.ntmps82 (by kernel_rfl) ?_
 intro A hA Q hQ
 simp
 apply hQ
 clear hQ hA
 repeat apply WK.s
 refine WK.ghost (Ghost.frzVar 2 rfl rfl) ?_
 repeat' (first | (refine hQ.h _ _ ?_; clear hQ hA) | (refine WK.rH Tryz.ntmps82 (by kernel_rfl) ?_; intro A hA Q hQ; simp [*]) | (refine RunQ.k rfl rfl rfl rfl rfl ?_ (c) ?_ ?_ <;> simp (maxDischargeDepth := 120) [*] <;> refine ⟨?_⟩) | (refine WK.t Tryz.func82 ?_ ?_ <;> simp (maxDischargeDepth := 120) [Tryz.results82, *]))
theorem stbad_c (k c : Int) : FnP Tryz.prog 81 [.int .i64 k, .int .i64 c] (.iface 172 (.agg [.bool true, .int .i64 k, .int .i64 c])) := by
 refine FnP.i Tryz.func81 rfl rfl fun G w => ?_
 repeat' (first | apply WK.s | (refine hQ.h _ _ ?_; clear hQ hA) | (refine WK.rH Tryz.ntmps81 (by kernel_rfl) ?_; intro A hA Q hQ; simp [*]) | (refine RunQ.mkI (by kernel_rfl) rfl rfl rfl ?_; refine RunQ.evalH ?_; simp [*]) | (refine WK.t Tryz.func81 ?_ ?_ <;> simp (maxDischargeDepth := 120) [Tryz.results81, *]))
def stErr (f : Option (Int × Int)) : AV := match f with | none => .niface | some c => .iface 172 (.agg [.bool true, .int .i64 c.1, .int .i64 c.2])

structure SwB (s : Switch) : Prop where
 flows : ∀ t, (s.tab t).length ≤ 100000
 fl : ∀ t f, f ∈ s.tab t → FlB f
 groups : s.groups.length ≤ 1000000
 gr : ∀ g, g ∈ s.groups → GrB g
theorem stOne_one {gs : List Group} {t : Int} {i : Inst} (h : i.kind = 1) : stOne gs t i = if i.table ≤ t ∨ 4 ≤ i.table then some (3, 2) else none := by
 unfold stOne
 have h3 : ¬ (i.kind = 3 ∨ i.kind = 4) := by omega
 simp [h]
theorem stOne_acts {gs : List Group} {t : Int} {i : Inst} (h : i.kind = 3 ∨ i.kind = 4) : stOne gs t i = if stGone gs (ofA 22 Action.group i.acts) = true then some (2, 9) else none := by
 unfold stOne
 have h1 : ¬ (i.kind = 1) := by omega
 simp [h, h1]
theorem stOne_other {gs : List Group} {t : Int} {i : Inst} (h1 : ¬ i.kind = 1) (h3 : ¬ i.kind = 3) (h4 : ¬ i.kind = 4) : stOne gs t i = none := by
 unfold stOne
 simp [h1, h3, h4]
set_option maxHeartbeats 8000000 in
set_option maxRecDepth 100000 in
theorem stmay_c (s : Switch) (at_ : Int) (l : List Inst) (hs : SwB s) (hl : l.length ≤ 1000) (ha : ∀ x, x ∈ l → x.acts.length ≤ 1000000) :
   FnP Tryz.prog 46 [.iptr s.enc, .int .i64 at_, instS l]  (stErr (stMay s.groups at_ l))  := by
 have hgo : ∀ ids : List Int, ids.length ≤ 1000000000 → FnP Tryz.prog 82 [grpS s.groups, intS ids] (.bool (stGone s.groups ids)) := fun ids h => gone_c s.groups ids hs.groups hs.gr h
 have b32 := stbad_c 3 2
 have b29 := stbad_c 2 9
 obtain ⟨R, hR⟩ : ∃ R, stMay s.groups at_ l = R := ⟨_, rfl⟩
 have e0 : s.enc = [flowS (s.tab 0), flowS (s.tab 1), flowS (s.tab 2), flowS (s.tab 3), grpS s.groups] := rfl
 rw [hR, e0]
 obtain ⟨gs, hgs⟩ : ∃ gs, s.groups = gs := ⟨_, rfl⟩
 rw [hgs] at hR hgo ⊢
 obtain ⟨A0, hA0, c0⟩ : ∃ A, flowS (s.tab 0) = A ∧ Cl A = true := ⟨_, rfl, flowS_cl _⟩
 obtain ⟨A1, hA1, c1⟩ : ∃ A, flowS (s.tab 1) = A ∧ Cl A = true := ⟨_, rfl, flowS_cl _⟩
 obtain ⟨A2, hA2, c2⟩ : ∃ A, flowS (s.tab 2) = A ∧ Cl A = true := ⟨_, rfl, flowS_cl _⟩
 obtain ⟨A3, hA3, c3⟩ : ∃ A, flowS (s.tab 3) = A ∧ Cl A = true := ⟨_, rfl, flowS_cl _⟩
 rw [hA0, hA1, hA2, hA3]
 clear hA0 hA1 hA2 hA3 hgs hs e0
 unfold grpS instS intS at *
 refine FnP.i Tryz.func46 rfl rfl fun G w => ?_
 refine WK.anyNx (n := 100) ?_
 repeat' (first | apply WK.s | apply WK.b | (refine hQ.h _ _ ?_; clear hQ hA) | (refine WK.rH Tryz.ntmps46 (by kernel_rfl) ?_; intro A hA Q hQ; simp [*]))
 refine WK.lI (fun n => n) (fun i : Nat => (⟨(upd (upd (upd (upd (upd J 0 (.iptr [A0, A1, A2, A3, .sl false gs.length (grpL gs)])) 1 (.int .i64 at_)) 9 (.sl false l.length (instL l))) 10 (.int .i64 l.length)) 11 (.int .i64 i)), B0, 0⟩ : St)) (fun i => i ≤ l.length ∧ stMay gs at_ (l.drop i) = R) (fun i => l.length - i) (0) (by repeat (first | exact TmW.nil | refine TmW.upd ?_ (by simp (maxDischargeDepth := 120) [c0, c1, c2, c3]))) (by repeat (first | exact BxW.nil | refine BxW.upd ?_ (by simp (maxDischargeDepth := 120) [c0, c1, c2, c3]))) InjW.id (⟨by omega, hR⟩) (fun i hi IH => ?_)
 by_cases h1 : i < l.length
 · have h1' : (i : Int) < l.length := by omega
   have h6 : IntKind.i64.wrap ((i : Int) + 1) = i + 1 := wrap_i64 (by omega) (by omega)
   have h4 := inst_sub l i h1
   have h3 : 7 ≤ l.length * 7 - i * 7 := by omega
   have hd := stMay_at (gs := gs) (t := at_) h1
   rw [hi.2] at hd
   have hax := ha _ (nth_mem h1)
   obtain ⟨x, hx⟩ : ∃ x, nth l i = x := ⟨_, rfl⟩
   rw [hx] at h4 hd hax
   clear hx ha hi hR
   by_cases k1 : x.kind = 1
   · rw [stOne_one k1] at hd
     have k1' : (x.kind == 1) = true := by simpa using k1
     clear hgo b29 hax
     by_cases q1 : x.table ≤ at_
     · rw [if_pos (.inl q1)] at hd
       simp only at hd
       rw [hd]
       clear hd IH
       repeat' (first | apply WK.s | apply WK.b | apply WK.k | refine WK.cT rfl ?_ | (refine hQ.h _ _ ?_; clear hQ hA) | (refine WK.rH Tryz.ntmps46 (by kernel_rfl) ?_; intro A hA Q hQ; simp [Inst.enc, *]) | (refine RunQ.g rfl (by rw [hA.h]; rfl) ?_; simp [Inst.enc, *]) | (refine RunQ.k rfl rfl rfl rfl rfl ?_ (b32) ?_ ?_ <;> simp (maxDischargeDepth := 120) [Inst.enc, *] <;> refine ⟨?_⟩) | (refine WK.t Tryz.func46 ?_ ?_ <;> simp (maxDischargeDepth := 120) [Tryz.results46, Inst.enc, stErr, *]))
     · by_cases q2 : 4 ≤ x.table
       · rw [if_pos (.inr q2)] at hd
         simp only at hd
         rw [hd]
         clear hd IH
         repeat' (first | apply WK.s | apply WK.b | apply WK.k | refine WK.cT rfl ?_ | (refine hQ.h _ _ ?_; clear hQ hA) | (refine WK.rH Tryz.ntmps46 (by kernel_rfl) ?_; intro A hA Q hQ; simp [Inst.enc, *]) | (refine RunQ.g rfl (by rw [hA.h]; rfl) ?_; simp [Inst.enc, *]) | (refine RunQ.k rfl rfl rfl rfl rfl ?_ (b32) ?_ ?_ <;> simp (maxDischargeDepth := 120) [Inst.enc, *] <;> refine ⟨?_⟩) | (refine WK.t Tryz.func46 ?_ ?_ <;> simp (maxDischargeDepth := 120) [Tryz.results46, Inst.enc, stErr, *]))
       · rw [if_neg (by omega)] at hd
         simp only at hd
         clear b32
         repeat' (first | apply WK.s | apply WK.b | apply WK.n | apply WK.k | refine WK.cT rfl ?_ | refine WK.cF rfl ?_ | (refine hQ.h _ _ ?_; clear hQ hA) | (refine WK.rH Tryz.ntmps46 (by kernel_rfl) ?_; intro A hA Q hQ; simp [Inst.enc, *]) | (refine RunQ.g rfl (by rw [hA.h]; rfl) ?_; simp [Inst.enc, *]))
         refine WK.next (fun n => n) (IH (i + 1) (⟨by omega, hd.symm⟩) (by first | omega | (dsimp only; omega))) (by repeat (first | exact TmW.nil | refine TmW.upd ?_ (by simp (maxDischargeDepth := 120) [c0, c1, c2, c3]))) (by repeat (first | exact BxW.nil | refine BxW.upd ?_ (by simp (maxDischargeDepth := 120) [c0, c1, c2, c3]))) InjW.id
   have k1' : (x.kind == 1) = false := by simpa using k1
   by_cases k34 : x.kind = 3 ∨ x.kind = 4
   · rw [stOne_acts k34] at hd
     have c := aGroups_c x.acts hax
     have hN := ofA_le 22 Action.group x.acts
     have cg := hgo (ofA 22 Action.group x.acts) (by omega)
     obtain ⟨N, hNe⟩ : ∃ N, ofA 22 Action.group x.acts = N := ⟨_, rfl⟩
     rw [hNe] at c cg hd
     obtain ⟨B, hB⟩ : ∃ B, stGone gs N = B := ⟨_, rfl⟩
     rw [hB] at cg hd
     unfold actS intS at c
     clear hNe hB hN hgo hax b32
     cases B
     · rw [if_neg (by decide)] at hd
       simp only at hd
       clear b29
       rcases k34 with k | k
       all_goals
         have k' := k
         repeat' (first | apply WK.s | apply WK.b | apply WK.n | apply WK.k | refine WK.cT rfl ?_ | refine WK.cF rfl ?_ | (refine hQ.h _ _ ?_; clear hQ hA) | (refine WK.rH Tryz.ntmps46 (by kernel_rfl) ?_; intro A hA Q hQ; simp [Inst.enc, *]) | (refine WK.rX (by kernel_rfl) Tryz.ntmps46 (by kernel_rfl) ?_; intro A hA Q hQ; simp [Inst.enc, *]) | (refine hQ.h _ _ _ (by decide +kernel) ?_; clear hQ hA) | (refine RunX.k rfl rfl rfl rfl ?_ (c) ?_ ?_ <;> simp (maxDischargeDepth := 120) [Inst.enc, *] <;> refine ⟨?_⟩) | (refine RunX.k rfl rfl rfl rfl ?_ (cg) ?_ ?_ <;> simp (maxDischargeDepth := 120) [Inst.enc, *] <;> refine ⟨?_⟩))
         refine WK.next (fun n => n) (IH (i + 1) (⟨by omega, hd.symm⟩) (by first | omega | (dsimp only; omega))) (by repeat (first | exact TmW.nil | refine TmW.upd ?_ (by simp (maxDischargeDepth := 120) [c0, c1, c2, c3]))) (by repeat (first | exact BxW.nil | refine BxW.upd ?_ (by simp (maxDischargeDepth := 120) [c0, c1, c2, c3]))) InjW.id
     · rw [if_pos rfl] at hd
       simp only at hd
       rw [hd]
       clear hd IH
       rcases k34 with k | k
       all_goals
         have k' := k
         repeat' (first | apply WK.s | apply WK.b | apply WK.k | refine WK.cT rfl ?_ | refine WK.cF rfl ?_ | (refine hQ.h _ _ ?_; clear hQ hA) | (refine WK.rH Tryz.ntmps46 (by kernel_rfl) ?_; intro A hA Q hQ; simp [Inst.enc, *]) | (refine WK.rX (by kernel_rfl) Tryz.ntmps46 (by kernel_rfl) ?_; intro A hA Q hQ; simp [Inst.enc, *]) | (refine hQ.h _ _ _ (by decide +kernel) ?_; clear hQ hA) | (refine RunQ.k rfl rfl rfl rfl rfl ?_ (b29) ?_ ?_ <;> simp (maxDischargeDepth := 120) [Inst.enc, *] <;> refine ⟨?_⟩) | (refine RunX.k rfl rfl rfl rfl ?_ (c) ?_ ?_ <;> simp (maxDischargeDepth := 120) [Inst.enc, *] <;> refine ⟨?_⟩) | (refine RunX.k rfl rfl rfl rfl ?_ (cg) ?_ ?_ <;> simp (maxDischargeDepth := 120) [Inst.enc, *] <;> refine ⟨?_⟩) | (refine WK.t Tryz.func46 ?_ ?_ <;> simp (maxDischargeDepth := 120) [Tryz.results46, Inst.enc, stErr, *]))
   · have k3 : ¬ x.kind = 3 := fun h => k34 (.inl h)
     have k4 : ¬ x.kind = 4 := fun h => k34 (.inr h)
     rw [stOne_other k1 k3 k4] at hd
     simp only at hd
     have k3' : (x.kind == 3) = false := by simpa using k3
     have k4' : (x.kind == 4) = false := by simpa using k4
     clear hgo b29 b32 hax k34
     repeat' (first | apply WK.s | apply WK.b | apply WK.n | apply WK.k | refine WK.cT rfl ?_ | refine WK.cF rfl ?_ | (refine hQ.h _ _ ?_; clear hQ hA) | (refine WK.rH Tryz.ntmps46 (by kernel_rfl) ?_; intro A hA Q hQ; simp [Inst.enc, *]))
     refine WK.next (fun n => n) (IH (i + 1) (⟨by omega, hd.symm⟩) (by first | omega | (dsimp only; omega))) (by repeat (first | exact TmW.nil | refine TmW.upd ?_ (by simp (maxDischargeDepth := 120) [c0, c1, c2, c3]))) (by repeat (first | exact BxW.nil | refine BxW.upd ?_ (by simp (maxDischargeDepth := 120) [c0, c1, c2, c3]))) InjW.id
 · have h1' : ¬ (i : Int) < l.length := by omega
   have hd := hi.2
   rw [List.drop_of_length_le (by omega)] at hd
   have hd' : none = R := hd
   subst hd'
   clear IH hi hd hR ha hgo b32 b29
   repeat' (first | apply WK.s | refine WK.exit rfl ?_ | refine WK.cF rfl ?_ | (refine hQ.h _ _ ?_; clear hQ hA) | (refine WK.rH Tryz.ntmps46 (by kernel_rfl) ?_; intro A hA Q hQ; simp [*]) | (refine WK.t Tryz.func46 ?_ ?_ <;> simp (maxDischargeDepth := 120) [Tryz.results46, stErr, *]))
end Go.Proofs.YtmhapglejjehbaaGreat
