/- Nets: the reference's Right; all groups, of both sides. -/
import Derived.Test.YtmhapglejjehbaaGreatAf
import Derived.Test.YtmhapglejjehbaaGreatWk9
import Derived.Test.YtmhapglejjehbaaGreatWk2
import Derived.Test.YtmhapglejjehbaaGreatAg
import Derived.Test.YtmhapglejjehbaaGreatDa
set_option linter.all false
set_option linter.unnecessarySimpa false
namespace Go.Proofs.YtmhapglejjehbaaGreat
open Go Go.AI Go.Proofs
attribute [local irreducible] FnP FnO FnB FnT FnSeq FnV FnSeqV WK RunQ RunQW RunX RunXW RunN
theorem plug_in {L : List Link} {i k : Nat} {p : Int × Int} (hk : k < i) (hi : i ≤ L.length) (h : (nth L k).plug = p) : p ∈ (L.take i).map Link.plug := by
 have h2 : k < (L.take i).length := by simp; omega
 rw [List.mem_map]
 refine ⟨(L.take i)[k], List.getElem_mem h2, ?_⟩
 rw [List.getElem_take, ← h, nth_eq (by omega)]
theorem plug_out {L : List Link} {i : Nat} {p : Int × Int} (hi : i ≤ L.length) (h : ∀ k, k < i → (nth L k).plug ≠ p) : ¬ p ∈ (L.take i).map Link.plug := by
 intro hm
 rw [List.mem_map] at hm
 obtain ⟨x, hx, e⟩ := hm
 obtain ⟨k, hk, rfl⟩ := List.getElem_of_mem hx
 have hk' : k < i := by simp at hk; omega
 refine h k hk' ?_
 rw [← e, List.getElem_take, nth_eq (by omega)]
def nGroups (l : List Switch) : List Group := l.flatMap Switch.groups
theorem nGroups_succ {l : List Switch} {i : Nat} (h : i < l.length) : nGroups (l.take (i + 1)) = nGroups (l.take i) ++ (nth l i).groups := by unfold nGroups; rw [take_nth h, List.flatMap_append]; simp
theorem nGroups_le (l : List Switch) (m : Nat) (h : ∀ s, s ∈ l → s.groups.length ≤ m) : (nGroups l).length ≤ l.length * m := by
 induction l with
 | nil => simp [nGroups]
 | cons x t ih =>
   have := ih (fun s hs => h s (by simp [hs]))
   have hx := h x (by simp)
   unfold nGroups at *
   rw [List.flatMap_cons, List.length_append, List.length_cons, Nat.add_mul]
   omega
theorem gFind_drop (l : List Group) (i : Nat) (h : i < l.length) : gFind (l.drop i) (nth l i).id = (nth l i, true) := by
 rw [List.drop_eq_getElem_cons h, nth_eq h]
 unfold gFind gAt
 rw [List.findIdx?_cons]
 simp [nth, h]
theorem grpL_drop (l : List Group) (i : Nat) (h : i ≤ l.length) : (grpL l).drop (i * 3) = grpL (l.drop i) := by
 conv => lhs; rw [← List.take_append_drop i l, grpL_app]
 have : (grpL (l.take i)).length = i * 3 := by rw [grpL_len, List.length_take]; omega
 rw [← this, List.drop_left]
set_option maxHeartbeats 4000000 in
set_option maxRecDepth 100000 in
theorem lgroups_c (n : Net) (hn : n.sws.length ≤ 1000) (hs : ∀ s, s ∈ n.sws → s.groups.length ≤ 1000 ∧ ∀ g, g ∈ s.groups → GrB g) : FnP Tryz.prog 12 [.agg n.enc] (grpS (nGroups n.sws)) := by
 have hi0 : nGroups [] = [] := rfl
 have e0 : n.enc = [swS n.sws, linkS n.links] := rfl
 rw [e0]
 obtain ⟨S, L⟩ := n
 simp only at *
 obtain ⟨L, hL, hLc⟩ : ∃ l, linkS L = l ∧ Cl l = true := ⟨_, rfl, linkS_cl _⟩
 rw [hL]
 clear e0 hL
 unfold swS grpS
 refine FnP.i Tryz.func12 rfl rfl fun G w => ?_
 repeat' (first | apply WK.s | (refine hQ.h _ _ ?_; clear hQ hA) | (refine WK.rH (id := 0) Tryz.ntmps12 (by kernel_rfl) ?_; intro A hA Q hQ; simp [*]) | (refine WK.rH (id := 1) Tryz.ntmps12 (by kernel_rfl) ?_; intro A hA Q hQ; simp [*]))
 refine WK.ghost (Ghost.own 3 900 3 rfl rfl) ?_
 repeat' (first | apply WK.b | (refine hQ.h _ _ ?_; clear hQ hA) | (refine WK.rH Tryz.ntmps12 (by kernel_rfl) ?_; intro A hA Q hQ; simp [*]))
 refine WK.lI (fun n => if n = 1 then 900 else n) (fun i : Nat => (⟨(upd (upd (upd (upd J 3 (.msl 1 0 (nGroups (S.take i)).length)) 11 (.sl false S.length (swL S))) 12 (.int .i64 S.length)) 13 (.int .i64 i)), (upd B0 1 (.buf 3 (grpL (nGroups (S.take i))))), 0⟩ : St)) (fun i => i ≤ S.length) (fun i => S.length - i) (0) (by repeat (first | exact TmW.nil | refine TmW.upd ?_ (by simp (maxDischargeDepth := 120) [hi0]))) (by repeat (first | exact BxW.nil | refine BxW.upd ?_ (by simp (maxDischargeDepth := 120) [hi0]))) (by first | exact InjW.id | exact InjW.nil | exact InjW.one | exact InjW.two (by simp) | exact InjW.three (by simp) (by simp) (by simp)) (by omega) (fun i hi IH => ?_)
 by_cases h1 : i < S.length
 · have h1' : (i : Int) < S.length := by omega
   have h6 : IntKind.i64.wrap ((i : Int) + 1) = i + 1 := wrap_i64 (by omega) (by omega)
   obtain ⟨h4, h3⟩ := sw_load S i h1
   have hx := hs _ (nth_mem h1)
   have hsu := nGroups_succ h1
   have hle := nGroups_le (S.take i) 1000 (fun s h => (hs s (List.mem_of_mem_take h)).1)
   have hl2 : (S.take i).length ≤ 1000 := by rw [List.length_take]; omega
   obtain ⟨N, hN⟩ : ∃ N, nGroups (S.take i) = N := ⟨_, rfl⟩
   obtain ⟨M, hM⟩ : ∃ N, nGroups (S.take (i + 1)) = N := ⟨_, rfl⟩
   have hNl : N.length ≤ 1000000 := by rw [hN] at hle; omega
   rw [hN, hM] at hsu
   rw [hN]
   have he : (nth S i).enc = [flowS ((nth S i).tab 0), flowS ((nth S i).tab 1), flowS ((nth S i).tab 2), flowS ((nth S i).tab 3), grpS (nth S i).groups] := rfl
   rw [he] at h4
   obtain ⟨gs, hgs⟩ : ∃ gs, (nth S i).groups = gs := ⟨_, rfl⟩
   rw [hgs] at hx hsu h4
   obtain ⟨T0, k0, c0⟩ : ∃ s, flowS ((nth S i).tab 0) = s ∧ Cl s = true := ⟨_, rfl, flowS_cl _⟩
   obtain ⟨T1, k1, c1⟩ : ∃ s, flowS ((nth S i).tab 1) = s ∧ Cl s = true := ⟨_, rfl, flowS_cl _⟩
   obtain ⟨T2, k2, c2⟩ : ∃ s, flowS ((nth S i).tab 2) = s ∧ Cl s = true := ⟨_, rfl, flowS_cl _⟩
   obtain ⟨T3, k3, c3⟩ : ∃ s, flowS ((nth S i).tab 3) = s ∧ Cl s = true := ⟨_, rfl, flowS_cl _⟩
   rw [k0, k1, k2, k3] at h4
   unfold grpS at h4
   obtain ⟨hgl, hgB⟩ := hx
   clear he hgs k0 k1 k2 k3 hle hl2 hs hN
   repeat' (first | apply WK.s | apply WK.b | apply WK.k | refine WK.cT rfl ?_ | (refine hQ.h _ _ ?_; clear hQ hA) | (refine WK.rH Tryz.ntmps12 (by kernel_rfl) ?_; intro A hA Q hQ; simp [*]))
   have hi0' : N ++ gs.take 0 = N := by simp
   refine WK.lI (fun n => if n = 2 then 102 else n) (fun j : Nat => (⟨(upd (upd (upd (upd (upd (upd (upd (upd J 3 (.msl 1 0 (N ++ gs.take j).length)) 5 (.ptr 2 0)) 11 (.sl false S.length (swL S))) 12 (.int .i64 S.length)) 13 (.int .i64 i)) 18 (.sl false gs.length (grpL gs))) 19 (.int .i64 gs.length)) 20 (.int .i64 j)), (upd (upd B0 1 (.buf 3 (grpL (N ++ gs.take j)))) 2 (.var [T0, T1, T2, T3, .sl false gs.length (grpL gs)])), 0⟩ : St)) (fun j => j ≤ gs.length) (fun j => gs.length - j) (0) (by repeat (first | exact TmW.nil | refine TmW.upd ?_ (by simp (maxDischargeDepth := 120) [hi0', c0, c1, c2, c3]))) (by repeat (first | exact BxW.nil | refine BxW.upd ?_ (by simp (maxDischargeDepth := 120) [hi0', c0, c1, c2, c3]))) (by first | exact InjW.id | exact InjW.nil | exact InjW.one | exact InjW.two (by simp) | exact InjW.three (by simp) (by simp) (by simp)) (by omega) (fun j hj IHj => ?_)
   by_cases g1 : j < gs.length
   · have g1' : (j : Int) < gs.length := by omega
     have g1'' : (j : Int) ≤ gs.length := by omega
     have g6 : IntKind.i64.wrap ((j : Int) + 1) = j + 1 := wrap_i64 (by omega) (by omega)
     obtain ⟨g4, g3⟩ := grp_load gs j g1
     have f := gfind_c (gs.drop j) (nth gs j).id (by rw [List.length_drop]; omega) (fun g hg => hgB g (List.mem_of_mem_drop hg))
     rw [gFind_drop gs j g1] at f
     simp only at f
     have hdt : ((grpL gs).drop (j * 3)).take ((gs.length - j) * 3) = grpL (gs.drop j) := by rw [grpL_drop gs j (by omega)]; exact List.take_of_length_le (by simp)
     have hdl : (gs.drop j).length = gs.length - j := List.length_drop
     unfold grpS at f
     rw [hdl] at f
     have hcl : ClL (grpL (gs.drop j)) = true := by simp
     have hsn : grpL (N ++ gs.take j) ++ (nth gs j).enc = grpL (N ++ gs.take (j + 1)) := by rw [take_nth g1, ← List.append_assoc, grpL_snoc]
     have hnl : (N ++ gs.take (j + 1)).length = (N ++ gs.take j).length + 1 := by rw [take_nth g1]; simp; omega
     have hml : (N ++ gs.take j).length ≤ 1001000 := by rw [List.length_append, List.length_take]; omega
     have hb : ((N ++ gs.take j).length + 1) * 40 ≤ 140737488355328 := by omega
     obtain ⟨K, hK⟩ : ∃ K, N ++ gs.take j = K := ⟨_, rfl⟩
     rw [hK] at hsn hnl hml hb ⊢
     obtain ⟨X, hX⟩ : ∃ X, nth gs j = X := ⟨_, rfl⟩
     rw [hX] at g4 f hsn
     obtain ⟨Y, hY⟩ : ∃ Y, gs.drop j = Y := ⟨_, rfl⟩
     rw [hY] at hdt hdl f hcl
     unfold Group.enc at *
     clear hK hX hY IH hsu hi hi0' hgB
     repeat' (first | apply WK.s | apply WK.b | apply WK.n | apply WK.k | refine WK.cT rfl ?_ | (refine hQ.h _ _ ?_; clear hQ hA) | (refine WK.rH Tryz.ntmps12 (by kernel_rfl) ?_; intro A hA Q hQ; simp [*]) | (refine WK.rX (by kernel_rfl) Tryz.ntmps12 (by kernel_rfl) ?_; intro A hA Q hQ; simp [*]) | (refine hQ.h _ _ _ (by decide +kernel) ?_; clear hQ hA) | (refine RunQ.append 901 app_grp rfl rfl rfl rfl rfl rfl rfl rfl rfl ?_ ?_ ?_ ?_ ?_; (focus (first | omega | (simp [*]; done); done)); (focus (first | omega | (simp [*]; done); done)); (focus (first | omega | (simp [*]; done); done)); (focus (first | omega | (simp [*]; done); done)); refine RunQ.evalH ?_; simp [*]) | (refine RunX.k rfl rfl rfl rfl ?_ (f) ?_ ?_ <;> simp (maxDischargeDepth := 120) [*] <;> refine ⟨?_⟩))
     refine WK.next (fun n => if n = 1 then 901 else n) (IHj (j + 1) (by omega) (by first | omega | (dsimp only; omega))) (by repeat (first | exact TmW.nil | refine TmW.upd ?_ (by simp (maxDischargeDepth := 120) [hsn, hnl, c0, c1, c2, c3]))) (by repeat (first | exact BxW.nil | refine BxW.upd ?_ (by simp (maxDischargeDepth := 120) [hsn, hnl, c0, c1, c2, c3]))) (by first | exact InjW.id | exact InjW.nil | exact InjW.one | exact InjW.two (by simp) | exact InjW.three (by simp) (by simp) (by simp))
   · have hjl : j = gs.length := by omega
     have g1' : ¬ (j : Int) < gs.length := by omega
     subst hjl
     rw [List.take_length, ← hsu, ← hM]
     clear hM hsu IHj hgB hi0'
     repeat' (first | apply WK.s | apply WK.n | refine WK.exit rfl ?_ | refine WK.cF rfl ?_ | (refine hQ.h _ _ ?_; clear hQ hA) | (refine WK.rH Tryz.ntmps12 (by kernel_rfl) ?_; intro A hA Q hQ; simp [*]))
     refine WK.next (fun n => n) (IH (i + 1) (by omega) (by first | omega | (dsimp only; omega))) (by repeat (first | exact TmW.nil | refine TmW.upd ?_ (by simp (maxDischargeDepth := 120)))) (by repeat (first | exact BxW.nil | refine BxW.upd ?_ (by simp (maxDischargeDepth := 120)))) InjW.id
 · have hil : i = S.length := by omega
   have h1' : ¬ (i : Int) < S.length := by omega
   subst hil
   rw [List.take_length]
   clear IH hi hi0 hs
   repeat' (first | apply WK.s | refine WK.exit rfl ?_ | refine WK.cF rfl ?_ | (refine hQ.h _ _ ?_; clear hQ hA) | (refine WK.rH Tryz.ntmps12 (by kernel_rfl) ?_; intro A hA Q hQ; simp [*]))
   have hft : (grpL (nGroups S)).take ((nGroups S).length * 3) = grpL (nGroups S) := List.take_of_length_le (by simp)
   refine WK.ghost (Ghost.frzSl 2 3 rfl rfl) ?_
   repeat' (first | (refine WK.t Tryz.func12 ?_ ?_ <;> simp (maxDischargeDepth := 120) [Tryz.results12, *]))
end Go.Proofs.YtmhapglejjehbaaGreat

namespace Go.Proofs.YtmhapglejjehbaaGreat
open Go Go.AI Go.Proofs Go.Shelf
def sortRen : Go.Shelf.Ren := ⟨fun | 189 => 33 | 125 => 59 | 257 => 58 | 128 => 116 | 129 => 117 | 294 => 107 | 295 => 108 | 296 => 109 | 297 => 110 | 298 => 111 | 299 => 112 | 216 => 113 | 300 => 114 | 301 => 115 | 328 => 163 | 329 => 164 | 330 => 165 | 331 => 166 | 332 => 167 | 215 => 168 | 343 => 203 | n => n, fun | 28 => 34 | 3 => 3 | 46 => 104 | 0 => 0 | 51 => 147 | 53 => 78 | 4 => 4 | 183 => 140 | 182 => 139 | 131 => 144 | 5 => 5 | 9 => 9 | 218 => 194 | 222 => 198 | 228 => 220 | 229 => 221 | n => n, fun n => n⟩
theorem sortLays : Lays.n189 Tryz.prog sortRen := {
 mixed := by kernel_rfl
 f125 := Tryz.func59.trans (congrArg some (by kernel_rfl))
 f128 := Tryz.func116.trans (congrArg some (by kernel_rfl))
 f129 := Tryz.func117.trans (congrArg some (by kernel_rfl))
 f189 := Tryz.func33.trans (congrArg some (by kernel_rfl))
 f215 := Tryz.func168.trans (congrArg some (by kernel_rfl))
 f216 := Tryz.func113.trans (congrArg some (by kernel_rfl))
 f257 := Tryz.func58.trans (congrArg some (by kernel_rfl))
 f294 := Tryz.func107.trans (congrArg some (by kernel_rfl))
 f295 := Tryz.func108.trans (congrArg some (by kernel_rfl))
 f296 := Tryz.func109.trans (congrArg some (by kernel_rfl))
 f297 := Tryz.func110.trans (congrArg some (by kernel_rfl))
 f298 := Tryz.func111.trans (congrArg some (by kernel_rfl))
 f299 := Tryz.func112.trans (congrArg some (by kernel_rfl))
 f300 := Tryz.func114.trans (congrArg some (by kernel_rfl))
 f301 := Tryz.func115.trans (congrArg some (by kernel_rfl))
 f328 := Tryz.func163.trans (congrArg some (by kernel_rfl))
 f329 := Tryz.func164.trans (congrArg some (by kernel_rfl))
 f330 := Tryz.func165.trans (congrArg some (by kernel_rfl))
 f331 := Tryz.func166.trans (congrArg some (by kernel_rfl))
 f332 := Tryz.func167.trans (congrArg some (by kernel_rfl))
 f343 := Tryz.func203.trans (congrArg some (by kernel_rfl))
 t0 := Tryz.underlying0
 a0 := Tryz.isAgg0
 z0 := Tryz.sizeOf0
 v0 := Tryz.zeroValue0
 t3 := Tryz.underlying3
 a3 := Tryz.isAgg3
 z3 := Tryz.sizeOf3
 v3 := Tryz.zeroValue3
 t4 := Tryz.underlying4
 a4 := Tryz.isAgg4
 z4 := Tryz.sizeOf4
 v4 := Tryz.zeroValue4
 t5 := Tryz.underlying5
 a5 := Tryz.isAgg5
 z5 := Tryz.sizeOf5
 v5 := Tryz.zeroValue5
 t9 := Tryz.underlying9
 a9 := Tryz.isAgg9
 z9 := Tryz.sizeOf9
 v9 := Tryz.zeroValue9
 t28 := Tryz.underlying34
 a28 := Tryz.isAgg34
 z28 := Tryz.sizeOf34
 v28 := Tryz.zeroValue34
 t46 := Tryz.underlying104
 a46 := Tryz.isAgg104
 z46 := Tryz.sizeOf104
 v46 := Tryz.zeroValue104
 t51 := Tryz.underlying147
 a51 := Tryz.isAgg147
 z51 := Tryz.sizeOf147
 v51 := Tryz.zeroValue147
 t53 := Tryz.underlying78
 a53 := Tryz.isAgg78
 z53 := Tryz.sizeOf78
 v53 := Tryz.zeroValue78
 t131 := Tryz.underlying144
 a131 := Tryz.isAgg144
 z131 := Tryz.sizeOf144
 v131 := Tryz.zeroValue144
 t182 := Tryz.underlying139
 a182 := Tryz.isAgg139
 z182 := Tryz.sizeOf139
 v182 := Tryz.zeroValue139
 t183 := Tryz.underlying140
 a183 := Tryz.isAgg140
 z183 := Tryz.sizeOf140
 v183 := Tryz.zeroValue140
 t218 := Tryz.underlying194
 a218 := Tryz.isAgg194
 z218 := Tryz.sizeOf194
 v218 := Tryz.zeroValue194
 t222 := Tryz.underlying198
 a222 := Tryz.isAgg198
 z222 := Tryz.sizeOf198
 v222 := Tryz.zeroValue198
 t228 := Tryz.underlying220
 a228 := Tryz.isAgg220
 z228 := Tryz.sizeOf220
 v228 := Tryz.zeroValue220
 t229 := Tryz.underlying221
 a229 := Tryz.isAgg221
 z229 := Tryz.sizeOf221
 v229 := Tryz.zeroValue221 }
theorem sort_c (zs : List Int) (hl : zs.length ≤ 1000000) : FnB Tryz.prog 33 [.msl 0 0 zs.length] (.buf 1 (intL zs)) (.tup []) (.buf 1 (intL (zs.mergeSort fun x y => decide (x ≤ y)))) :=
 FnB.sortInt sortLays ⟨_, Tryz.func33, by kernel_rfl, by kernel_rfl⟩ zs hl
end Go.Proofs.YtmhapglejjehbaaGreat

namespace Go.Proofs.YtmhapglejjehbaaGreat
open Go Go.AI Go.Proofs
theorem mpPut_keys (es : List (Int × Int)) (k v : Int) : (mpPut es k v).map Prod.fst = if k ∈ es.map Prod.fst then es.map Prod.fst else es.map Prod.fst ++ [k] := by
 induction es with
 | nil => simp [mpPut]
 | cons x t ih =>
   rw [mpPut]
   by_cases h : k = x.1
   · simp [h]
   · rw [if_neg h, List.map_cons, ih, List.map_cons]
     simp only [List.mem_cons, h, false_or]
     split <;> simp
theorem mpSeen_keys (ks : List Int) : ((mpSeen ks).map Prod.fst).Nodup ∧ ∀ x, x ∈ (mpSeen ks).map Prod.fst ↔ x ∈ ks := by
 have : ∀ n, ∀ ks : List Int, ks.length = n → ((mpSeen ks).map Prod.fst).Nodup ∧ ∀ x, x ∈ (mpSeen ks).map Prod.fst ↔ x ∈ ks := by
   intro n
   induction n with
   | zero => intro ks h; have := List.eq_nil_of_length_eq_zero h; subst this; simp [mpSeen]
   | succ n ih =>
     intro ks h
     have hne : ks ≠ [] := fun e => by rw [e] at h; simp at h
     have e := List.dropLast_concat_getLast hne
     obtain ⟨a, b⟩ := ih ks.dropLast (by simp [h])
     rw [← e, mpSeen_snoc, mpPut_keys]
     split
     · rename_i hm
       refine ⟨a, fun x => ?_⟩
       rw [b x, List.mem_append, List.mem_singleton]
       exact ⟨.inl, fun h => h.elim id fun h => by rw [h]; exact (b _).1 hm⟩
     · rename_i hm
       refine ⟨?_, fun x => by rw [List.mem_append, List.mem_append, b x]⟩
       rw [List.nodup_append]
       exact ⟨a, by simp, fun x hx y hy => by simp only [List.mem_singleton] at hy; rintro rfl; subst hy; exact hm hx⟩
 exact this _ ks rfl
theorem asc_ext : ∀ (a b : List Int), a.Pairwise (· < ·) → b.Pairwise (· < ·) → (∀ x, x ∈ a ↔ x ∈ b) → a = b
 | [], [], _, _, _ => rfl
 | [], y :: b, _, _, h => absurd ((h y).2 (by simp)) (by simp)
 | x :: a, [], _, _, h => absurd ((h x).1 (by simp)) (by simp)
 | x :: a, y :: b, h1, h2, h => by
   rw [List.pairwise_cons] at h1 h2
   have hxy : x = y := by
     have e1 := (h x).1 (by simp)
     have e2 := (h y).2 (by simp)
     rw [List.mem_cons] at e1 e2
     rcases e1 with e1 | e1
     · exact e1
     · rcases e2 with e2 | e2
       · exact e2.symm
       · have := h2.1 x e1; have := h1.1 y e2; omega
   subst hxy
   rw [asc_ext a b h1.2 h2.2 fun z => ?_]
   constructor
   · intro hz
     have := (h z).1 (by simp [hz])
     rw [List.mem_cons] at this
     rcases this with rfl | this
     · have := h1.1 _ hz; omega
     · exact this
   · intro hz
     have := (h z).2 (by simp [hz])
     rw [List.mem_cons] at this
     rcases this with rfl | this
     · have := h2.1 _ hz; omega
     · exact this
def insP : List Int → Int → List Int
 | [], p => [p]
 | x :: t, p => if x < p then x :: insP t p else if x = p then x :: t else p :: x :: t
theorem insP_mem (out : List Int) (p x : Int) : x ∈ insP out p ↔ x ∈ out ∨ x = p := by
 induction out with
 | nil => simp [insP]
 | cons y t ih =>
   rw [insP]
   split
   · rw [List.mem_cons, ih, List.mem_cons, or_assoc]
   · split
     · rename_i h; subst h; constructor
       · exact .inl
       · rintro (h | rfl)
         · exact h
         · simp
     · simp only [List.mem_cons]
       constructor
       · rintro (h | h); exact .inr h; exact .inl h
       · rintro (h | h); exact .inr h; exact .inl h
theorem insP_asc (out : List Int) (p : Int) (h : out.Pairwise (· < ·)) : (insP out p).Pairwise (· < ·) := by
 induction out with
 | nil => simp [insP]
 | cons y t ih =>
   rw [List.pairwise_cons] at h
   rw [insP]
   split
   · rename_i h1
     rw [List.pairwise_cons]
     refine ⟨fun z hz => ?_, ih h.2⟩
     rcases (insP_mem _ _ _).1 hz with hz | rfl
     · exact h.1 z hz
     · exact h1
   · split
     · rw [List.pairwise_cons]; exact h
     · rw [List.pairwise_cons]
       refine ⟨fun z hz => ?_, by rw [List.pairwise_cons]; exact h⟩
       rw [List.mem_cons] at hz
       rcases hz with rfl | hz
       · omega
       · have := h.1 z hz; omega
def insAll (ps : List Int) : List Int := ps.foldl insP []
theorem insAll_ok (ps : List Int) : (insAll ps).Pairwise (· < ·) ∧ ∀ x, x ∈ insAll ps ↔ x ∈ ps := by
 have : ∀ (ps out : List Int), out.Pairwise (· < ·) → (ps.foldl insP out).Pairwise (· < ·) ∧ ∀ x, x ∈ ps.foldl insP out ↔ x ∈ out ∨ x ∈ ps := by
   intro ps
   induction ps with
   | nil => intro out h; exact ⟨h, by simp⟩
   | cons p t ih =>
     intro out h
     obtain ⟨a, b⟩ := ih (insP out p) (insP_asc out p h)
     refine ⟨a, fun x => ?_⟩
     rw [List.foldl_cons, b x, insP_mem, List.mem_cons, or_assoc]
 obtain ⟨a, b⟩ := this ps [] List.Pairwise.nil
 exact ⟨a, fun x => by unfold insAll; rw [b x]; simp⟩
theorem insAll_len (ps : List Int) : (insAll ps).length ≤ ps.length := by
 have : ∀ (ps out : List Int), (ps.foldl insP out).length ≤ out.length + ps.length := by
   have hi : ∀ (out : List Int) (p : Int), (insP out p).length ≤ out.length + 1 := by
     intro out p
     induction out with
     | nil => simp [insP]
     | cons y t ih =>
       rw [insP]
       split
       · simpa using ih
       · split <;> simp
   intro ps
   induction ps with
   | nil => simp
   | cons p t ih => intro out; have := ih (insP out p); have := hi out p; simp only [List.foldl_cons, List.length_cons]; omega
 simpa [insAll] using this ps []
theorem sorted_keys (ps : List Int) (vs : List Nat) (hn : vs.Nodup) (hs : ∀ v, v ∈ vs → v < (mpSeen ps).length) (ha : ∀ j, j < (mpSeen ps).length → j ∈ vs) :
   (vs.map fun v => (nth (mpSeen ps) v).1).mergeSort (fun x y => decide (x ≤ y)) = insAll ps := by
 obtain ⟨hk1, hk2⟩ := mpSeen_keys ps
 obtain ⟨E, hE⟩ : ∃ E, mpSeen ps = E := ⟨_, rfl⟩
 simp only [hE] at hk1 hk2 hs ha ⊢
 have hperm : vs.Perm (List.range E.length) := by
   rw [List.perm_ext_iff_of_nodup hn List.nodup_range]
   intro x; rw [List.mem_range]; exact ⟨hs x, ha x⟩
 have hmap : (List.range E.length).map (fun v => (nth E v).1) = E.map Prod.fst := by
   apply List.ext_getElem (by simp)
   intro i h1 h2
   have hi : i < E.length := by simpa using h2
   simp [nth, hi]
 have hp2 : (vs.map fun v => (nth E v).1).Perm (E.map Prod.fst) := by rw [← hmap]; exact hperm.map _
 have hp3 := (List.mergeSort_perm (vs.map fun v => (nth E v).1) (fun x y => decide (x ≤ y))).trans hp2
 have hsrt := List.pairwise_mergeSort (le := fun x y : Int => decide (x ≤ y)) (fun a b c h1 h2 => by simp only [decide_eq_true_eq] at *; omega) (fun a b => by simp only [Bool.or_eq_true, decide_eq_true_eq]; omega) (vs.map fun v => (nth E v).1)
 have hnd := hp3.nodup_iff.2 hk1
 obtain ⟨a, b⟩ := insAll_ok ps
 refine asc_ext _ _ ?_ a fun x => by rw [b x, ← hk2 x]; exact hp3.mem_iff
 have := hsrt.and hnd
 exact this.imp fun ⟨h1, h2⟩ => by simp only [decide_eq_true_eq] at h1; omega
end Go.Proofs.YtmhapglejjehbaaGreat

namespace Go.Proofs.YtmhapglejjehbaaGreat
open Go Go.AI Go.Proofs
attribute [local irreducible] FnP FnO FnB FnT FnSeq FnV FnSeqV WK RunQ RunQW RunX RunXW RunN
def pOf (L : List Link) (at_ : Int) : List Int := (L.filter fun l => l.from_ == at_).map Link.out
theorem pOf_yes {L : List Link} {at_ : Int} {i : Nat} (h : i < L.length) (h1 : ((nth L i).from_ == at_) = true) : pOf (L.take (i + 1)) at_ = pOf (L.take i) at_ ++ [(nth L i).out] := by
 unfold pOf; rw [take_nth h, List.filter_append, List.map_append]; simp [h1]
theorem pOf_no {L : List Link} {at_ : Int} {i : Nat} (h : i < L.length) (h1 : ((nth L i).from_ == at_) = false) : pOf (L.take (i + 1)) at_ = pOf (L.take i) at_ := by
 unfold pOf; rw [take_nth h, List.filter_append, List.map_append]; simp [h1]
theorem pOf_len (L : List Link) (at_ : Int) : (pOf L at_).length ≤ L.length := by
 unfold pOf; rw [List.length_map]; exact List.length_filter_le _ _
def nPorts (n : Net) (at_ : Int) : List Int := insAll (pOf n.links at_)
theorem mpSeen_len (ks : List Int) : (mpSeen ks).length ≤ ks.length := by
 have hp : ∀ (es : List (Int × Int)) (k v : Int), (mpPut es k v).length ≤ es.length + 1 := by
   intro es k v
   induction es with
   | nil => simp [mpPut]
   | cons x t ih => rw [mpPut]; split <;> simp <;> omega
 have : ∀ (ks : List Int) (es : List (Int × Int)), (ks.foldl (fun es k => mpPut es k (mpVal es k + 1)) es).length ≤ es.length + ks.length := by
   intro ks
   induction ks with
   | nil => intro es; simp
   | cons k t ih => intro es; have h1 := ih (mpPut es k (mpVal es k + 1)); have h2 := hp es k (mpVal es k + 1); simp only [List.foldl_cons, List.length_cons]; omega
 simpa [mpSeen] using this ks []
set_option maxHeartbeats 8000000 in
set_option maxRecDepth 100000 in
theorem lports_c (n : Net) (at_ : Int) (hl : n.links.length ≤ 1000000) : FnP Tryz.prog 15 [.agg n.enc, .int .i64 at_] (intS (nPorts n at_)) := by
 have hsk := fun vs => sorted_keys (pOf n.links at_) vs
 have hel := mpSeen_len (pOf n.links at_)
 have hpl := pOf_len n.links at_
 have e0 : n.enc = [swS n.sws, linkS n.links] := rfl
 unfold nPorts intS
 rw [e0]
 obtain ⟨S, L⟩ := n
 simp only at *
 obtain ⟨S, hS, hsc⟩ : ∃ s, swS S = s ∧ Cl s = true := ⟨_, rfl, swS_cl _⟩
 rw [hS]
 clear hS e0
 unfold linkS
 have hseen0 : mpObj [] = mpObj (mpSeen []) := rfl
 have hp0 : pOf [] at_ = [] := rfl
 refine FnP.i Tryz.func15 rfl rfl fun G w => ?_
 repeat' (first | apply WK.s | apply WK.b | (refine hQ.h _ _ ?_; clear hQ hA) | (refine WK.rH Tryz.ntmps15 (by kernel_rfl) ?_; intro A hA Q hQ; simp [*]) | (refine RunQ.makeMap 900 rfl rfl rfl ?_ ?_; (focus (simp [*]; done)); refine RunQ.evalH ?_; simp [*]))
 refine WK.lI (fun n => if n = 1 then 900 else n) (fun i : Nat => (⟨(upd (upd (upd (upd (upd J 1 (.int .i64 at_)) 5 (.mv 1)) 12 (.sl false L.length (linkL L))) 13 (.int .i64 L.length)) 14 (.int .i64 i)), (upd B0 1 (.obj (mpObj (mpSeen (pOf (L.take i) at_))))), 0⟩ : St)) (fun i => i ≤ L.length) (fun i => L.length - i) (0) (by repeat (first | exact TmW.nil | refine TmW.upd ?_ (by simp (maxDischargeDepth := 120) [hseen0, hp0]))) (by repeat (first | exact BxW.nil | refine BxW.upd ?_ (by simp (maxDischargeDepth := 120) [hseen0, hp0]))) (by first | exact InjW.id | exact InjW.nil | exact InjW.one | exact InjW.two (by simp) | exact InjW.three (by simp) (by simp) (by simp)) (by omega) (fun i hi IH => ?_)
 by_cases h1 : i < L.length
 · have h1' : (i : Int) < L.length := by omega
   have h6 : IntKind.i64.wrap ((i : Int) + 1) = i + 1 := wrap_i64 (by omega) (by omega)
   obtain ⟨h4, h3⟩ := link_load L i h1
   have hy := pOf_yes (at_ := at_) h1
   have hn := pOf_no (at_ := at_) h1
   have hll := pOf_len (L.take i) at_
   have hl2 : (L.take i).length ≤ 1000000 := by rw [List.length_take]; omega
   obtain ⟨x, hx⟩ : ∃ x, nth L i = x := ⟨_, rfl⟩
   rw [hx] at h4 hy hn
   obtain ⟨ks, hks⟩ : ∃ ks, pOf (L.take i) at_ = ks := ⟨_, rfl⟩
   obtain ⟨ks', hks'⟩ : ∃ ks, pOf (L.take (i + 1)) at_ = ks := ⟨_, rfl⟩
   rw [hks, hks'] at hy hn
   rw [hks] at hll ⊢
   clear hx hks hsk hel hpl
   cases k1 : (x.from_ == at_)
   · have hn := hn k1
     clear hy
     repeat' (first | apply WK.s | apply WK.b | apply WK.n | apply WK.k | refine WK.cT rfl ?_ | refine WK.cF rfl ?_ | (refine hQ.h _ _ ?_; clear hQ hA) | (refine WK.rH Tryz.ntmps15 (by kernel_rfl) ?_; intro A hA Q hQ; simp [Link.enc, *]))
     rw [hn] at hks'
     refine WK.next (fun n => n) (IH (i + 1) (by omega) (by first | omega | (dsimp only; omega))) (by repeat (first | exact TmW.nil | refine TmW.upd ?_ (by simp (maxDischargeDepth := 120) [hks']))) (by repeat (first | exact BxW.nil | refine BxW.upd ?_ (by simp (maxDischargeDepth := 120) [hks']))) InjW.id
   · have hy := hy k1
     clear hn
     have hsn := mpSeen_snoc ks x.out
     obtain ⟨c, hvl, hcp, hcl⟩ : ∃ c : Nat, mpVal (mpSeen ks) x.out = c ∧ (0 < c ↔ x.out ∈ ks) ∧ c ≤ ks.length := mpSeen_in ks _
     rw [hvl] at hsn
     have wc : IntKind.i64.wrap ((c : Int) + 1) = c + 1 := wrap_i64 (by omega) (by omega)
     rw [← hy] at hsn
     obtain ⟨M, hM⟩ : ∃ M, mpSeen ks = M := ⟨_, rfl⟩
     rw [hM] at hvl hsn ⊢
     rw [← hks'] at hsn
     clear hM hcp hks' hy
     repeat' (first | apply WK.s | apply WK.b | apply WK.n | apply WK.k | refine WK.cT rfl ?_ | (refine hQ.h _ _ ?_; clear hQ hA) | (refine WK.rH Tryz.ntmps15 (by kernel_rfl) ?_; intro A hA Q hQ; simp [Link.enc, *]) | (refine RunQ.lookup mpOkInt rfl rfl rfl rfl rfl rfl ?_; refine RunQ.evalH ?_; simp [Link.enc, *]) | (refine RunQ.mapUpdate mpOkInt rfl rfl rfl rfl rfl rfl rfl ?_; refine RunQ.evalH ?_; simp [Link.enc, *]))
     refine WK.next (fun n => n) (IH (i + 1) (by omega) (by first | omega | (dsimp only; omega))) (by repeat (first | exact TmW.nil | refine TmW.upd ?_ (by simp (maxDischargeDepth := 120) [hsn]))) (by repeat (first | exact BxW.nil | refine BxW.upd ?_ (by simp (maxDischargeDepth := 120) [hsn]))) InjW.id
 have hil : i = L.length := by omega
 have h1' : ¬ (i : Int) < L.length := by omega
 subst hil
 rw [List.take_length]
 clear IH hi hseen0 hp0
 have hbig : (insAll (pOf L at_)).length ≤ 1000000 := Nat.le_trans (insAll_len _) (by omega)
 have hsorted := insAll_ok (pOf L at_)
 obtain ⟨E, hE⟩ : ∃ E, mpSeen (pOf L at_) = E := ⟨_, rfl⟩
 obtain ⟨R, hR⟩ : ∃ R, insAll (pOf L at_) = R := ⟨_, rfl⟩
 rw [hE] at hel hsk ⊢
 rw [hR] at hsk hbig ⊢
 clear hE hR hsorted
 repeat' (first | apply WK.s | refine WK.exit rfl ?_ | refine WK.cF rfl ?_ | (refine hQ.h _ _ ?_; clear hQ hA) | (refine WK.rH (id := 0) Tryz.ntmps15 (by kernel_rfl) ?_; intro A hA Q hQ; simp [*]) | (refine WK.rH (id := 1) Tryz.ntmps15 (by kernel_rfl) ?_; intro A hA Q hQ; simp [*]) | (refine WK.rH (id := 2) Tryz.ntmps15 (by kernel_rfl) ?_; intro A hA Q hQ; simp [*]) | (refine WK.rH (id := 3) Tryz.ntmps15 (by kernel_rfl) ?_; intro A hA Q hQ; simp [*]) | (refine WK.rH (id := 4) Tryz.ntmps15 (by kernel_rfl) ?_; intro A hA Q hQ; simp [*]) | (refine WK.rH (id := 5) Tryz.ntmps15 (by kernel_rfl) ?_; intro A hA Q hQ; simp [*]) | (refine WK.rH (id := 6) Tryz.ntmps15 (by kernel_rfl) ?_; intro A hA Q hQ; simp [*]) | (refine WK.rH (id := 7) Tryz.ntmps15 (by kernel_rfl) ?_; intro A hA Q hQ; simp [*]) | (refine WK.rH (id := 8) Tryz.ntmps15 (by kernel_rfl) ?_; intro A hA Q hQ; simp [*]))
 refine WK.ghost (Ghost.own 8 901 1 rfl rfl) ?_
 refine WK.named 1 rfl fun m => ?_
 refine WK.regN Tryz.ntmps15 (by kernel_rfl) ?_
 intro A hA Q hQ
 simp [*]
 refine RunN.range 2 mpOkInt rfl rfl rfl rfl (by simp) List.mem_cons_self ?_
 refine RunN.evalH ?_
 simp
 refine hQ.h _ _ ?_
 clear hQ hA
 have hz0 : intL (([] : List Nat).map fun v => (nth E v).1) = [] := rfl
 repeat (apply WK.b)
 refine WK.lI (fun n => if n = 3 then 901 else n) (fun vs : List Nat => (⟨(upd (upd J 8 (.msl 3 0 vs.length)) 29 (.ptr 2 0)), (upd (upd (upd B0 1 (.obj (mpObjK (Value.int .i64) 0 E))) 2 (.obj (itObj m 0 E.length vs))) 3 (.buf 1 (intL (vs.map fun v => (nth E v).1)))), 0⟩ : St)) (fun vs => vs.Nodup ∧ ∀ v, v ∈ vs → v < E.length) (fun vs => E.length - vs.length) ([]) (by repeat (first | exact TmW.nil | refine TmW.upd ?_ (by simp (maxDischargeDepth := 120) [hz0]))) (by repeat (first | exact BxW.nil | refine BxW.upd ?_ (by simp (maxDischargeDepth := 120) [hz0]))) (by first | exact InjW.id | exact InjW.nil | exact InjW.one | exact InjW.two (by simp) | exact InjW.three (by simp) (by simp) (by simp)) (⟨by simp, by simp⟩) (fun vs hv IHv => ?_)
 repeat apply WK.s
 refine WK.regN Tryz.ntmps15 (by kernel_rfl) ?_
 intro A hA Q hQ
 simp [*]
 refine RunN.next rfl rfl rfl rfl rfl List.mem_cons_self (fun h0 => ?_) (fun k hk hnv => ?_)
 · refine RunN.evalH ?_
   simp
   refine hQ.h _ _ ?_
   clear hQ hA
   have hsk := hsk vs hv.1 hv.2 h0
   have hvl : (vs.map fun v => (nth E v).1).length = vs.length := List.length_map ..
   have hvb := nodup_lt_length E.length vs hv.1 hv.2
   obtain ⟨zs, hzs⟩ : ∃ zs, (vs.map fun v => (nth E v).1) = zs := ⟨_, rfl⟩
   rw [hzs] at hsk hvl ⊢
   have hso := sort_c zs (by omega)
   rw [hsk] at hso
   have hRl : R.length = vs.length := by rw [← hsk, ← hvl]; exact List.length_mergeSort _
   rw [hvl] at hso
   clear hzs hsk h0 IHv
   refine WK.unname ?_
   repeat' (first | apply WK.s | refine WK.exit rfl ?_ | refine WK.cF rfl ?_ | (refine hQ.h _ _ ?_; clear hQ hA) | (refine WK.rH Tryz.ntmps15 (by kernel_rfl) ?_; intro A hA Q hQ; simp [*]) | (refine RunQ.callB 3 rfl rfl rfl rfl rfl (hso) ?_ ?_ rfl rfl ?_ ?_ ?_; (focus (simp (maxDischargeDepth := 120) [*]; done)); (focus (simp (maxDischargeDepth := 120) [*]; done)); (focus (simp [*]; done)); (focus (simp [*]; done)); refine RunQ.evalH ?_; simp [*]))
   have hft : (intL R).take vs.length = intL R := List.take_of_length_le (by rw [intL_len]; omega)
   refine WK.ghost (Ghost.frzSl 4 1 rfl rfl) ?_
   repeat' (first | (refine WK.t Tryz.func15 ?_ ?_ <;> simp (maxDischargeDepth := 120) [Tryz.results15, *]))
 · refine RunN.evalH ?_
   simp
   refine hQ.h _ _ ?_
   clear hQ hA
   have hge : (E[k]).1 = (nth E k).1 := by rw [nth_eq hk]
   obtain ⟨n1, n2, n3⟩ := nodup_add hv hk hnv
   have hsn : intL (vs.map fun v => (nth E v).1) ++ [AV.int .i64 (nth E k).1] = intL ((vs ++ [k]).map fun v => (nth E v).1) := by simp [intL]
   have hlen : (vs ++ [k]).length = vs.length + 1 := by simp
   have hvl : (vs.map fun v => (nth E v).1).length = vs.length := List.length_map ..
   have hb : (vs.length + 1) * 8 ≤ 140737488355328 := by omega
   obtain ⟨x, hx⟩ : ∃ x, (nth E k).1 = x := ⟨_, rfl⟩
   rw [hx] at hge hsn
   obtain ⟨zs, hzs⟩ : ∃ zs, (vs.map fun v => (nth E v).1) = zs := ⟨_, rfl⟩
   rw [hzs] at hsn hvl ⊢
   obtain ⟨zs', hzs'⟩ : ∃ zs, ((vs ++ [k]).map fun v => (nth E v).1) = zs := ⟨_, rfl⟩
   rw [hzs'] at hsn
   clear hsk hx hzs
   repeat' (first | apply WK.s | apply WK.b | apply WK.k | refine WK.cT rfl ?_)
   refine WK.regN Tryz.ntmps15 (by kernel_rfl) ?_
   intro A hA Q hQ
   simp [*]
   refine RunN.entry rfl rfl rfl rfl rfl List.mem_cons_self hk ?_
   refine RunN.evalH ?_
   simp [hge]
   refine hQ.h _ _ ?_
   clear hQ hA
   repeat' (first | apply WK.n | (refine hQ.h _ _ ?_; clear hQ hA) | (refine WK.rH Tryz.ntmps15 (by kernel_rfl) ?_; intro A hA Q hQ; simp [*]) | (refine RunQ.append 901 appInt rfl rfl rfl rfl rfl rfl rfl rfl rfl ?_ ?_ ?_ ?_ ?_; (focus (first | omega | (simp [*]; done); done)); (focus (first | omega | (simp [*]; done); done)); (focus (first | omega | (simp [*]; done); done)); (focus (first | omega | (simp [*]; done); done)); refine RunQ.evalH ?_; simp [*]))
   have hz2 : intL zs' = intL ((vs.map fun v => (nth E v).1) ++ [(nth E k).1]) := by rw [← hzs']; simp
   refine WK.next (fun n => if n = 3 then 901 else n) (IHv (vs ++ [k]) (⟨n1, n2⟩) (by first | omega | (dsimp only; omega))) (by repeat (first | exact TmW.nil | refine TmW.upd ?_ (by simp (maxDischargeDepth := 120) [hlen, hsn, hz2]))) (by repeat (first | exact BxW.nil | refine BxW.upd ?_ (by simp (maxDischargeDepth := 120) [hlen, hsn, hz2]))) (by first | exact InjW.id | exact InjW.nil | exact InjW.one | exact InjW.two (by simp) | exact InjW.three (by simp) (by simp) (by simp))

theorem app_sw : AppOk Tryz.prog 22 46 5 120 := ⟨by simp, by simp, by simp, by simp, by simp, by simp, by omega, by omega⟩
def nFew (n : Net) : Bool := decide (n.sws.length ≤ 4) && (decide (n.links.length ≤ 30) && n.sws.all fun s => swPlain s 6)
theorem few1_c (s : Switch) : FnP Tryz.prog 20 [.agg s.enc] (.bool (!swPlain s 6)) := by
 have c := pswitch_c s 6 (by omega)
 obtain ⟨b, hb⟩ : ∃ b, swPlain s 6 = b := ⟨_, rfl⟩
 rw [hb] at c ⊢
 have hcl := Switch.cl s
 have hl := Switch.len s
 obtain ⟨S, hS⟩ : ∃ S, s.enc = S := ⟨_, rfl⟩
 rw [hS] at c hcl hl ⊢
 have ht : S.take 5 = S := List.take_of_length_le (by omega)
 clear hb hS
 refine FnP.i Tryz.func20 rfl rfl fun G w => ?_
 repeat' (first | apply WK.s | (refine hQ.h _ _ ?_; clear hQ hA) | (refine WK.rH Tryz.ntmps20 (by kernel_rfl) ?_; intro A hA Q hQ; simp [*]) | (refine RunQ.k rfl rfl rfl rfl rfl ?_ (c) ?_ ?_ <;> simp (maxDischargeDepth := 120) [*] <;> refine ⟨?_⟩) | (refine WK.t Tryz.func20 ?_ ?_ <;> simp (maxDischargeDepth := 120) [Tryz.results20, *]))
theorem few_c (n : Net) : FnP Tryz.prog 5 [.agg n.enc] (.bool (nFew n)) := by
 have e0 : n.enc = [.sl false n.sws.length (swL n.sws), .sl false n.links.length (linkL n.links)] := rfl
 rw [e0]
 unfold nFew
 by_cases h1 : (n.sws.length : Int) ≤ 4
 · have h1' : n.sws.length ≤ 4 := by omega
   by_cases h2 : (n.links.length : Int) ≤ 30
   · have h2' : n.links.length ≤ 30 := by omega
     have cs := containsf_sw 20 [] (fun s => !swPlain s 6) n.sws (by simp) (by omega) (fun x hx => few1_c x)
     rw [any_not_all] at cs
     unfold swS at cs
     rw [decide_eq_true h1', decide_eq_true h2']
     obtain ⟨b2, h3⟩ : ∃ b, (n.sws.all fun s => swPlain s 6) = b := ⟨_, rfl⟩
     rw [h3] at cs ⊢
     clear h3 e0
     refine FnP.i Tryz.func5 rfl rfl fun G w => ?_
     repeat' (first | apply WK.s | (refine hQ.h _ _ ?_; clear hQ hA) | (refine WK.rH Tryz.ntmps5 (by kernel_rfl) ?_; intro A hA Q hQ; simp [*]) | (refine RunQ.g rfl (by rw [hA.h]; rfl) ?_; simp [*]) | (refine RunQW.k rfl rfl rfl rfl ?_ (cs) ?_ ?_ <;> simp (maxDischargeDepth := 120) [*] <;> refine ⟨?_⟩) | (refine WK.t Tryz.func5 ?_ ?_ <;> simp (maxDischargeDepth := 120) [Tryz.results5, *]))
   · have h2' : ¬ n.links.length ≤ 30 := by omega
     rw [decide_eq_true h1', decide_eq_false h2']
     clear e0
     refine FnP.i Tryz.func5 rfl rfl fun G w => ?_
     repeat' (first | apply WK.s | (refine hQ.h _ _ ?_; clear hQ hA) | (refine WK.rH Tryz.ntmps5 (by kernel_rfl) ?_; intro A hA Q hQ; simp [*]) | (refine RunQ.g rfl (by rw [hA.h]; rfl) ?_; simp [*]) | (refine WK.t Tryz.func5 ?_ ?_ <;> simp (maxDischargeDepth := 120) [Tryz.results5, *]))
 · have h1' : ¬ n.sws.length ≤ 4 := by omega
   rw [decide_eq_false h1']
   clear e0
   refine FnP.i Tryz.func5 rfl rfl fun G w => ?_
   repeat' (first | apply WK.s | (refine hQ.h _ _ ?_; clear hQ hA) | (refine WK.rH Tryz.ntmps5 (by kernel_rfl) ?_; intro A hA Q hQ; simp [*]) | (refine RunQ.g rfl (by rw [hA.h]; rfl) ?_; simp [*]) | (refine WK.t Tryz.func5 ?_ ?_ <;> simp (maxDischargeDepth := 120) [Tryz.results5, *]))
def net0 : Net := ⟨[sw0, sw0], [⟨0, 3, 1, 4⟩]⟩
def net1 : Net := ⟨[⟨fun _ => [], [gr0, gr0]⟩], []⟩
theorem sw0_B (gs : List Group) (h : gs.length ≤ 9) (hg : ∀ g, g ∈ gs → g = gr0) : SwB ⟨fun _ => [], gs⟩ := swPlain_ok (n := 6) (by decide) (by
 unfold swPlain groupsPlain
 rw [Bool.and_eq_true, Bool.and_eq_true, List.all_eq_true, List.all_eq_true]
 exact ⟨fun t _ => by show flowsPlain [] 6 = true; decide, by simp; omega, fun g hx => by rw [hg g hx]; decide⟩) (fun _ _ => rfl)
set_option maxRecDepth 100000 in
theorem awake47_c : FnP Tryz.prog 6 [] (.bool true) := by
 have hB0 : ∀ s, s ∈ net0.sws → SwB s := fun s hs => by
   have : s = sw0 := by simp [net0] at hs; exact hs
   rw [this]; exact sw0_B [] (by decide) (by simp)
 have hB1 : ∀ s, s ∈ net1.sws → s.groups.length ≤ 1000 ∧ ∀ g, g ∈ s.groups → GrB g := fun s hs => by
   have : s = ⟨fun _ => [], [gr0, gr0]⟩ := by simp [net1] at hs; exact hs
   rw [this]; exact ⟨by simp, fun g hg => by have := sw0_B [gr0, gr0] (by decide) (by simp); exact this.gr g hg⟩
 have c1 := lnext_c net0 0 3 (by decide)
 have c2 := lright_c net0 (by decide) (by decide) hB0
 have c3 := lports_c net0 0 (by decide)
 have c4 := lgroups_c net1 (by decide) hB1
 have c5 := iequal_c [3] [3] (by decide)
 have e1 : nTold net0 (nAt net0 0 3) = [.int .i64 1, .int .i64 4, .bool true] := by kernel_rfl
 have e2 : nRight net0 = true := by kernel_rfl
 have e3 : intS (nPorts net0 0) = .sl false 1 [.int .i64 3] := by kernel_rfl
 have e4 : grpS (nGroups net1.sws) = .sl false 2 [.int .i64 0, .int .i64 0, .sl false 0 [], .int .i64 0, .int .i64 0, .sl false 0 []] := by kernel_rfl
 have e5 : eqBy (fun x y => x == y) [(3 : Int)] [3] = true := by kernel_rfl
 have e6 : intS [3] = .sl false 1 [.int .i64 3] := rfl
 have e7 : net0.enc = [.sl false 2 [.sl false 0 [], .sl false 0 [], .sl false 0 [], .sl false 0 [], .sl false 0 [], .sl false 0 [], .sl false 0 [], .sl false 0 [], .sl false 0 [], .sl false 0 []], .sl false 1 [.int .i64 0, .int .i64 3, .int .i64 1, .int .i64 4]] := by kernel_rfl
 have e8 : net1.enc = [.sl false 1 [.sl false 0 [], .sl false 0 [], .sl false 0 [], .sl false 0 [], .sl false 2 [.int .i64 0, .int .i64 0, .sl false 0 [], .int .i64 0, .int .i64 0, .sl false 0 []]], .sl false 0 []] := by kernel_rfl
 rw [e1, e7] at c1
 rw [e2, e7] at c2
 rw [e3, e7] at c3
 rw [e4, e8] at c4
 rw [e5, e6] at c5
 clear e1 e2 e3 e4 e5 e6 e7 e8 hB0 hB1
 refine FnP.i Tryz.func6 rfl rfl fun G w => ?_
 repeat' (first | apply WK.s | (refine hQ.h _ _ ?_; clear hQ hA) | (refine WK.rH Tryz.ntmps6 (by kernel_rfl) ?_; intro A hA Q hQ; simp [*]) | (refine RunQ.g rfl (by rw [hA.h]; rfl) ?_; simp [*]) | (refine RunQ.makeFz (n := 2) (c := 2) (k := .i64) (k' := .i64) 900 app_sw rfl rfl rfl ?_ ?_ (by omega) (by omega) ?_ ?_; (focus (simp (maxDischargeDepth := 120) [*]; done)); (focus (simp (maxDischargeDepth := 120) [*]; done)); (focus (simp [*]; done)); refine RunQ.evalH ?_; simp [*]) | (refine RunQW.by (fun hw => ?_); refine RunQ.makeFz (n := 2) (c := 2) (k := .i64) (k' := .i64) 901 app_grp rfl hw rfl ?_ ?_ (by omega) (by omega) ?_ ?_; (focus (simp (maxDischargeDepth := 120) [*]; done)); (focus (simp (maxDischargeDepth := 120) [*]; done)); (focus (simp [*]; done)); clear hw; refine RunQ.evalH ?_; simp [*]) | (refine RunQ.k rfl rfl rfl rfl rfl ?_ (c1) ?_ ?_ <;> simp (maxDischargeDepth := 120) [*] <;> refine ⟨?_⟩) | (refine RunQ.k rfl rfl rfl rfl rfl ?_ (c2) ?_ ?_ <;> simp (maxDischargeDepth := 120) [*] <;> refine ⟨?_⟩) | (refine RunQ.k rfl rfl rfl rfl rfl ?_ (c3) ?_ ?_ <;> simp (maxDischargeDepth := 120) [*] <;> refine ⟨?_⟩) | (refine RunQ.k rfl rfl rfl rfl rfl ?_ (c4) ?_ ?_ <;> simp (maxDischargeDepth := 120) [*] <;> refine ⟨?_⟩) | (refine RunQ.k rfl rfl rfl rfl rfl ?_ (c5) ?_ ?_ <;> simp (maxDischargeDepth := 120) [*] <;> refine ⟨?_⟩) | (refine RunQW.k rfl rfl rfl rfl ?_ (c1) ?_ ?_ <;> simp (maxDischargeDepth := 120) [*] <;> refine ⟨?_⟩) | (refine RunQW.k rfl rfl rfl rfl ?_ (c2) ?_ ?_ <;> simp (maxDischargeDepth := 120) [*] <;> refine ⟨?_⟩) | (refine RunQW.k rfl rfl rfl rfl ?_ (c3) ?_ ?_ <;> simp (maxDischargeDepth := 120) [*] <;> refine ⟨?_⟩) | (refine RunQW.k rfl rfl rfl rfl ?_ (c4) ?_ ?_ <;> simp (maxDischargeDepth := 120) [*] <;> refine ⟨?_⟩) | (refine RunQW.k rfl rfl rfl rfl ?_ (c5) ?_ ?_ <;> simp (maxDischargeDepth := 120) [*] <;> refine ⟨?_⟩) | (refine WK.t Tryz.func6 ?_ ?_ <;> simp (maxDischargeDepth := 120) [Tryz.results6, *]))
end Go.Proofs.YtmhapglejjehbaaGreat

section
namespace Go.Proofs.YtmhapglejjehbaaGreat
open Go Go.AI Go.Proofs
theorem plugs_nodup (L : List Link) : (∀ i, i < L.length → ¬ (nth L i).plug ∈ (L.take i).map Link.plug) ↔ (L.map Link.plug).Nodup := by
 unfold List.Nodup
 rw [List.pairwise_iff_getElem]
 constructor
 · intro h i j hi hj hij e
   simp only [List.length_map] at hi hj
   refine h j hj (plug_in hij (by omega) ?_)
   simp only [List.getElem_map] at e
   rw [nth_eq hi, nth_eq hj]; exact e
 · intro h i hi
   refine plug_out (by omega) fun k hk e => ?_
   refine h k i (by simp; omega) (by simpa using hi) hk ?_
   simp only [List.getElem_map]
   rw [nth_eq (by omega), nth_eq hi] at e; exact e
theorem nJoins_iff (n : Net) : nJoins n = true ↔ (n.links.map Link.plug).Nodup ∧ ∀ l, l ∈ n.links → nThere n l.from_ = true ∧ nThere n l.to_ = true ∧ nPort l.out = true ∧ nPort l.inn = true := by
 rw [← plugs_nodup]
 unfold nJoins nJoin1
 rw [List.all_eq_true]
 simp only [List.mem_range, Bool.and_eq_true, Bool.not_eq_true', decide_eq_false_iff_not]
 constructor
 · intro h
   refine ⟨fun i hi => (h i hi).1, fun l hl => ?_⟩
   obtain ⟨i, hi, rfl⟩ := mem_nth hl
   exact (h i hi).2
 · intro h i hi
   exact ⟨h.1 i hi, h.2 _ (nth_mem hi)⟩
def Net.with_ (n : Net) (L : List Link) : Net := ⟨n.sws, L⟩
section
variable {n : Net} {L : List Link}
theorem nJoins_perm (h : L.Perm n.links) : nJoins (n.with_ L) = nJoins n := by
 rw [Bool.eq_iff_iff, nJoins_iff, nJoins_iff]
 have e : ∀ x, nThere (n.with_ L) x = nThere n x := fun _ => rfl
 simp only [e]
 show (L.map Link.plug).Nodup ∧ (∀ l, l ∈ L → _) ↔ _
 rw [(h.map Link.plug).nodup_iff]
 simp only [h.mem_iff]
theorem nRight_perm (h : L.Perm n.links) : nRight (n.with_ L) = nRight n := by
 unfold nRight
 rw [nJoins_perm h]; rfl
theorem idxI_none_all {α : Type} [Inhabited α] {p : α → Bool} {l : List α} (h : idxI p l = -1) : ∀ x, x ∈ l → p x = false := by
 have := idxI_ge p l
 rw [h] at this
 simp only [ge_iff_le, Int.reduceLE, decide_false, Int.reduceNeg] at this
 intro x hx
 have h2 : l.any p = false := by rw [← this]
 rw [List.any_eq_false] at h2
 simpa using h2 x hx
theorem nTold_perm {at_ port : Int} (h : L.Perm n.links) (hj : nJoins n = true) : nTold (n.with_ L) (nAt (n.with_ L) at_ port) = nTold n (nAt n at_ port) := by
 have hj := (nJoins_iff n).1 hj
 have e : nIs (n.with_ L) at_ port = nIs n at_ port := rfl
 have e1 : nAt (n.with_ L) at_ port = idxI (nIs n at_ port) L := rfl
 have e2 : nAt n at_ port = idxI (nIs n at_ port) n.links := rfl
 have hpl : ∀ l, nIs n at_ port l = true → l.plug = (at_, port) := fun l hl => by
   unfold nIs at hl
   simp only [Bool.and_eq_true, beq_iff_eq] at hl
   unfold Link.plug; rw [hl.1.1, hl.1.2]
 rw [e1, e2]
 rcases idxI_cases (nIs n at_ port) L with h1 | ⟨i, hi, h1, h2, _⟩ <;> rcases idxI_cases (nIs n at_ port) n.links with h3 | ⟨j, hj', h3, h4, _⟩
 · rw [h1, h3]; rfl
 · have := idxI_none_all h1 _ (h.mem_iff.2 (nth_mem hj'))
   rw [h4] at this; cases this
 · have := idxI_none_all h3 _ (h.mem_iff.1 (nth_mem hi))
   rw [h2] at this; cases this
 · rw [h1, h3]
   have : nth L i = nth n.links j := by
     have hm := h.mem_iff.1 (nth_mem hi)
     obtain ⟨k, hk, ek⟩ := mem_nth hm
     rw [← ek]
     have hnd := hj.1
     unfold List.Nodup at hnd
     rw [List.pairwise_iff_getElem] at hnd
     have epl : (nth n.links k).plug = (nth n.links j).plug := by rw [ek, hpl _ h2, hpl _ h4]
     rcases Nat.lt_trichotomy k j with hlt | heq | hgt
     · refine absurd ?_ (hnd k j (by simpa using hk) (by simpa using hj') hlt)
       simp only [List.getElem_map]
       rw [← nth_eq hk, ← nth_eq hj']; exact epl
     · rw [heq]
     · refine absurd ?_ (hnd j k (by simpa using hj') (by simpa using hk) hgt)
       simp only [List.getElem_map]
       rw [← nth_eq hk, ← nth_eq hj']; exact epl.symm
   unfold nTold
   rw [if_neg (by omega), if_neg (by omega), Int.toNat_natCast, Int.toNat_natCast, show (n.with_ L).links = L from rfl, this]
theorem nTold_ok (at_ port : Int) : ∃ a b, nTold n (nAt n at_ port) = [.int .i64 a, .int .i64 b, .bool (n.links.any (nIs n at_ port))] := by
 have hg := idxI_ge (nIs n at_ port) n.links
 have e2 : nAt n at_ port = idxI (nIs n at_ port) n.links := rfl
 unfold nTold
 rw [e2, ← hg]
 by_cases h : idxI (nIs n at_ port) n.links < 0
 · rw [if_pos h]; exact ⟨0, 0, by simp only [ge_iff_le]; rw [decide_eq_false (by omega)]⟩
 · rw [if_neg h]; exact ⟨_, _, by simp only [ge_iff_le]; rw [decide_eq_true (by omega)]⟩
theorem nPorts_ok {at_ port : Int} (h : L.Perm n.links) (hj : nJoins n = true) : ((nPorts (n.with_ L) at_).any fun x => port == x) = n.links.any (nIs n at_ port) := by
 have hj := (nJoins_iff n).1 hj
 rw [Bool.eq_iff_iff, List.any_eq_true, List.any_eq_true]
 unfold nPorts
 simp only [(insAll_ok _).2]
 show (∃ x, x ∈ pOf L at_ ∧ _) ↔ _
 unfold pOf
 constructor
 · rintro ⟨x, hx, e⟩
   simp only [beq_iff_eq] at e
   subst e
   rw [List.mem_map] at hx
   obtain ⟨l, hl, rfl⟩ := hx
   rw [List.mem_filter] at hl
   have hm := h.mem_iff.1 hl.1
   refine ⟨l, hm, ?_⟩
   unfold nIs
   rw [hl.2, (hj.2 l hm).2.1]; simp
 · rintro ⟨l, hl, e⟩
   unfold nIs at e
   simp only [Bool.and_eq_true, beq_iff_eq] at e
   refine ⟨l.out, List.mem_map.2 ⟨l, List.mem_filter.2 ⟨h.mem_iff.2 hl, by simp [e.1.1]⟩, rfl⟩, by simp [e.1.2]⟩
end
end Go.Proofs.YtmhapglejjehbaaGreat
end

namespace Go.Proofs.YtmhapglejjehbaaGreat
open Go Go.AI Go.Proofs
attribute [local irreducible] FnP FnO FnB FnT FnSeq FnV FnSeqV WK RunQ RunQW RunX RunXW RunN
def Net.cutN (n : Net) : Net := ⟨n.sws.map Switch.cut, n.links⟩
theorem Net.cutN_enc (n : Net) : n.cutN.enc = n.enc := by
 unfold Net.enc Net.cutN swS swL
 simp only [List.length_map, List.flatMap_map]
 rfl
theorem Net.cutN_tab {n : Net} {s : Switch} (h : s ∈ n.cutN.sws) (t : Nat) (ht : 4 ≤ t) : s.tab t = [] := by
 unfold Net.cutN at h
 rw [List.mem_map] at h
 obtain ⟨s', _, rfl⟩ := h
 exact Switch.cut_tab ht
theorem few_ok {n : Net} (hc : ∀ s, s ∈ n.sws → ∀ t, 4 ≤ t → s.tab t = []) (h : nFew n = true) : n.sws.length ≤ 4 ∧ n.links.length ≤ 30 ∧ (∀ s, s ∈ n.sws → SwB s) ∧ ∀ s, s ∈ n.sws → s.groups.length ≤ 9 := by
 unfold nFew at h
 simp only [Bool.and_eq_true, decide_eq_true_eq, List.all_eq_true] at h
 refine ⟨h.1, h.2.1, fun s hs => swPlain_ok (by omega) (h.2.2 s hs) (hc s hs), fun s hs => ?_⟩
 have := h.2.2 s hs
 unfold swPlain groupsPlain at this
 simp only [Bool.and_eq_true, decide_eq_true_eq] at this
 have := this.2.1
 omega

theorem app_link : AppOk Tryz.prog 23 39 4 32 := ⟨by simp, by simp, by simp, by simp, by simp, by simp, by omega, by omega⟩
theorem clone_linkO (l : List Link) (hl : l.length ≤ 1000000) : FnO Tryz.prog 17 [linkS l] l.length 4 (linkL l) := by
 have hb : l.length * 32 ≤ 140737488355328 := by omega
 unfold linkS
 cases l with
 | nil =>
   refine FnO.intro Tryz.func17 rfl rfl fun G w => ?_
   repeat' (first | apply WK.s | apply WK.k | (refine hQ.h _ _ ?_; clear hQ hA) | refine WK.condAny rfl ?_ ?_ | (refine WK.rH Tryz.ntmps17 (by kernel_rfl) ?_; intro A hA Q hQ; simp [*]))
   · refine WK.ghost (Ghost.own 2 900 4 rfl rfl) ?_
     refine WK.retO Tryz.func17 (by rfl) (by rfl) (by simp (maxDischargeDepth := 120) [linkL_nil]) (by simp [linkL_nil])
   · repeat' (first | (refine hQ.h _ _ ?_; clear hQ hA) | (refine RunQ.append0 900 901 app_link rfl rfl rfl rfl rfl rfl rfl ?_ rfl ?_ ?_ ?_ ?_ ?_ ?_; (focus (simp [*]; done)); (focus (first | omega | (simp [*]; done); done)); (focus (first | omega | (simp [*]; done); done)); (focus (simp [*]; done)); (focus (simp [*]; done)); (focus (simp [*]; done)); refine RunQ.evalH ?_; simp [*]) | (refine WK.retO Tryz.func17 rfl rfl ?_ ?_ <;> simp (maxDischargeDepth := 120) [linkL_nil, *]))
 | cons x l =>
   have e : (linkL (x :: l)).take ((l.length + 1) * 4) = linkL (x :: l) := List.take_of_length_le (by simp)
   simp only [List.length_cons] at hl hb ⊢
   refine FnO.intro Tryz.func17 rfl rfl fun G w => ?_
   repeat' (first | apply WK.s | apply WK.k | refine WK.cF rfl ?_ | (refine hQ.h _ _ ?_; clear hQ hA) | (refine WK.rH Tryz.ntmps17 (by kernel_rfl) ?_; intro A hA Q hQ; simp [*]) | (refine RunQ.append0 900 901 app_link rfl rfl rfl rfl rfl rfl rfl ?_ rfl ?_ ?_ ?_ ?_ ?_ ?_; (focus (simp [*]; done)); (focus (first | omega | (simp [*]; done); done)); (focus (first | omega | (simp [*]; done); done)); (focus (simp [*]; done)); (focus (simp [*]; done)); (focus (simp [*]; done)); refine RunQ.evalH ?_; simp [*]) | (refine WK.retO Tryz.func17 rfl rfl ?_ ?_ <;> simp (maxDischargeDepth := 120) [*]))
theorem linkL_drop (L : List Link) (i : Nat) : (linkL L).drop (i * 4) = linkL (L.drop i) := fm_drop Link.len L i
theorem linkL_cut (L : List Link) (i : Nat) (h : i ≤ L.length) : (linkL L).take (i * 4) = linkL (L.take i) := by
 conv => lhs; rw [← List.take_append_drop i L, linkL_app]
 have : (linkL (L.take i)).length = i * 4 := by rw [linkL_len, List.length_take]; omega
 rw [← this, List.take_left]
set_option maxHeartbeats 4000000 in
set_option maxRecDepth 100000 in
theorem linksOrder_c0 (n : Net) (k : BitVec 8) (at_ port : Int) (hc : ∀ s, s ∈ n.sws → ∀ t, 4 ≤ t → s.tab t = []) : FnP Tryz.prog 4 [.agg n.enc, .int .u8 (bI k), .int .i64 at_, .int .i64 port] (.bool true) := by
 have fw := few_c n
 have ok := few_ok hc
 have aw := awake47_c
 have e0 : n.enc = [swS n.sws, linkS n.links] := rfl
 obtain ⟨B, hB⟩ : ∃ B, nFew n = B := ⟨_, rfl⟩
 rw [hB] at fw ok
 cases B with
 | false =>
   obtain ⟨X, hX, c1⟩ : ∃ S, swS n.sws = S ∧ Cl S = true := ⟨_, rfl, swS_cl _⟩
   obtain ⟨Y, hY, c2⟩ : ∃ S, linkS n.links = S ∧ Cl S = true := ⟨_, rfl, linkS_cl _⟩
   rw [e0, hX, hY] at fw ⊢
   clear ok hB hX hY e0 hc
   refine FnP.i Tryz.func4 rfl rfl fun G w => ?_
   repeat' (first | apply WK.s | refine WK.cT rfl ?_ | (refine hQ.h _ _ ?_; clear hQ hA) | (refine WK.rH Tryz.ntmps4 (by kernel_rfl) ?_; intro A hA Q hQ; simp [*]) | (refine RunQ.g rfl (by rw [hA.h]; rfl) ?_; simp [*]) | (refine RunQ.k rfl rfl rfl rfl rfl ?_ (fw) ?_ ?_ <;> simp (maxDischargeDepth := 120) [*] <;> refine ⟨?_⟩) | (refine RunQ.k rfl rfl rfl rfl rfl ?_ (aw) ?_ ?_ <;> simp (maxDischargeDepth := 120) [*] <;> refine ⟨?_⟩) | (refine WK.t Tryz.func4 ?_ ?_ <;> simp (maxDischargeDepth := 120) [Tryz.results4, *]))
 | true =>
   obtain ⟨o1, o2, o3, o4⟩ := ok rfl
   have d3 := lright_c n (by omega) (by omega) o3
   obtain ⟨R, hR⟩ : ∃ R, nRight n = R := ⟨_, rfl⟩
   rw [hR] at d3
   cases R with
   | false =>
     obtain ⟨X, hX, c1⟩ : ∃ S, swS n.sws = S ∧ Cl S = true := ⟨_, rfl, swS_cl _⟩
     obtain ⟨Y, hY, c2⟩ : ∃ S, linkS n.links = S ∧ Cl S = true := ⟨_, rfl, linkS_cl _⟩
     rw [e0, hX, hY] at fw d3 ⊢
     clear ok hB hX hY e0 hc hR
     refine FnP.i Tryz.func4 rfl rfl fun G w => ?_
     repeat' (first | apply WK.s | refine WK.cT rfl ?_ | (refine hQ.h _ _ ?_; clear hQ hA) | (refine WK.rH Tryz.ntmps4 (by kernel_rfl) ?_; intro A hA Q hQ; simp [*]) | (refine RunQ.g rfl (by rw [hA.h]; rfl) ?_; simp [*]) | (refine RunQ.k rfl rfl rfl rfl rfl ?_ (fw) ?_ ?_ <;> simp (maxDischargeDepth := 120) [*] <;> refine ⟨?_⟩) | (refine RunQ.k rfl rfl rfl rfl rfl ?_ (aw) ?_ ?_ <;> simp (maxDischargeDepth := 120) [*] <;> refine ⟨?_⟩) | (refine RunQW.k rfl rfl rfl rfl ?_ (d3) ?_ ?_ <;> simp (maxDischargeDepth := 120) [*] <;> refine ⟨?_⟩) | (refine WK.t Tryz.func4 ?_ ?_ <;> simp (maxDischargeDepth := 120) [Tryz.results4, *]))
   | true =>
     by_cases hz : n.links.length = 0
     · have hn : n.links = [] := List.eq_nil_of_length_eq_zero hz
       have e1 : linkS n.links = .sl false 0 [] := by rw [hn]; rfl
       obtain ⟨X, hX, c1⟩ : ∃ S, swS n.sws = S ∧ Cl S = true := ⟨_, rfl, swS_cl _⟩
       rw [e0, hX, e1] at fw d3 ⊢
       clear ok hB hX e0 hc hR hz hn e1
       refine FnP.i Tryz.func4 rfl rfl fun G w => ?_
       repeat' (first | apply WK.s | refine WK.cT rfl ?_ | (refine hQ.h _ _ ?_; clear hQ hA) | (refine WK.rH Tryz.ntmps4 (by kernel_rfl) ?_; intro A hA Q hQ; simp [*]) | (refine RunQ.g rfl (by rw [hA.h]; rfl) ?_; simp [*]) | (refine RunQ.k rfl rfl rfl rfl rfl ?_ (fw) ?_ ?_ <;> simp (maxDischargeDepth := 120) [*] <;> refine ⟨?_⟩) | (refine RunQ.k rfl rfl rfl rfl rfl ?_ (aw) ?_ ?_ <;> simp (maxDischargeDepth := 120) [*] <;> refine ⟨?_⟩) | (refine RunQW.k rfl rfl rfl rfl ?_ (d3) ?_ ?_ <;> simp (maxDischargeDepth := 120) [*] <;> refine ⟨?_⟩) | (refine WK.t Tryz.func4 ?_ ?_ <;> simp (maxDischargeDepth := 120) [Tryz.results4, *]))
     · have hj : nJoins n = true := by unfold nRight at hR; rw [Bool.and_eq_true] at hR; exact hR.1
       obtain ⟨i, hi⟩ : ∃ i, k.toNat % n.links.length = i := ⟨_, rfl⟩
       have hil : i < n.links.length := by rw [← hi]; exact Nat.mod_lt _ (by omega)
       have hmod : (bI k).tmod (n.links.length : Int) = i := by rw [← hi]; unfold bI; exact Int.ofNat_tmod _ _
       have hp : (n.links.drop i ++ n.links.take i).Perm n.links := List.perm_append_comm.trans (by rw [List.take_append_drop])
       obtain ⟨M, hM⟩ : ∃ M, n.links.drop i ++ n.links.take i = M := ⟨_, rfl⟩
       rw [hM] at hp
       have hMl : M.length = n.links.length := hp.length_eq
       have d1 := lnext_c n at_ port (by omega)
       have d2 := lnext_c (n.with_ M) at_ port (by show M.length ≤ _; omega)
       rw [nTold_perm hp hj] at d2
       have d4 := lright_c (n.with_ M) (by show M.length ≤ _; omega) (by show n.sws.length ≤ _; omega) o3
       rw [nRight_perm hp, hR] at d4
       have d5 := lports_c (n.with_ M) at_ (by show M.length ≤ _; omega)
       have hpl : (nPorts (n.with_ M) at_).length ≤ 1000000 := Nat.le_trans (insAll_len _) (Nat.le_trans (pOf_len _ _) (by show M.length ≤ _; omega))
       have d6 := contains_c (nPorts (n.with_ M) at_) port hpl
       rw [nPorts_ok hp hj] at d6
       obtain ⟨a, b, ht⟩ := nTold_ok (n := n) at_ port
       obtain ⟨q, hq⟩ : ∃ q, n.links.any (nIs n at_ port) = q := ⟨_, rfl⟩
       rw [hq] at ht d6
       rw [ht] at d1 d2
       have cl := clone_linkO (n.links.drop i) (by rw [List.length_drop]; omega)
       obtain ⟨Pv, hP, k2⟩ : ∃ S, intS (nPorts (n.with_ M) at_) = S ∧ Cl S = true := ⟨_, rfl, by simp [intS, Cl]⟩
       rw [hP] at d5 d6
       have e1 : (n.with_ M).enc = [swS n.sws, linkS M] := rfl
       obtain ⟨X, hX, c1⟩ : ∃ S, swS n.sws = S ∧ Cl S = true := ⟨_, rfl, swS_cl _⟩
       rw [hX] at e0 e1
       rw [e1] at d2 d4 d5
       rw [e0] at fw d1 d3 ⊢
       obtain ⟨L, hL⟩ : ∃ L, n.links = L := ⟨_, rfl⟩
       rw [hL] at fw d1 d3 hil hmod hM hMl cl o2 hz ⊢
       have hdt : ((linkL L).drop (i * 4)).take ((L.length - i) * 4) = linkL (L.drop i) := by rw [linkL_drop]; exact List.take_of_length_le (by simp)
       have htk := linkL_cut L i (by omega)
       have hdl : (L.drop i).length = L.length - i := List.length_drop
       have htl : (L.take i).length = i := by rw [List.length_take]; omega
       have hcl1 : ClL (linkL (L.drop i)) = true := by simp
       have hcl2 : ClL (linkL (L.take i)) = true := by simp
       have hap : linkL (L.drop i) ++ linkL (L.take i) = linkL M := by rw [← hM, linkL_app]
       have hMe : (L.length - i) + i = L.length := by omega
       have htk2 : (linkL (L.take i)).take (i * 4) = linkL (L.take i) := List.take_of_length_le (by rw [linkL_len, htl]; omega)
       have hft : (linkL M).take (L.length * 4) = linkL M := List.take_of_length_le (by rw [linkL_len, hMl]; omega)
       unfold linkS at *
       rw [hMl] at d2 d4 d5
       rw [hdl] at cl
       obtain ⟨hk0, hk⟩ := bI_lt k
       have hw : IntKind.i64.wrap (bI k) = bI k := wrap_i64 (by omega) (by omega)
       have hz' : ¬ (L.length : Int) = 0 := by omega
       have hi1 : (i : Int) ≤ L.length := by omega
       have hne : ¬ L = [] := fun e => by rw [e] at hil; simp at hil
       have hz2 : ¬ L.length = 0 := by omega
       have hb : (L.length - i + i) * 32 ≤ 140737488355328 := by omega
       obtain ⟨k, hkk⟩ : ∃ z, bI k = z := ⟨_, rfl⟩
       rw [hkk] at hmod hk hk0 hw ⊢
       clear ok hB hX e0 e1 hc hR hi hM hP ht hq hpl hL hkk hp hj o1 o3 o4 hz
       refine FnP.i Tryz.func4 rfl rfl fun G w => ?_
       repeat' (first | apply WK.s | apply WK.k | (refine hQ.h _ _ ?_; clear hQ hA) | (refine WK.c2 rfl (fun h => ?_) (fun h => ?_) <;> (first | (simp [*] at h; done) | (have h2 := h; simp at h2; exfalso; omega) | (have h2 := h; simp at h2; try simp only [Bool.not_eq_true', Bool.not_eq_false'] at h) | skip)) | (refine WK.rH (id := 0) Tryz.ntmps4 (by kernel_rfl) ?_; intro A hA Q hQ; simp [*]) | (refine WK.rH (id := 1) Tryz.ntmps4 (by kernel_rfl) ?_; intro A hA Q hQ; simp [*]) | (refine WK.rH (id := 2) Tryz.ntmps4 (by kernel_rfl) ?_; intro A hA Q hQ; simp [*]) | (refine WK.rH (id := 3) Tryz.ntmps4 (by kernel_rfl) ?_; intro A hA Q hQ; simp [*]) | (refine WK.rH (id := 4) Tryz.ntmps4 (by kernel_rfl) ?_; intro A hA Q hQ; simp [*]) | (refine RunQ.g rfl (by rw [hA.h]; rfl) ?_; simp [*]) | (refine RunQ.k rfl rfl rfl rfl rfl ?_ (fw) ?_ ?_ <;> simp (maxDischargeDepth := 120) [*] <;> refine ⟨?_⟩) | (refine RunQW.k rfl rfl rfl rfl ?_ (d3) ?_ ?_ <;> simp (maxDischargeDepth := 120) [*] <;> refine ⟨?_⟩))
       repeat' (first | apply WK.s | (refine WK.rX (id := 0) (by kernel_rfl) Tryz.ntmps4 (by kernel_rfl) ?_; intro A hA Q hQ; simp [*]) | (refine WK.rX (id := 1) (by kernel_rfl) Tryz.ntmps4 (by kernel_rfl) ?_; intro A hA Q hQ; simp [*]) | (refine WK.rX (id := 2) (by kernel_rfl) Tryz.ntmps4 (by kernel_rfl) ?_; intro A hA Q hQ; simp [*]) | (refine WK.rX (id := 3) (by kernel_rfl) Tryz.ntmps4 (by kernel_rfl) ?_; intro A hA Q hQ; simp [*]) | (refine WK.rX (id := 4) (by kernel_rfl) Tryz.ntmps4 (by kernel_rfl) ?_; intro A hA Q hQ; simp [*]) | (refine WK.rX (id := 5) (by kernel_rfl) Tryz.ntmps4 (by kernel_rfl) ?_; intro A hA Q hQ; simp [*]) | (refine hQ.h _ _ _ (by decide +kernel) ?_; clear hQ hA) | (refine RunX.callO 901 rfl rfl rfl rfl ?_ (cl) ?_ ?_ ?_ ?_; (focus (simp (maxDischargeDepth := 120) [*]; done)); (focus (simp [*]; done)); (focus (simp [*]; done)); (focus (simp [*]; done)); refine RunX.e ?_; simp [*]) | (refine RunX.append 902 app_link rfl rfl rfl rfl rfl rfl rfl rfl ?_ ?_ ?_ ?_ ?_; (focus (first | omega | (simp [*]; done); done)); (focus (first | omega | (simp [*]; done); done)); (focus (first | omega | (simp [*]; done); done)); (focus (first | omega | (simp [*]; done); done)); refine RunX.e ?_; simp [*]))
       refine WK.ghost (Ghost.frzCell 301 1 902 L.length 4 rfl rfl rfl (by decide)) ?_
       repeat' (first | apply WK.s | (refine hQ.h _ _ ?_; clear hQ hA) | (refine WK.rH Tryz.ntmps4 (by kernel_rfl) ?_; intro A hA Q hQ; simp [*]) | (refine RunQ.g rfl (by rw [hA.h]; rfl) ?_; simp [*]) | (refine RunQ.k rfl rfl rfl rfl rfl ?_ (d1) ?_ ?_ <;> simp (maxDischargeDepth := 120) [*] <;> refine ⟨?_⟩) | (refine RunQ.k rfl rfl rfl rfl rfl ?_ (d2) ?_ ?_ <;> simp (maxDischargeDepth := 120) [*] <;> refine ⟨?_⟩) | (refine RunQ.k rfl rfl rfl rfl rfl ?_ (d4) ?_ ?_ <;> simp (maxDischargeDepth := 120) [*] <;> refine ⟨?_⟩) | (refine RunQ.k rfl rfl rfl rfl rfl ?_ (d5) ?_ ?_ <;> simp (maxDischargeDepth := 120) [*] <;> refine ⟨?_⟩) | (refine RunQ.k rfl rfl rfl rfl rfl ?_ (d6) ?_ ?_ <;> simp (maxDischargeDepth := 120) [*] <;> refine ⟨?_⟩) | (refine RunQW.k rfl rfl rfl rfl ?_ (d1) ?_ ?_ <;> simp (maxDischargeDepth := 120) [*] <;> refine ⟨?_⟩) | (refine RunQW.k rfl rfl rfl rfl ?_ (d2) ?_ ?_ <;> simp (maxDischargeDepth := 120) [*] <;> refine ⟨?_⟩) | (refine RunQW.k rfl rfl rfl rfl ?_ (d4) ?_ ?_ <;> simp (maxDischargeDepth := 120) [*] <;> refine ⟨?_⟩) | (refine RunQW.k rfl rfl rfl rfl ?_ (d5) ?_ ?_ <;> simp (maxDischargeDepth := 120) [*] <;> refine ⟨?_⟩) | (refine RunQW.k rfl rfl rfl rfl ?_ (d6) ?_ ?_ <;> simp (maxDischargeDepth := 120) [*] <;> refine ⟨?_⟩) | (refine RunQW.k rfl rfl rfl rfl ?_ (aw) ?_ ?_ <;> simp (maxDischargeDepth := 120) [*] <;> refine ⟨?_⟩) | (refine WK.t Tryz.func4 ?_ ?_ <;> simp (maxDischargeDepth := 120) [Tryz.results4, *]))
theorem linksOrder_c (n : Net) (k : BitVec 8) (at_ port : Int) : FnP Tryz.prog 4 [.agg n.enc, .int .u8 (bI k), .int .i64 at_, .int .i64 port] (.bool true) := by
 rw [← Net.cutN_enc]; exact linksOrder_c0 n.cutN k at_ port fun s hs t ht => Net.cutN_tab hs t ht
end Go.Proofs.YtmhapglejjehbaaGreat
