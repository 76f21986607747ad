/- Groups: by breadth from group to group, by the reference. -/
import Derived.Test.YtmhapglejjehbaaGreatAf
import Derived.Test.YtmhapglejjehbaaGreatWk9
import Derived.Test.YtmhapglejjehbaaGreatWk5
import Derived.Test.YtmhapglejjehbaaGreatWk8
import Derived.Test.YtmhapglejjehbaaGreatAg
import Derived.Test.YtmhapglejjehbaaGreatWk7
set_option linter.all false
set_option linter.unnecessarySimpa false
namespace Go.Proofs.YtmhapglejjehbaaGreat
open Go Go.AI Go.Proofs
attribute [local irreducible] FnP FnO FnB FnT WK RunQ RunQW RunX RunXW RunN
def intN (t : List Nat) : List AV := t.map fun j : Nat => AV.int .i64 (j : Int)
@[simp] theorem intN_len (t : List Nat) : (intN t).length = t.length := by simp [intN]
@[simp] theorem intN_cl (t : List Nat) : ClL (intN t) = true := by
 unfold intN
 induction t with
 | nil => rfl
 | cons x l ih => simp only [List.map_cons, ClL, Cl, ih, Bool.true_and]
theorem intN_snoc (t : List Nat) (j : Nat) : intN t ++ [.int .i64 (j : Int)] = intN (t ++ [j]) := by simp [intN]
theorem bStep_in (l : List Group) (r a : Nat) (s t : List Nat) (h : Bf (gSucc l) l.length r s (a :: t)) (hle : t.length ≤ s.length) (i : Nat) :
   (((gNames (nth l a).buckets).take i).foldl (bStep l) (s, t)).2.length ≤ l.length ∧ ∀ x, x ∈ (((gNames (nth l a).buckets).take i).foldl (bStep l) (s, t)).1 → x < l.length := by
 have hra : ∀ x, x ∈ gSucc l a → Reach (gSucc l) r x := fun x hx => by
   rcases h.todo a (by simp) with e | e
   · subst e; exact .one hx
   · exact .more e hx
 have e : ((gNames (nth l a).buckets).take i).foldl (bStep l) (s, t) = (((gNames (nth l a).buckets).take i).filterMap (gAt l)).foldl bfsOne (s, t) := by
   rw [List.foldl_filterMap]
   congr 1
   funext p id
   unfold bStep
   cases gAt l id <;> rfl
 obtain ⟨n, h1, h2, h3, h4⟩ := bfs_fold (gSucc l) l.length r a (fun x hx => gSucc_small l a x hx) hra (((gNames (nth l a).buckets).take i).filterMap (gAt l)) s t
   (fun x hx => by
     unfold gSucc
     rw [List.mem_filterMap] at hx ⊢
     obtain ⟨id, hid, he⟩ := hx
     exact ⟨id, List.mem_of_mem_take hid, he⟩) h.nodup h.small (fun x hx => h.todo x (List.mem_cons_of_mem _ hx)) h.reach
 rw [e, h1]
 have hs : ∀ x, x ∈ s ++ n → x < l.length := fun x hx => by
   rcases List.mem_append.1 hx with hx | hx
   · exact h.small x hx
   · exact (h3 x hx).1
 have := nodup_lt_length l.length (s ++ n) h2 hs
 simp only [List.length_append] at this ⊢
 exact ⟨by omega, hs⟩
structure BfAt (l : List Group) (r : Nat) (x : Nat × List AV × List Nat × List Nat) : Prop where
 pre : x.2.1.length = x.1
 cl : ClL x.2.1 = true
 bf : Bf (gSucc l) l.length r x.2.2.2 x.2.2.1
 le : x.2.2.1.length ≤ x.2.2.2.length + 1
theorem BfAt.next {l : List Group} {r a : Nat} {s t : List Nat} (h : Bf (gSucc l) l.length r s (a :: t)) (hle : t.length ≤ s.length) (pre : List AV) (hc : ClL pre = true) {s' t' : List Nat} (e : (gNames (nth l a).buckets).foldl (bStep l) (s, t) = (s', t')) :
   BfAt l r (pre.length, pre, t', s') ∧ 2 * (l.length - s'.length) + t'.length < 2 * (l.length - s.length) + (t.length + 1) := by
 obtain ⟨n, h1, h2⟩ := h.next (gSucc_small l)
 rw [bfs_names, e] at h1
 obtain ⟨rfl, rfl⟩ := Prod.mk.inj h1
 have := h2.less
 refine ⟨⟨rfl, hc, h2, by simp; omega⟩, ?_⟩
 simp only [List.length_append] at this ⊢
 omega
theorem BfAt.small {l : List Group} {r : Nat} {x : Nat × List AV × List Nat × List Nat} (h : BfAt l r x) (hr : r < l.length) : ∀ y, y ∈ x.2.2.1 → y < l.length := fun y hy => by
 rcases h.bf.todo y hy with rfl | hre
 · exact hr
 · cases hre with
   | one h1 => exact gSucc_small l _ _ h1
   | more _ h1 => exact gSucc_small l _ _ h1
theorem seenB_comes {l : List Group} {r : Nat} {s : List Nat} (h : Bf (gSucc l) l.length r s []) : seenB l.length s = seenB l.length (gComes l r) := by
 unfold seenB
 congr 1
 funext j
 congr 1
 rw [decide_eq_decide, h.stop j, gComes_reach]
set_option maxHeartbeats 8000000 in
set_option maxRecDepth 100000 in
theorem rcomes_c (l : List Group) (r : Nat) (hr : r < l.length) (hl : l.length ≤ 1000000) (hB : ∀ g, g ∈ l → GrB g) : FnP Tryz.prog 150 [grpS l, .int .i64 r] (.sl false l.length (seenB l.length (gComes l r))) := by
 have hpl : ∀ id, FnP Tryz.prog 88 [grpS l, .int .i64 id] (.int .i64 (gPlace l id)) := fun id => rgplace_c l id hl
 have hz := seenB_nil l.length
 have hend := fun {s : List Nat} => seenB_comes (l := l) (r := r) (s := s)
 have hRt : (seenB l.length (gComes l r)).take l.length = seenB l.length (gComes l r) := List.take_of_length_le (by simp)
 have hRc := seenB_cl l.length (gComes l r)
 obtain ⟨R, hR⟩ : ∃ R, seenB l.length (gComes l r) = R := ⟨_, rfl⟩
 rw [hR] at hend hRt hRc ⊢
 clear hR
 unfold grpS at *
 refine FnP.i Tryz.func150 rfl rfl fun G w => ?_
 repeat' (first | apply WK.s | (apply hQ.h; clear hQ hA) | (refine WK.R (id := 0) Tryz.ntmps150 ?_; intro A hA Q hQ; simp [*]) | (refine WK.R (id := 1) Tryz.ntmps150 ?_; intro A hA Q hQ; simp [*]) | (refine RunQ.make (n := l.length) (c := l.length) (k := .i64) (k' := .i64) 900 appBool rfl rfl rfl ?_ ?_ (by omega) (by omega) ?_ ?_; (focus simp (config := zd) [*]; done); (focus simp (config := zd) [*]; done); (focus simp [*]; done); refine RunQ.evalH ?_; simp [*]))
 rw [← hz]
 refine WK.regN0 Tryz.ntmps150 (by kernel_rfl) ?_
 intro A hA Q hQ
 refine RunN.one rfl rfl ?_
 refine RunN.buildOwn (s := 1) (cs := [.int .i64 (r : Int)]) 901 rfl rfl (by simp [bslA, repl]) (fun e h => by simp at h; subst h; simp) rfl (by decide) (by simp) ?_
 refine RunN.evalH ?_
 simp
 refine hQ.h _ _ ?_
 clear hQ hA
 repeat (first | apply WK.s | apply WK.b)
 refine WK.L (fun n => if n = 1 then 900 else if n = 2 then 901 else n) (fun x : Nat × List AV × List Nat × List Nat => (⟨(upd (upd (upd J 0 (.sl false l.length (grpL l))) 5 (.msl 1 0 l.length)) 6 (.msl 2 x.1 x.2.2.1.length)), (upd (upd B0 1 (.buf 1 (seenB l.length x.2.2.2))) 2 (.buf 1 (x.2.1 ++ intN x.2.2.1))), 0⟩ : St)) (fun x => BfAt l r x) (fun x => 2 * (l.length - x.2.2.2.length) + x.2.2.1.length) ((0, [], [r], [])) (by repeat (first | exact TmW.nil | refine TmW.upd ?_ (by simp (config := zd) [intN]))) (by repeat (first | exact BxW.nil | refine BxW.upd ?_ (by simp (config := zd) [intN]))) (⟨rfl, rfl, Bf.start _ _ _, by simp⟩) (fun x hx IH => ?_)
 obtain ⟨off, pre, t, s⟩ := x
 have hsm := hx.small hr
 have hpre := hx.pre
 have hpc := hx.cl
 have hbf := hx.bf
 have hle := hx.le
 simp only at hsm hpre hpc hbf hle ⊢
 cases t with
 | nil =>
   have e := hend hbf
   rw [e]
   clear hend IH hx hbf hsm hpl hz hB hpre hle
   repeat' (first | apply WK.s | refine WK.exit rfl ?_ | refine WK.cF rfl ?_ | (apply hQ.h; clear hQ hA) | (refine WK.R Tryz.ntmps150 ?_; intro A hA Q hQ; simp [*]))
   refine WK.ghost (Ghost.frzSl 4 1 rfl rfl) ?_
   repeat' (first | (refine WK.t Tryz.func150 ?_ ?_ <;> simp (config := zd) [Tryz.results150, *]))
 | cons a t =>
   have hle' : t.length ≤ s.length := by simpa using hle
   have hin := bStep_in l r a s t hbf hle'
   have hnx := fun pre hc {s' t' : List Nat} => BfAt.next hbf hle' pre hc (s' := s') (t' := t')
   have ha : a < l.length := hsm a (by simp)
   have ha' : (a : Int) < l.length := by omega
   have hb0 := hB _ (nth_mem ha)
   have hn := rgnames_c (nth l a).buckets hb0.len hb0.acts
   have hnl := gNames_le (nth l a).buckets 1000000 hb0.acts
   have hnl2 : (nth l a).buckets.length * 1000000 ≤ 1000 * 1000000 := Nat.mul_le_mul_right _ hb0.len
   have hk : a * 3 + 2 < (grpL l).length := by rw [grpL_len]; omega
   have hg := grp_get l a 2 ha (by omega) hk
   obtain ⟨x, hx'⟩ : ∃ x, nth l a = x := ⟨_, rfl⟩
   have hg' : (grpL l)[a * 3 + 2] = .sl false x.buckets.length (bukL x.buckets) := by rw [hg]; simp only [hx']; rfl
   have hq : (grpL l)[a * 3 + 2]? = some (.sl false x.buckets.length (bukL x.buckets)) := List.getElem?_eq_some_iff.2 ⟨hk, hg'⟩
   have hk' : a * 3 + 2 < l.length * 3 := by omega
   rw [hx'] at hn hnl hnl2 hin hnx
   obtain ⟨N, hN⟩ : ∃ N, gNames x.buckets = N := ⟨_, rfl⟩
   rw [hN] at hn hnl hin hnx
   have hNl : N.length ≤ 1000000000 := by omega
   have hcs : (pre ++ intN (a :: t))[off]? = some (.int .i64 (a : Int)) := by
     rw [← hpre]; simp [intN]
   have hcl : (pre ++ intN (a :: t)).length = off + (t.length + 1) := by simp [hpre]
   have hce : pre ++ intN (a :: t) = (pre ++ [.int .i64 (a : Int)]) ++ intN t := by simp [intN]
   have hol : off < off + (t.length + 1) := by omega
   obtain ⟨cs, hcse⟩ : ∃ cs, pre ++ intN (a :: t) = cs := ⟨_, rfl⟩
   rw [hcse] at hcs hcl hce ⊢
   clear hcse hg hx' hN hnl hnl2 hb0 hend hsm hbf hle hx hB hRt hRc hz
   unfold bukS intS at hn
   repeat' (first | apply WK.s | apply WK.b | apply WK.k | refine WK.cT rfl ?_ | (apply hQ.h; clear hQ hA) | (refine WK.R (id := 0) Tryz.ntmps150 ?_; intro A hA Q hQ; simp [*]) | (refine WK.R (id := 1) Tryz.ntmps150 ?_; intro A hA Q hQ; simp [*]) | (refine WK.R (id := 2) Tryz.ntmps150 ?_; intro A hA Q hQ; simp [*]) | (refine WK.R (id := 3) Tryz.ntmps150 ?_; intro A hA Q hQ; simp [*]) | (refine WK.R (id := 4) Tryz.ntmps150 ?_; intro A hA Q hQ; simp [*]) | (refine RunQ.k rfl rfl rfl rfl rfl ?_ (hn) ?_ ?_ <;> simp (config := zd) [*] <;> refine ⟨?_⟩))
   apply WK.cutI (fun y : Nat × List AV => (⟨(upd (upd (upd (upd J 0 (.sl false l.length (grpL l))) 5 (.msl 1 0 l.length)) 6 (.msl 2 y.1 t.length)) 7 (.sl false N.length (intL N))), (upd (upd B0 1 (.buf 1 (seenB l.length s))) 2 (.buf 1 (y.2 ++ intN t))), 0⟩ : St)) (fun y => y.2.length = y.1 ∧ ClL y.2 = true)
   · intro hcut
     have hpre' : (pre ++ [AV.int .i64 (a : Int)]).length = off + 1 := by simp [hpre]
     have hpc' : ClL (pre ++ [AV.int .i64 (a : Int)]) = true := by simp [hpc]
     refine WK.regN Tryz.ntmps150 (by kernel_rfl) ?_
     intro A hA Q hQ
     simp [*]
     refine RunN.behind (d := 1) appInt rfl rfl rfl rfl rfl (by decide) (by omega) ?_ (fun hd => ?_)
     · refine RunN.evalH ?_
       simp
       refine hQ.h _ _ ?_
       clear hQ hA
       repeat apply WK.s
       refine WK.N (fun n => n) (hcut ((off + 1, pre ++ [AV.int .i64 (a : Int)])) (⟨hpre', hpc'⟩)) (by repeat (first | exact TmW.nil | refine TmW.upd ?_ (by simp (config := zd) [hce, hpc]))) (by repeat (first | exact BxW.nil | refine BxW.upd ?_ (by simp (config := zd) [hce, hpc])))
     · have ht : t = [] := List.eq_nil_of_length_eq_zero (by omega)
       subst ht
       refine RunN.evalH ?_
       simp
       refine hQ.h _ _ ?_
       clear hQ hA
       repeat apply WK.s
       refine WK.ghost (Ghost.own 6 902 1 rfl rfl) ?_
       refine WK.N (fun n => if n = 2 then 902 else n) (hcut ((0, [])) (⟨rfl, rfl⟩)) (by repeat (first | exact TmW.nil | refine TmW.upd ?_ (by simp (config := zd) [intN]))) (by repeat (first | exact BxW.nil | refine BxW.upd ?_ (by simp (config := zd) [intN])))
   · intro y hy
     obtain ⟨off', pre'⟩ := y
     simp only at hy ⊢
     clear hcs hcl hce hol hpre hpc
     repeat' (first | apply WK.b | (apply hQ.h; clear hQ hA) | (refine WK.R (id := 0) Tryz.ntmps150 ?_; intro A hA Q hQ; simp [*]) | (refine WK.R (id := 1) Tryz.ntmps150 ?_; intro A hA Q hQ; simp [*]) | (refine WK.R (id := 2) Tryz.ntmps150 ?_; intro A hA Q hQ; simp [*]) | (refine WK.R (id := 3) Tryz.ntmps150 ?_; intro A hA Q hQ; simp [*]) | (refine WK.R (id := 4) Tryz.ntmps150 ?_; intro A hA Q hQ; simp [*]) | (refine WK.R (id := 5) Tryz.ntmps150 ?_; intro A hA Q hQ; simp [*]) | (refine WK.R (id := 6) Tryz.ntmps150 ?_; intro A hA Q hQ; simp [*]))
     refine WK.L (fun n => n) (fun z : Nat × Nat × List AV => (⟨(upd (upd (upd (upd (upd J 0 (.sl false l.length (grpL l))) 5 (.msl 1 0 l.length)) 6 (.msl 2 z.2.1 ((N.take z.1).foldl (bStep l) (s, t)).2.length)) 7 (.sl false N.length (intL N))) 8 (.int .i64 z.1)), (upd (upd B0 1 (.buf 1 (seenB l.length ((N.take z.1).foldl (bStep l) (s, t)).1))) 2 (.buf 1 (z.2.2 ++ intN ((N.take z.1).foldl (bStep l) (s, t)).2))), 0⟩ : St)) (fun z => z.1 ≤ N.length ∧ z.2.2.length = z.2.1 ∧ ClL z.2.2 = true) (fun z => N.length - z.1) ((0, off', pre')) (by repeat (first | exact TmW.nil | refine TmW.upd ?_ (by simp (config := zd) [hy.2]))) (by repeat (first | exact BxW.nil | refine BxW.upd ?_ (by simp (config := zd) [hy.2]))) (⟨by simp, hy⟩) (fun z hz' IHz => ?_)
     clear hy
     obtain ⟨i, off, pre⟩ := z
     simp only at hz' ⊢
     obtain ⟨hiN, hpre, hpc⟩ := hz'
     by_cases h1 : i < N.length
     · have h1' : (i : Int) < N.length := by omega
       have h3 : i < (intL N).length := by rw [show (intL N).length = N.length by simp [intL]]; exact h1
       have h4 := intL_get' N i h1
       have h6 : IntKind.i64.wrap ((i : Int) + 1) = i + 1 := wrap_i64 (by omega) (by omega)
       have hfo := fold_take (bStep l) (s, t) h1
       have hb := hin i
       have hp := hpl (nth N i)
       have hat := gPlace_at l (nth N i)
       obtain ⟨S1, T1, hF⟩ : ∃ S1 T1, (N.take i).foldl (bStep l) (s, t) = (S1, T1) := ⟨_, _, rfl⟩
       rw [hF] at hfo hb ⊢
       rw [show bStep l (S1, T1) (nth N i) = (match gAt l (nth N i) with | none => (S1, T1) | some i => bfsOne (S1, T1) i) from rfl] at hfo
       simp only at hb ⊢
       obtain ⟨id, hid⟩ : ∃ id, nth N i = id := ⟨_, rfl⟩
       rw [hid] at hfo hp hat h4
       clear hpl hF hid hin hnx IH
       cases hga : gAt l id with
       | none =>
         rw [hga] at hfo hat
         simp only at hfo hat
         rw [hat] at hp
         clear hga hat hb
         repeat' (first | apply WK.s | apply WK.b | apply WK.n | apply WK.k | refine WK.cT rfl ?_ | refine WK.cF rfl ?_ | (apply hQ.h; clear hQ hA) | (refine WK.R Tryz.ntmps150 ?_; intro A hA Q hQ; simp [*]) | (refine RunQ.g rfl (by rw [hA.h]; rfl) ?_; simp [*]) | (refine RunQ.k rfl rfl rfl rfl rfl ?_ (hp) ?_ ?_ <;> simp (config := zd) [*] <;> refine ⟨?_⟩))
         refine WK.N (fun n => n) (IHz ((i + 1, off, pre)) (⟨by simp only; omega, hpre, hpc⟩) (by first | omega | (dsimp only; omega))) (by repeat (first | exact TmW.nil | refine TmW.upd ?_ (by simp (config := zd) [hfo, hpc]))) (by repeat (first | exact BxW.nil | refine BxW.upd ?_ (by simp (config := zd) [hfo, hpc])))
       | some j =>
         obtain ⟨hj, _⟩ := gAt_small hga
         rw [hga] at hfo hat
         simp only at hfo hat
         rw [hat] at hp
         have hj' : (j : Int) < l.length := by omega
         have hjle : j + 1 ≤ l.length := by omega
         have hg := seenB_get l.length S1 j hj
         unfold bfsOne at hfo
         simp only at hfo
         by_cases hjT : j ∈ S1
         · rw [if_pos hjT] at hfo
           rw [decide_eq_true hjT] at hg
           clear hga hat hb
           repeat' (first | apply WK.s | apply WK.b | apply WK.n | apply WK.k | refine WK.cT rfl ?_ | refine WK.cF rfl ?_ | (apply hQ.h; clear hQ hA) | (refine WK.R Tryz.ntmps150 ?_; intro A hA Q hQ; simp [*]) | (refine RunQ.g rfl (by rw [hA.h]; rfl) ?_; simp [*]) | (refine RunQ.k rfl rfl rfl rfl rfl ?_ (hp) ?_ ?_ <;> simp (config := zd) [*] <;> refine ⟨?_⟩))
           refine WK.N (fun n => n) (IHz ((i + 1, off, pre)) (⟨by simp only; omega, hpre, hpc⟩) (by first | omega | (dsimp only; omega))) (by repeat (first | exact TmW.nil | refine TmW.upd ?_ (by simp (config := zd) [hfo, hpc]))) (by repeat (first | exact BxW.nil | refine BxW.upd ?_ (by simp (config := zd) [hfo, hpc])))
         · rw [if_neg hjT] at hfo
           rw [decide_eq_false hjT] at hg
           have hadd := seenB_add (s := S1) hj
           have hlen : (pre ++ intN T1).length = off + T1.length := by simp [hpre]
           have hdrop : (pre ++ intN T1).drop off = intN T1 := by rw [← hpre]; simp
           have hTl : (T1.length + 1) * 8 ≤ 140737488355328 := by omega
           have e1 : pre ++ intN T1 ++ [.int .i64 (j : Int)] = pre ++ intN (T1 ++ [j]) := by rw [List.append_assoc, intN_snoc]
           have e2 : intN T1 ++ [.int .i64 (j : Int)] = [] ++ intN (T1 ++ [j]) := by rw [intN_snoc]; rfl
           have e3 : (T1 ++ [j]).length = T1.length + 1 := by simp
           obtain ⟨B, hB⟩ : ∃ B, pre ++ intN T1 = B := ⟨_, rfl⟩
           rw [hB] at hlen hdrop e1 ⊢
           clear hga hat hb hB
           repeat' (first | apply WK.s | apply WK.b | apply WK.k | refine WK.cT rfl ?_ | (apply hQ.h; clear hQ hA) | (refine WK.R (id := 0) Tryz.ntmps150 ?_; intro A hA Q hQ; simp [*]) | (refine WK.R (id := 1) Tryz.ntmps150 ?_; intro A hA Q hQ; simp [*]) | (refine WK.R (id := 2) Tryz.ntmps150 ?_; intro A hA Q hQ; simp [*]) | (refine WK.R (id := 3) Tryz.ntmps150 ?_; intro A hA Q hQ; simp [*]) | (refine WK.R (id := 4) Tryz.ntmps150 ?_; intro A hA Q hQ; simp [*]) | (refine WK.R (id := 5) Tryz.ntmps150 ?_; intro A hA Q hQ; simp [*]) | (refine WK.R (id := 6) Tryz.ntmps150 ?_; intro A hA Q hQ; simp [*]) | (refine WK.R (id := 7) Tryz.ntmps150 ?_; intro A hA Q hQ; simp [*]) | (refine WK.R (id := 8) Tryz.ntmps150 ?_; intro A hA Q hQ; simp [*]) | (refine WK.R (id := 9) Tryz.ntmps150 ?_; intro A hA Q hQ; simp [*]) | (refine WK.R (id := 10) Tryz.ntmps150 ?_; intro A hA Q hQ; simp [*]) | (refine WK.R (id := 11) Tryz.ntmps150 ?_; intro A hA Q hQ; simp [*]) | (refine RunQ.g rfl (by rw [hA.h]; rfl) ?_; simp [*]) | (refine RunQ.k rfl rfl rfl rfl rfl ?_ (hp) ?_ ?_ <;> simp (config := zd) [*] <;> refine ⟨?_⟩))
           refine WK.regN Tryz.ntmps150 (by kernel_rfl) ?_
           intro A hA Q hQ
           simp [*]
           refine RunN.append 903 appInt rfl rfl rfl rfl rfl rfl rfl rfl hlen hTl (by simp) ?_ ?_
           · refine RunN.evalH ?_
             simp
             refine hQ.h _ _ ?_
             clear hQ hA
             clear e2 hdrop
             repeat' (first | apply WK.n | (apply hQ.h; clear hQ hA) | (refine WK.R Tryz.ntmps150 ?_; intro A hA Q hQ; simp [*]))
             refine WK.N (fun n => if n = 2 then 903 else n) (IHz ((i + 1, off, pre)) (⟨by simp only; omega, hpre, hpc⟩) (by first | omega | (dsimp only; omega))) (by repeat (first | exact TmW.nil | refine TmW.upd ?_ (by simp (config := zd) [hfo, hpc, e1, e3, hadd]))) (by repeat (first | exact BxW.nil | refine BxW.upd ?_ (by simp (config := zd) [hfo, hpc, e1, e3, hadd])))
           · rw [hdrop]
             refine RunN.evalH ?_
             simp
             refine hQ.h _ _ ?_
             clear hQ hA
             clear e1 hdrop
             repeat' (first | apply WK.n | (apply hQ.h; clear hQ hA) | (refine WK.R Tryz.ntmps150 ?_; intro A hA Q hQ; simp [*]))
             refine WK.N (fun n => if n = 2 then 903 else n) (IHz ((i + 1, 0, [])) (⟨by simp only; omega, rfl, rfl⟩) (by first | omega | (dsimp only; omega))) (by repeat (first | exact TmW.nil | refine TmW.upd ?_ (by simp (config := zd) [hfo, hpc, e2, e3, hadd]))) (by repeat (first | exact BxW.nil | refine BxW.upd ?_ (by simp (config := zd) [hfo, hpc, e2, e3, hadd])))
     · have hiN' : i = N.length := by omega
       have h1' : ¬ (i : Int) < N.length := by omega
       subst hiN'
       rw [List.take_length]
       obtain ⟨S1, T1, hF⟩ : ∃ S1 T1, N.foldl (bStep l) (s, t) = (S1, T1) := ⟨_, _, rfl⟩
       obtain ⟨hnx1, hnx2⟩ := hnx pre hpc hF
       rw [hpre] at hnx1
       rw [hF]
       clear hnx hin IHz hpl hn
       repeat' (first | apply WK.s | apply WK.n | refine WK.exit rfl ?_ | refine WK.cF rfl ?_ | (apply hQ.h; clear hQ hA) | (refine WK.R Tryz.ntmps150 ?_; intro A hA Q hQ; simp [*]))
       refine WK.N (fun n => n) (IH ((off, pre, T1, S1)) (hnx1) (by first | omega | (dsimp only; omega))) (by repeat (first | exact TmW.nil | refine TmW.upd ?_ (by simp (config := zd) [hpc]))) (by repeat (first | exact BxW.nil | refine BxW.upd ?_ (by simp (config := zd) [hpc])))

theorem gSelf_none {l : List Group} {i : Nat} (h : ∀ j, j < l.length → (decide (j ∈ gComes l i) && (nth l j).id == (nth l i).id) = false) : gSelf l i = false := by
 rw [gSelf_comes, List.any_eq_false]
 intro j hj
 rw [h j (by simpa using hj)]; simp
theorem gSelf_some {l : List Group} {i j : Nat} (hj : j < l.length) (h : (decide (j ∈ gComes l i) && (nth l j).id == (nth l i).id) = true) : gSelf l i = true := by
 rw [gSelf_comes, List.any_eq_true]
 exact ⟨j, by simpa using hj, h⟩
set_option maxHeartbeats 4000000 in
theorem rgloop_c (l : List Group) (hl : l.length ≤ 1000000) (hB : ∀ g, g ∈ l → GrB g) : FnP Tryz.prog 91 [grpS l] (.bool (gLoop l)) := by
 have hc : ∀ i, i < l.length → FnP Tryz.prog 150 [grpS l, .int .i64 i] (.sl false l.length (seenB l.length (gComes l i))) := fun i hi => rcomes_c l i hi hl hB
 have ht := fun {i : Nat} => gLoop_true (l := l) (i := i)
 have hf := gLoop_false (l := l)
 obtain ⟨R, hR⟩ : ∃ R, gLoop l = R := ⟨_, rfl⟩
 rw [hR] at hf ⊢
 simp only [hR] at ht
 clear hR hB
 unfold grpS at *
 refine FnP.i Tryz.func91 rfl rfl fun G w => ?_
 repeat' (first | apply WK.s | apply WK.b | (apply hQ.h; clear hQ hA) | (refine WK.R Tryz.ntmps91 ?_; intro A hA Q hQ; simp [*]))
 refine WK.L (fun n => n) (fun i : Nat => (⟨(upd (upd J 0 (.sl false l.length (grpL l))) 3 (.int .i64 i)), B0, 0⟩ : St)) (fun i => i ≤ l.length ∧ ∀ k, k < i → gSelf l k = false) (fun i => l.length - i) (0) (by repeat (first | exact TmW.nil | refine TmW.upd ?_ (by simp (config := zd)))) (by repeat (first | exact BxW.nil | refine BxW.upd ?_ (by simp (config := zd)))) (⟨by omega, by simp⟩) (fun i hi IH => ?_)
 by_cases h1 : i < l.length
 · have h1' : (i : Int) < l.length := by omega
   have h6 : IntKind.i64.wrap ((i : Int) + 1) = i + 1 := wrap_i64 (by omega) (by omega)
   have b1 : i * 3 < l.length * 3 := by omega
   have g1 := grp_get0 l i h1
   have ht' := ht h1
   have hn := gSelf_none (l := l) (i := i)
   have hs := fun {j : Nat} => gSelf_some (l := l) (i := i) (j := j)
   have hi2 := hi.2
   have hst : gSelf l i = false → ∀ k, k < i + 1 → gSelf l k = false := fun h k hk => by
     by_cases h7 : k = i
     · subst h7; exact h
     · exact hi2 k (by omega)
   obtain ⟨q, hq⟩ : ∃ q : Nat → Bool, ∀ j, decide (j ∈ gComes l i) = q j := ⟨_, fun _ => rfl⟩
   obtain ⟨X, hxl, hX, hx, c⟩ : ∃ X : List AV, X.length = l.length ∧ ClL X = true ∧ (∀ j, j < l.length → ∀ h' : j < X.length, X[j] = .bool (q j)) ∧ FnP Tryz.prog 150 [.sl false l.length (grpL l), .int .i64 i] (.sl false l.length X) :=
     ⟨_, seenB_len _ _, seenB_cl _ _, fun j hj h' => by rw [← hq]; exact seenB_get _ _ j hj h', hc i h1⟩
   simp only [hq] at hn hs
   obtain ⟨x, hxi⟩ : ∃ x, (nth l i).id = x := ⟨_, rfl⟩
   rw [hxi] at g1
   simp only [hxi] at hn hs
   clear hxi hq hf hc hi
   repeat' (first | apply WK.s | apply WK.b | apply WK.k | refine WK.cT rfl ?_ | (apply hQ.h; clear hQ hA) | (refine WK.R Tryz.ntmps91 ?_; intro A hA Q hQ; simp [*]) | (refine RunQ.k rfl rfl rfl rfl rfl ?_ (c) ?_ ?_ <;> simp (config := zd) [*] <;> refine ⟨?_⟩))
   refine WK.L (fun n => n) (fun j : Nat => (⟨(upd (upd (upd (upd J 0 (.sl false l.length (grpL l))) 3 (.int .i64 i)) 4 (.sl false l.length X)) 5 (.int .i64 j)), B0, 0⟩ : St)) (fun j => j ≤ l.length ∧ ∀ k, k < j → (q k && (nth l k).id == x) = false) (fun j => l.length - j) (0) (by repeat (first | exact TmW.nil | refine TmW.upd ?_ (by simp (config := zd) [hX]))) (by repeat (first | exact BxW.nil | refine BxW.upd ?_ (by simp (config := zd) [hX]))) (⟨by omega, by simp⟩) (fun j hj IHj => ?_)
   by_cases h2 : j < l.length
   · have h2' : (j : Int) < l.length := by omega
     have j6 : IntKind.i64.wrap ((j : Int) + 1) = j + 1 := wrap_i64 (by omega) (by omega)
     have b2 : j * 3 < l.length * 3 := by omega
     have g2 := grp_get0 l j h2
     have xj := hx j h2
     have hs' := hs h2
     have hj2 := hj.2
     have hsj : (q j && (nth l j).id == x) = false → ∀ k, k < j + 1 → (q k && (nth l k).id == x) = false := fun h k hk => by
       by_cases h7 : k = j
       · subst h7; exact h
       · exact hj2 k (by omega)
     obtain ⟨y, hy⟩ : ∃ y, (nth l j).id = y := ⟨_, rfl⟩
     obtain ⟨b, hb⟩ : ∃ b, q j = b := ⟨_, rfl⟩
     rw [hy] at g2
     rw [hb] at xj
     rw [hb, hy] at hs' hsj
     clear hy hb hn hs hx IH c
     cases b
     · have hsj := hsj rfl
       clear hs' hst ht'
       repeat' (first | apply WK.s | apply WK.b | apply WK.n | apply WK.k | refine WK.cT rfl ?_ | refine WK.cF rfl ?_ | (refine hQ.h _ _ ?_; clear hQ hA) | (refine WK.R Tryz.ntmps91 ?_; intro A hA Q hQ; simp [*]) | (refine WK.X Tryz.ntmps91 ?_; intro A hA Q hQ; simp [*]) | (refine hQ.h _ _ _ (by decide +kernel) ?_; clear hQ hA) | (refine RunX.gd rfl (by rw [hA.h]; rfl) ?_; simp [*]))
       refine WK.N (fun n => n) (IHj (j + 1) (⟨by omega, hsj⟩) (by first | omega | (dsimp only; omega))) (by repeat (first | exact TmW.nil | refine TmW.upd ?_ (by simp (config := zd) [hX]))) (by repeat (first | exact BxW.nil | refine BxW.upd ?_ (by simp (config := zd) [hX])))
     · cases h5 : y == x
       · have hsj := hsj (by rw [h5]; rfl)
         clear hs' hst ht'
         repeat' (first | apply WK.s | apply WK.b | apply WK.n | apply WK.k | refine WK.cT rfl ?_ | refine WK.cF rfl ?_ | (refine hQ.h _ _ ?_; clear hQ hA) | (refine WK.R Tryz.ntmps91 ?_; intro A hA Q hQ; simp [*]) | (refine WK.X Tryz.ntmps91 ?_; intro A hA Q hQ; simp [*]) | (refine hQ.h _ _ _ (by decide +kernel) ?_; clear hQ hA) | (refine RunX.gd rfl (by rw [hA.h]; rfl) ?_; simp [*]))
         refine WK.N (fun n => n) (IHj (j + 1) (⟨by omega, hsj⟩) (by first | omega | (dsimp only; omega))) (by repeat (first | exact TmW.nil | refine TmW.upd ?_ (by simp (config := zd) [hX]))) (by repeat (first | exact BxW.nil | refine BxW.upd ?_ (by simp (config := zd) [hX])))
       · have e := ht' (hs' (by rw [h5]; rfl))
         subst e
         clear hs' hst ht' hsj IHj
         repeat' (first | apply WK.s | apply WK.b | apply WK.k | refine WK.cT rfl ?_ | (refine hQ.h _ _ ?_; clear hQ hA) | (refine WK.R Tryz.ntmps91 ?_; intro A hA Q hQ; simp [*]) | (refine WK.X Tryz.ntmps91 ?_; intro A hA Q hQ; simp [*]) | (refine hQ.h _ _ _ (by decide +kernel) ?_; clear hQ hA) | (refine RunX.gd rfl (by rw [hA.h]; rfl) ?_; simp [*]) | (refine WK.t Tryz.func91 ?_ ?_ <;> simp (config := zd) [Tryz.results91, *]))
   · have hs2 := hst (hn (fun k hk => hj.2 k (by omega)))
     have h2' : ¬ (j : Int) < l.length := by omega
     clear hn hs hx IHj hst
     repeat' (first | apply WK.s | apply WK.n | refine WK.exit rfl ?_ | refine WK.cF rfl ?_ | (apply hQ.h; clear hQ hA) | (refine WK.R Tryz.ntmps91 ?_; intro A hA Q hQ; simp [*]))
     refine WK.N (fun n => n) (IH (i + 1) (⟨by omega, hs2⟩) (by first | omega | (dsimp only; omega)))
 · have h1' : ¬ (i : Int) < l.length := by omega
   have e := hf (fun k hk => hi.2 k (by omega))
   subst e
   clear hf ht hc IH hi
   repeat' (first | apply WK.s | refine WK.exit rfl ?_ | refine WK.cF rfl ?_ | (apply hQ.h; clear hQ hA) | (refine WK.R Tryz.ntmps91 ?_; intro A hA Q hQ; simp [*]) | (refine WK.t Tryz.func91 ?_ ?_ <;> simp (config := zd) [Tryz.results91, *]))
theorem gOk_all {l : List Group} (h : ∀ i, i < l.length → gOk l i = true) : (List.range l.length).all (gOk l) = true := by
 rw [List.all_eq_true]
 intro i hi; exact h i (by simpa using hi)
theorem gOk_not {l : List Group} {i : Nat} (hi : i < l.length) (h : gOk l i = false) : (List.range l.length).all (gOk l) = false := by
 rw [List.all_eq_false]
 exact ⟨i, by simpa using hi, by simp [h]⟩
theorem gPlace_eq (l : List Group) (id : Int) (i : Nat) : (gPlace l id == (i : Int)) = (gAt l id == some i) := by
 rw [gPlace_at]
 cases gAt l id with
 | none => simp
 | some j =>
   rw [Bool.eq_iff_iff]
   simp
   omega
set_option maxHeartbeats 8000000 in
theorem gright_grp_c (l : List Group) (hl : l.length ≤ 1000000) (hB : ∀ g, g ∈ l → GrB g) : FnP Tryz.prog 41 [grpS l] (.bool (gRightL l)) := by
 have cl := gloop_c l hl hB
 have f1 : ∀ c, gF (some c) = [.bool true, .int .i64 c.1, .int .i64 c.2] := fun c => rfl
 have f0 : gF (none : Option (Int × Int)) = [.bool false, .int .i64 0, .int .i64 0] := rfl
 by_cases h8 : l.length ≤ 8
 case neg =>
   have e : gRightL l = false := by unfold gRightL; rw [decide_eq_false h8]; rfl
   rw [e]
   have h8' : (8 : Int) < l.length := by omega
   have h8'' : 8 < l.length := by omega
   clear hB cl
   unfold grpS
   refine FnP.i Tryz.func41 rfl rfl fun G w => ?_
   repeat' (first | apply WK.s | refine WK.cT rfl ?_ | (apply hQ.h; clear hQ hA) | (refine WK.R Tryz.ntmps41 ?_; intro A hA Q hQ; simp [*]) | (refine RunQ.g rfl (by rw [hA.h]; rfl) ?_; simp [*]) | (refine WK.t Tryz.func41 ?_ ?_ <;> simp (config := zd) [Tryz.results41, *]))
 have h8' : ¬ (8 : Int) < l.length := by omega
 have h8'' : ¬ 8 < l.length := by omega
 cases hlo : gLoop l
 case true =>
   have e : gRightL l = false := by unfold gRightL; rw [hlo]; simp
   rw [e]
   rw [hlo] at cl
   clear hB hlo
   unfold grpS at *
   refine FnP.i Tryz.func41 rfl rfl fun G w => ?_
   repeat' (first | apply WK.s | refine WK.cT rfl ?_ | (apply hQ.h; clear hQ hA) | (refine WK.R Tryz.ntmps41 ?_; intro A hA Q hQ; simp [*]) | (refine RunQ.g rfl (by rw [hA.h]; rfl) ?_; simp [*]) | (refine RunQW.k rfl rfl rfl rfl ?_ (cl) ?_ ?_ <;> simp (config := zd) [*] <;> refine ⟨?_⟩) | (refine WK.t Tryz.func41 ?_ ?_ <;> simp (config := zd) [Tryz.results41, *]))
 have e : gRightL l = (List.range l.length).all (gOk l) := by unfold gRightL; rw [hlo, decide_eq_true h8]; rfl
 rw [e]
 rw [hlo] at cl
 have ha := gOk_all (l := l)
 have hn := fun {i : Nat} => gOk_not (l := l) (i := i)
 have hth : ∀ i, i < l.length → FnP Tryz.prog 72 [grpS l, bukS (nth l i).buckets] (.bool (gThere l (nth l i).buckets)) := fun i hi => by
   have := hB _ (nth_mem hi)
   exact gthere_c l _ hl this.len this.acts
 have hck : ∀ i, i < l.length → FnP Tryz.prog 71 [.int .i64 (nth l i).kind, bukS (nth l i).buckets] (.agg (gF (gCheck (nth l i).kind (nth l i).buckets))) := fun i hi => by
   have := (hB _ (nth_mem hi)).len
   exact gcheck_c _ _ (by omega)
 have hpl : ∀ id, FnP Tryz.prog 56 [grpS l, .int .i64 id] (.int .i64 (gPlace l id)) := fun id => gplace_c l id hl
 obtain ⟨R, hR⟩ : ∃ R, (List.range l.length).all (gOk l) = R := ⟨_, rfl⟩
 rw [hR] at ha ⊢
 simp only [hR] at hn
 clear hR e hB hlo
 unfold grpS bukS at *
 refine FnP.i Tryz.func41 rfl rfl fun G w => ?_
 repeat' (first | apply WK.s | apply WK.b | apply WK.k | refine WK.cF rfl ?_ | (apply hQ.h; clear hQ hA) | (refine WK.R (id := 0) Tryz.ntmps41 ?_; intro A hA Q hQ; simp [*]) | (refine WK.R (id := 1) Tryz.ntmps41 ?_; intro A hA Q hQ; simp [*]) | (refine WK.R (id := 2) Tryz.ntmps41 ?_; intro A hA Q hQ; simp [*]) | (refine WK.R (id := 3) Tryz.ntmps41 ?_; intro A hA Q hQ; simp [*]) | (refine RunQ.g rfl (by rw [hA.h]; rfl) ?_; simp [*]) | (refine RunQW.k rfl rfl rfl rfl ?_ (cl) ?_ ?_ <;> simp (config := zd) [*] <;> refine ⟨?_⟩))
 refine WK.L (fun n => n) (fun i : Nat => (⟨(upd (upd (upd (upd J 0 (.sl false l.length (grpL l))) 12 (.sl false l.length (grpL l))) 13 (.int .i64 l.length)) 14 (.int .i64 i)), B0, 0⟩ : St)) (fun i => i ≤ l.length ∧ ∀ k, k < i → gOk l k = true) (fun i => l.length - i) (0) (by repeat (first | exact TmW.nil | refine TmW.upd ?_ (by simp (config := zd)))) (by repeat (first | exact BxW.nil | refine BxW.upd ?_ (by simp (config := zd)))) (⟨by omega, by simp⟩) (fun i hi IH => ?_)
 by_cases h1 : i < l.length
 · have h1' : (i : Int) < l.length := by omega
   have h6 : IntKind.i64.wrap ((i : Int) + 1) = i + 1 := wrap_i64 (by omega) (by omega)
   obtain ⟨h4, h3⟩ := grp_load l i h1
   have k1 := gnum_c (nth l i).id
   have k2 := hpl (nth l i).id
   have k3 := hck i h1
   have k4 := hth i h1
   have hpe := gPlace_eq l (nth l i).id i
   have hok : gOk l i = (gNum (nth l i).id && (gAt l (nth l i).id == some i && ((gCheck (nth l i).kind (nth l i).buckets).isNone && gThere l (nth l i).buckets))) := rfl
   have hno := hn h1
   have hi2 := hi.2
   have hst : gOk l i = true → ∀ k, k < i + 1 → gOk l k = true := fun h k hk => by
     by_cases h7 : k = i
     · subst h7; exact h
     · exact hi2 k (by omega)
   rw [hok] at hno hst
   obtain ⟨x, hx⟩ : ∃ x, nth l i = x := ⟨_, rfl⟩
   simp only [hx] at h4 k1 k2 k3 k4 hpe hno hst
   obtain ⟨b1, e1⟩ : ∃ b, gNum x.id = b := ⟨_, rfl⟩
   obtain ⟨b2, e2⟩ : ∃ b, (gAt l x.id == some i) = b := ⟨_, rfl⟩
   obtain ⟨b3, e3⟩ : ∃ b, gCheck x.kind x.buckets = b := ⟨_, rfl⟩
   obtain ⟨b4, e4⟩ : ∃ b, gThere l x.buckets = b := ⟨_, rfl⟩
   obtain ⟨P, eP⟩ : ∃ P, gPlace l x.id = P := ⟨_, rfl⟩
   simp only [e1, e2, e3, e4, eP] at k1 k2 k3 k4 hpe hno hst
   clear e1 e2 e3 e4 eP hok hx hn ha hpl hck hth hi
   cases b1
   · have e := hno rfl
     subst e
     clear hst IH hno k2 k3 k4
     repeat' (first | apply WK.s | apply WK.b | apply WK.k | refine WK.cT rfl ?_ | (apply hQ.h; clear hQ hA) | (refine WK.R Tryz.ntmps41 ?_; intro A hA Q hQ; simp [Group.enc, *]) | (refine RunQ.g rfl (by rw [hA.h]; rfl) ?_; simp [Group.enc, *]) | (refine RunQ.k rfl rfl rfl rfl rfl ?_ (k1) ?_ ?_ <;> simp (config := zd) [Group.enc, *] <;> refine ⟨?_⟩) | (refine WK.t Tryz.func41 ?_ ?_ <;> simp (config := zd) [Tryz.results41, Group.enc, *]))
   cases b2
   · have e := hno rfl
     subst e
     clear hst IH hno k3 k4
     repeat' (first | apply WK.s | apply WK.b | apply WK.k | refine WK.cT rfl ?_ | (apply hQ.h; clear hQ hA) | (refine WK.R Tryz.ntmps41 ?_; intro A hA Q hQ; simp [Group.enc, bne, *]) | (refine RunQ.g rfl (by rw [hA.h]; rfl) ?_; simp [Group.enc, bne, *]) | (refine RunQ.k rfl rfl rfl rfl rfl ?_ (k1) ?_ ?_ <;> simp (config := zd) [Group.enc, bne, *] <;> refine ⟨?_⟩) | (refine RunQ.k rfl rfl rfl rfl rfl ?_ (k2) ?_ ?_ <;> simp (config := zd) [Group.enc, bne, *] <;> refine ⟨?_⟩) | (refine RunQW.k rfl rfl rfl rfl ?_ (k1) ?_ ?_ <;> simp (config := zd) [Group.enc, bne, *] <;> refine ⟨?_⟩) | (refine RunQW.k rfl rfl rfl rfl ?_ (k2) ?_ ?_ <;> simp (config := zd) [Group.enc, bne, *] <;> refine ⟨?_⟩) | (refine WK.t Tryz.func41 ?_ ?_ <;> simp (config := zd) [Tryz.results41, Group.enc, bne, *]))
   cases b3 with
   | some c =>
     have e := hno rfl
     subst e
     rw [f1] at k3
     clear hst IH hno k4 f1 f0
     repeat' (first | apply WK.s | apply WK.b | apply WK.k | refine WK.cT rfl ?_ | (apply hQ.h; clear hQ hA) | (refine WK.R Tryz.ntmps41 ?_; intro A hA Q hQ; simp [Group.enc, bne, *]) | (refine RunQ.g rfl (by rw [hA.h]; rfl) ?_; simp [Group.enc, bne, *]) | (refine RunQ.k rfl rfl rfl rfl rfl ?_ (k1) ?_ ?_ <;> simp (config := zd) [Group.enc, bne, *] <;> refine ⟨?_⟩) | (refine RunQ.k rfl rfl rfl rfl rfl ?_ (k2) ?_ ?_ <;> simp (config := zd) [Group.enc, bne, *] <;> refine ⟨?_⟩) | (refine RunQ.k rfl rfl rfl rfl rfl ?_ (k3) ?_ ?_ <;> simp (config := zd) [Group.enc, bne, *] <;> refine ⟨?_⟩) | (refine RunQW.k rfl rfl rfl rfl ?_ (k1) ?_ ?_ <;> simp (config := zd) [Group.enc, bne, *] <;> refine ⟨?_⟩) | (refine RunQW.k rfl rfl rfl rfl ?_ (k2) ?_ ?_ <;> simp (config := zd) [Group.enc, bne, *] <;> refine ⟨?_⟩) | (refine RunQW.k rfl rfl rfl rfl ?_ (k3) ?_ ?_ <;> simp (config := zd) [Group.enc, bne, *] <;> refine ⟨?_⟩) | (refine WK.t Tryz.func41 ?_ ?_ <;> simp (config := zd) [Tryz.results41, Group.enc, bne, *]))
   | none =>
   rw [f0] at k3
   clear f1 f0
   cases b4
   · have e := hno rfl
     subst e
     clear hst IH hno
     repeat' (first | apply WK.s | apply WK.b | apply WK.k | refine WK.cT rfl ?_ | (apply hQ.h; clear hQ hA) | (refine WK.R Tryz.ntmps41 ?_; intro A hA Q hQ; simp [Group.enc, bne, *]) | (refine RunQ.g rfl (by rw [hA.h]; rfl) ?_; simp [Group.enc, bne, *]) | (refine RunQ.k rfl rfl rfl rfl rfl ?_ (k1) ?_ ?_ <;> simp (config := zd) [Group.enc, bne, *] <;> refine ⟨?_⟩) | (refine RunQ.k rfl rfl rfl rfl rfl ?_ (k2) ?_ ?_ <;> simp (config := zd) [Group.enc, bne, *] <;> refine ⟨?_⟩) | (refine RunQ.k rfl rfl rfl rfl rfl ?_ (k3) ?_ ?_ <;> simp (config := zd) [Group.enc, bne, *] <;> refine ⟨?_⟩) | (refine RunQ.k rfl rfl rfl rfl rfl ?_ (k4) ?_ ?_ <;> simp (config := zd) [Group.enc, bne, *] <;> refine ⟨?_⟩) | (refine RunQW.k rfl rfl rfl rfl ?_ (k1) ?_ ?_ <;> simp (config := zd) [Group.enc, bne, *] <;> refine ⟨?_⟩) | (refine RunQW.k rfl rfl rfl rfl ?_ (k2) ?_ ?_ <;> simp (config := zd) [Group.enc, bne, *] <;> refine ⟨?_⟩) | (refine RunQW.k rfl rfl rfl rfl ?_ (k3) ?_ ?_ <;> simp (config := zd) [Group.enc, bne, *] <;> refine ⟨?_⟩) | (refine RunQW.k rfl rfl rfl rfl ?_ (k4) ?_ ?_ <;> simp (config := zd) [Group.enc, bne, *] <;> refine ⟨?_⟩) | (refine WK.t Tryz.func41 ?_ ?_ <;> simp (config := zd) [Tryz.results41, Group.enc, bne, *]))
   · have hst := hst rfl
     clear hno
     repeat' (first | apply WK.s | apply WK.b | apply WK.n | apply WK.k | refine WK.cT rfl ?_ | refine WK.cF rfl ?_ | (apply hQ.h; clear hQ hA) | (refine WK.R Tryz.ntmps41 ?_; intro A hA Q hQ; simp [Group.enc, bne, *]) | (refine RunQ.g rfl (by rw [hA.h]; rfl) ?_; simp [Group.enc, bne, *]) | (refine RunQ.k rfl rfl rfl rfl rfl ?_ (k1) ?_ ?_ <;> simp (config := zd) [Group.enc, bne, *] <;> refine ⟨?_⟩) | (refine RunQ.k rfl rfl rfl rfl rfl ?_ (k2) ?_ ?_ <;> simp (config := zd) [Group.enc, bne, *] <;> refine ⟨?_⟩) | (refine RunQ.k rfl rfl rfl rfl rfl ?_ (k3) ?_ ?_ <;> simp (config := zd) [Group.enc, bne, *] <;> refine ⟨?_⟩) | (refine RunQ.k rfl rfl rfl rfl rfl ?_ (k4) ?_ ?_ <;> simp (config := zd) [Group.enc, bne, *] <;> refine ⟨?_⟩) | (refine RunQW.k rfl rfl rfl rfl ?_ (k1) ?_ ?_ <;> simp (config := zd) [Group.enc, bne, *] <;> refine ⟨?_⟩) | (refine RunQW.k rfl rfl rfl rfl ?_ (k2) ?_ ?_ <;> simp (config := zd) [Group.enc, bne, *] <;> refine ⟨?_⟩) | (refine RunQW.k rfl rfl rfl rfl ?_ (k3) ?_ ?_ <;> simp (config := zd) [Group.enc, bne, *] <;> refine ⟨?_⟩) | (refine RunQW.k rfl rfl rfl rfl ?_ (k4) ?_ ?_ <;> simp (config := zd) [Group.enc, bne, *] <;> refine ⟨?_⟩))
     refine WK.N (fun n => n) (IH (i + 1) (⟨by omega, hst⟩) (by first | omega | (dsimp only; omega)))
 · have h1' : ¬ (i : Int) < l.length := by omega
   have e := ha (fun k hk => hi.2 k (by omega))
   subst e
   clear hn ha hpl hck hth IH hi f1
   repeat' (first | apply WK.s | refine WK.exit rfl ?_ | refine WK.cF rfl ?_ | (apply hQ.h; clear hQ hA) | (refine WK.R Tryz.ntmps41 ?_; intro A hA Q hQ; simp [*]) | (refine WK.t Tryz.func41 ?_ ?_ <;> simp (config := zd) [Tryz.results41, *]))

theorem gNum_ref (id : Int) : gNum id = !(decide (id < 0) || decide (4294967040 < id)) := by
 unfold gNum
 rw [Bool.eq_iff_iff]; simp
set_option maxHeartbeats 8000000 in
set_option maxRecDepth 100000 in
theorem rgright_grp_c (l : List Group) (hl : l.length ≤ 1000000) (hB : ∀ g, g ∈ l → GrB g) : FnP Tryz.prog 49 [grpS l] (.bool (gRightL l)) := by
 have cl := rgloop_c l hl hB
 have f1 : ∀ c, gF (some c) = [.bool true, .int .i64 c.1, .int .i64 c.2] := fun c => rfl
 have f0 : gF (none : Option (Int × Int)) = [.bool false, .int .i64 0, .int .i64 0] := rfl
 have e : gRightL l = ((List.range l.length).all (gOk l) && (decide (l.length ≤ 8) && !gLoop l)) := by
   unfold gRightL
   cases decide (l.length ≤ 8) <;> cases gLoop l <;> simp
 have ha := gOk_all (l := l)
 have hn := fun {i : Nat} => gOk_not (l := l) (i := i)
 have hth : ∀ i, i < l.length → FnP Tryz.prog 90 [grpS l, bukS (nth l i).buckets] (.bool (gThere l (nth l i).buckets)) := fun i hi => by
   have := hB _ (nth_mem hi)
   exact rgthere_c l _ hl this.len this.acts
 have hck : ∀ i, i < l.length → FnP Tryz.prog 89 [.int .i64 (nth l i).kind, bukS (nth l i).buckets] (.agg (gF (gCheck (nth l i).kind (nth l i).buckets))) := fun i hi => by
   have := (hB _ (nth_mem hi)).len
   exact rgcheck_c _ _ (by omega)
 have hpl : ∀ id, FnP Tryz.prog 88 [grpS l, .int .i64 id] (.int .i64 (gPlace l id)) := fun id => rgplace_c l id hl
 rw [e]
 obtain ⟨R, hR⟩ : ∃ R, (List.range l.length).all (gOk l) = R := ⟨_, rfl⟩
 rw [hR] at ha ⊢
 simp only [hR] at hn
 clear hR e hB
 unfold grpS bukS at *
 refine FnP.i Tryz.func49 rfl rfl fun G w => ?_
 repeat' (first | apply WK.s | apply WK.b | (apply hQ.h; clear hQ hA) | (refine WK.R Tryz.ntmps49 ?_; intro A hA Q hQ; simp [*]))
 refine WK.L (fun n => n) (fun i : Nat => (⟨(upd (upd J 0 (.sl false l.length (grpL l))) 3 (.int .i64 i)), B0, 0⟩ : St)) (fun i => i ≤ l.length ∧ ∀ k, k < i → gOk l k = true) (fun i => l.length - i) (0) (by repeat (first | exact TmW.nil | refine TmW.upd ?_ (by simp (config := zd)))) (by repeat (first | exact BxW.nil | refine BxW.upd ?_ (by simp (config := zd)))) (⟨by omega, by simp⟩) (fun i hi IH => ?_)
 by_cases h1 : i < l.length
 · have h1' : (i : Int) < l.length := by omega
   have h6 : IntKind.i64.wrap ((i : Int) + 1) = i + 1 := wrap_i64 (by omega) (by omega)
   have q0 := grp_get0 l i h1
   have uq1 := fun h' => grp_get l i 1 h1 (by omega) h'
   have uq2 := fun h' => grp_get l i 2 h1 (by omega) h'
   have r0 : i * 3 < l.length * 3 := by omega
   have r1 : i * 3 + 1 < l.length * 3 := by omega
   have r2 : i * 3 + 2 < l.length * 3 := by omega
   have k2 := hpl (nth l i).id
   have k3 := hck i h1
   have k4 := hth i h1
   have hpe := gPlace_eq l (nth l i).id i
   have hok : gOk l i = (gNum (nth l i).id && (gAt l (nth l i).id == some i && ((gCheck (nth l i).kind (nth l i).buckets).isNone && gThere l (nth l i).buckets))) := rfl
   have hno := hn h1
   have hi2 := hi.2
   have hst : gOk l i = true → ∀ k, k < i + 1 → gOk l k = true := fun h k hk => by
     by_cases h7 : k = i
     · subst h7; exact h
     · exact hi2 k (by omega)
   rw [hok] at hno hst
   obtain ⟨x, hx⟩ : ∃ x, nth l i = x := ⟨_, rfl⟩
   have q1 : ∀ h', (grpL l)[i * 3 + 1]'h' = .int .i64 x.kind := fun h' => by rw [uq1 h']; simp only [hx]; rfl
   have q2 : ∀ h', (grpL l)[i * 3 + 2]'h' = .sl false x.buckets.length (bukL x.buckets) := fun h' => by rw [uq2 h']; simp only [hx]; rfl
   simp only [hx] at q0 k2 k3 k4 hpe hno hst
   have hnum := gNum_ref x.id
   obtain ⟨b1, e1⟩ : ∃ b, gNum x.id = b := ⟨_, rfl⟩
   obtain ⟨b2, e2⟩ : ∃ b, (gAt l x.id == some i) = b := ⟨_, rfl⟩
   obtain ⟨b3, e3⟩ : ∃ b, gCheck x.kind x.buckets = b := ⟨_, rfl⟩
   obtain ⟨b4, e4⟩ : ∃ b, gThere l x.buckets = b := ⟨_, rfl⟩
   obtain ⟨P, eP⟩ : ∃ P, gPlace l x.id = P := ⟨_, rfl⟩
   simp only [e1, e2, e3, e4, eP] at k2 k3 k4 hpe hno hst hnum
   clear e1 e2 e3 e4 eP hok uq1 uq2 hx hn ha hpl hck hth hi
   cases b1
   · have e := hno rfl
     subst e
     have hnm : x.id < 0 ∨ (¬ x.id < 0 ∧ 4294967040 < x.id) := by
       by_cases g : x.id < 0
       · exact .inl g
       · exact .inr ⟨g, by simpa [g] using hnum⟩
     clear hst IH hno k2 k3 k4 f1 f0 hnum
     rcases hnm with g | ⟨g, g'⟩
     · repeat' (first | apply WK.s | apply WK.b | apply WK.k | refine WK.cT rfl ?_ | (refine hQ.h _ _ ?_; clear hQ hA) | (refine WK.R Tryz.ntmps49 ?_; intro A hA Q hQ; simp [*]) | (refine WK.X Tryz.ntmps49 ?_; intro A hA Q hQ; simp [*]) | (refine hQ.h _ _ _ (by decide +kernel) ?_; clear hQ hA) | (refine RunX.gd rfl (by rw [hA.h]; rfl) ?_; simp [*]) | (refine WK.t Tryz.func49 ?_ ?_ <;> simp (config := zd) [Tryz.results49, *]))
     · repeat' (first | apply WK.s | apply WK.b | apply WK.k | refine WK.cT rfl ?_ | (refine hQ.h _ _ ?_; clear hQ hA) | (refine WK.R Tryz.ntmps49 ?_; intro A hA Q hQ; simp [*]) | (refine WK.X Tryz.ntmps49 ?_; intro A hA Q hQ; simp [*]) | (refine hQ.h _ _ _ (by decide +kernel) ?_; clear hQ hA) | (refine RunX.gd rfl (by rw [hA.h]; rfl) ?_; simp [*]) | (refine WK.t Tryz.func49 ?_ ?_ <;> simp (config := zd) [Tryz.results49, *]))
   have g : ¬ x.id < 0 := fun g => by simp [g] at hnum
   have g' : ¬ 4294967040 < x.id := fun g => by simp [g] at hnum
   clear hnum
   cases b2
   · have e := hno rfl
     subst e
     clear hst IH hno k3 k4 f1 f0
     repeat' (first | apply WK.s | apply WK.b | apply WK.k | refine WK.cT rfl ?_ | (refine hQ.h _ _ ?_; clear hQ hA) | (refine WK.R Tryz.ntmps49 ?_; intro A hA Q hQ; simp [bne, *]) | (refine WK.X Tryz.ntmps49 ?_; intro A hA Q hQ; simp [bne, *]) | (refine hQ.h _ _ _ (by decide +kernel) ?_; clear hQ hA) | (refine RunX.gd rfl (by rw [hA.h]; rfl) ?_; simp [bne, *]) | (refine RunXW.call rfl rfl rfl ?_ (k2) ?_ ?_; (focus simp (config := zd) [bne, *]; done); (focus simp [bne, *]; done); refine RunX.e ?_; simp [bne, *]) | (refine WK.t Tryz.func49 ?_ ?_ <;> simp (config := zd) [Tryz.results49, bne, *]))
   cases b3 with
   | some c =>
     have e := hno rfl
     subst e
     rw [f1] at k3
     clear hst IH hno k4 f1 f0
     repeat' (first | apply WK.s | apply WK.b | apply WK.k | refine WK.cT rfl ?_ | (refine hQ.h _ _ ?_; clear hQ hA) | (refine WK.R Tryz.ntmps49 ?_; intro A hA Q hQ; simp [bne, *]) | (refine WK.X Tryz.ntmps49 ?_; intro A hA Q hQ; simp [bne, *]) | (refine hQ.h _ _ _ (by decide +kernel) ?_; clear hQ hA) | (refine RunX.gd rfl (by rw [hA.h]; rfl) ?_; simp [bne, *]) | (refine RunXW.call rfl rfl rfl ?_ (k2) ?_ ?_; (focus simp (config := zd) [bne, *]; done); (focus simp [bne, *]; done); refine RunX.e ?_; simp [bne, *]) | (refine RunXW.call rfl rfl rfl ?_ (k3) ?_ ?_; (focus simp (config := zd) [bne, *]; done); (focus simp [bne, *]; done); refine RunX.e ?_; simp [bne, *]) | (refine WK.t Tryz.func49 ?_ ?_ <;> simp (config := zd) [Tryz.results49, bne, *]))
   | none =>
   rw [f0] at k3
   clear f1 f0
   cases b4
   · have e := hno rfl
     subst e
     clear hst IH hno
     repeat' (first | apply WK.s | apply WK.b | apply WK.k | refine WK.cT rfl ?_ | (refine hQ.h _ _ ?_; clear hQ hA) | (refine WK.R Tryz.ntmps49 ?_; intro A hA Q hQ; simp [bne, *]) | (refine WK.X Tryz.ntmps49 ?_; intro A hA Q hQ; simp [bne, *]) | (refine hQ.h _ _ _ (by decide +kernel) ?_; clear hQ hA) | (refine RunX.gd rfl (by rw [hA.h]; rfl) ?_; simp [bne, *]) | (refine RunXW.call rfl rfl rfl ?_ (k2) ?_ ?_; (focus simp (config := zd) [bne, *]; done); (focus simp [bne, *]; done); refine RunX.e ?_; simp [bne, *]) | (refine RunXW.call rfl rfl rfl ?_ (k3) ?_ ?_; (focus simp (config := zd) [bne, *]; done); (focus simp [bne, *]; done); refine RunX.e ?_; simp [bne, *]) | (refine RunXW.call rfl rfl rfl ?_ (k4) ?_ ?_; (focus simp (config := zd) [bne, *]; done); (focus simp [bne, *]; done); refine RunX.e ?_; simp [bne, *]) | (refine WK.t Tryz.func49 ?_ ?_ <;> simp (config := zd) [Tryz.results49, bne, *]))
   · have hst := hst rfl
     clear hno
     repeat' (first | apply WK.s | apply WK.b | apply WK.n | apply WK.k | refine WK.cT rfl ?_ | refine WK.cF rfl ?_ | (refine hQ.h _ _ ?_; clear hQ hA) | (refine WK.R Tryz.ntmps49 ?_; intro A hA Q hQ; simp [bne, *]) | (refine WK.X Tryz.ntmps49 ?_; intro A hA Q hQ; simp [bne, *]) | (refine hQ.h _ _ _ (by decide +kernel) ?_; clear hQ hA) | (refine RunX.gd rfl (by rw [hA.h]; rfl) ?_; simp [bne, *]) | (refine RunXW.call rfl rfl rfl ?_ (k2) ?_ ?_; (focus simp (config := zd) [bne, *]; done); (focus simp [bne, *]; done); refine RunX.e ?_; simp [bne, *]) | (refine RunXW.call rfl rfl rfl ?_ (k3) ?_ ?_; (focus simp (config := zd) [bne, *]; done); (focus simp [bne, *]; done); refine RunX.e ?_; simp [bne, *]) | (refine RunXW.call rfl rfl rfl ?_ (k4) ?_ ?_; (focus simp (config := zd) [bne, *]; done); (focus simp [bne, *]; done); refine RunX.e ?_; simp [bne, *]))
     refine WK.N (fun n => n) (IH (i + 1) (⟨by omega, hst⟩) (by first | omega | (dsimp only; omega)))
 · have h1' : ¬ (i : Int) < l.length := by omega
   have e := ha (fun k hk => hi.2 k (by omega))
   subst e
   obtain ⟨L, hL⟩ : ∃ L, gLoop l = L := ⟨_, rfl⟩
   rw [hL] at cl ⊢
   clear hn ha hpl hck hth IH hi f1 hL
   by_cases h8 : l.length ≤ 8
   · have h8' : (l.length : Int) ≤ 8 := by omega
     rw [decide_eq_true h8]
     repeat' (first | apply WK.s | refine WK.exit rfl ?_ | refine WK.cF rfl ?_ | (apply hQ.h; clear hQ hA) | (refine WK.R Tryz.ntmps49 ?_; intro A hA Q hQ; simp [*]) | (refine RunQ.g rfl (by rw [hA.h]; rfl) ?_; simp [*]) | (refine RunQW.k rfl rfl rfl rfl ?_ (cl) ?_ ?_ <;> simp (config := zd) [*] <;> refine ⟨?_⟩) | (refine WK.t Tryz.func49 ?_ ?_ <;> simp (config := zd) [Tryz.results49, *]))
   · have h8' : ¬ (l.length : Int) ≤ 8 := by omega
     rw [decide_eq_false h8]
     clear cl
     repeat' (first | apply WK.s | refine WK.exit rfl ?_ | refine WK.cF rfl ?_ | (apply hQ.h; clear hQ hA) | (refine WK.R Tryz.ntmps49 ?_; intro A hA Q hQ; simp [*]) | (refine RunQ.g rfl (by rw [hA.h]; rfl) ?_; simp [*]) | (refine WK.t Tryz.func49 ?_ ?_ <;> simp (config := zd) [Tryz.results49, *]))
set_option maxHeartbeats 4000000 in
theorem rgsameL_c (a b : List Group) (hl : a.length ≤ 1000000) (ha : ∀ g, g ∈ a → GrB g) : FnP Tryz.prog 11 [grpS a, grpS b] (.bool (eqBy Group.same a b)) := by
 unfold grpS
 by_cases h : a.length = b.length
 case neg =>
   have h' : ((a.length : Int) == b.length) = false := by rw [beq_eq_false_iff_ne]; omega
   have e : eqBy Group.same a b = false := by unfold eqBy; rw [beq_eq_false_iff_ne.2 h]; rfl
   rw [e]
   refine FnP.i Tryz.func11 rfl rfl fun G w => ?_
   repeat' (first | apply WK.s | refine WK.cT rfl ?_ | (apply hQ.h; clear hQ hA) | (refine WK.R Tryz.ntmps11 ?_; intro A hA Q hQ; simp [bne, *]) | (refine WK.t Tryz.func11 ?_ ?_ <;> simp (config := zd) [Tryz.results11, bne, *]))
 have h' : ((a.length : Int) == b.length) = true := by rw [beq_iff_eq]; omega
 have et : (∀ i, i < a.length → Group.same (nth a i) (nth b i) = true) → eqBy Group.same a b = true := fun hh => by
   unfold eqBy; rw [all_range_true (p := fun i => Group.same (nth a i) (nth b i)) hh]; simp [h]
 have ef : ∀ i, i < a.length → Group.same (nth a i) (nth b i) = false → eqBy Group.same a b = false := fun i hi hh => by
   unfold eqBy; rw [all_range_false (p := fun i => Group.same (nth a i) (nth b i)) hi hh]; simp
 have hb : ∀ i, i < a.length → FnP Tryz.prog 31 [bukS (nth a i).buckets, bukS (nth b i).buckets] (.bool (eqBy Bucket.same (nth a i).buckets (nth b i).buckets)) := fun i hi => by
   have := ha _ (nth_mem hi)
   exact rbsameL_c _ _ (by have := this.len; omega) this.acts
 obtain ⟨R, hR⟩ : ∃ R, eqBy Group.same a b = R := ⟨_, rfl⟩
 rw [hR] at et ⊢
 simp only [hR] at ef
 have hle : a.length ≤ b.length := by omega
 clear hR ha h
 unfold bukS at hb
 refine FnP.i Tryz.func11 rfl rfl fun G w => ?_
 repeat' (first | apply WK.s | apply WK.b | apply WK.k | refine WK.cF rfl ?_ | (apply hQ.h; clear hQ hA) | (refine WK.R Tryz.ntmps11 ?_; intro A hA Q hQ; simp [bne, *]))
 refine WK.L (fun n => n) (fun i : Nat => (⟨(upd (upd (upd J 0 (.sl false a.length (grpL a))) 1 (.sl false b.length (grpL b))) 5 (.int .i64 i)), B0, 0⟩ : St)) (fun i => i ≤ a.length ∧ ∀ k, k < i → Group.same (nth a k) (nth b k) = true) (fun i => a.length - i) (0) (by repeat (first | exact TmW.nil | refine TmW.upd ?_ (by simp (config := zd)))) (by repeat (first | exact BxW.nil | refine BxW.upd ?_ (by simp (config := zd)))) (⟨by omega, by simp⟩) (fun i hi IH => ?_)
 by_cases h1 : i < a.length
 · have h1' : (i : Int) < a.length := by omega
   have h2 : i < b.length := by omega
   have h2' : (i : Int) < b.length := by omega
   have h6 : IntKind.i64.wrap ((i : Int) + 1) = i + 1 := wrap_i64 (by omega) (by omega)
   have c := hb i h1
   have e0 := ef i h1
   have hi2 := hi.2
   have hst : Group.same (nth a i) (nth b i) = true → ∀ k, k < i + 1 → Group.same (nth a k) (nth b k) = true := fun h k hk => by
     by_cases h7 : k = i
     · subst h7; exact h
     · exact hi2 k (by omega)
   have ho : Group.same (nth a i) (nth b i) = ((nth a i).id == (nth b i).id && ((nth a i).kind == (nth b i).kind && eqBy Bucket.same (nth a i).buckets (nth b i).buckets)) := rfl
   rw [ho] at e0 hst
   have q0 := grp_get0 a i h1
   have uq1 := fun h' => grp_get a i 1 h1 (by omega) h'
   have uq2 := fun h' => grp_get a i 2 h1 (by omega) h'
   have p0 := grp_get0 b i h2
   have up1 := fun h' => grp_get b i 1 h2 (by omega) h'
   have up2 := fun h' => grp_get b i 2 h2 (by omega) h'
   have r0 : i * 3 < a.length * 3 := by omega
   have r1 : i * 3 + 1 < a.length * 3 := by omega
   have r2 : i * 3 + 2 < a.length * 3 := by omega
   have s0 : i * 3 < b.length * 3 := by omega
   have s1 : i * 3 + 1 < b.length * 3 := by omega
   have s2 : i * 3 + 2 < b.length * 3 := by omega
   obtain ⟨x, hx⟩ : ∃ x, nth a i = x := ⟨_, rfl⟩
   obtain ⟨y, hy⟩ : ∃ y, nth b i = y := ⟨_, rfl⟩
   have q1 : ∀ h', (grpL a)[i * 3 + 1]'h' = .int .i64 x.kind := fun h' => by rw [uq1 h']; simp only [hx]; rfl
   have q2 : ∀ h', (grpL a)[i * 3 + 2]'h' = .sl false x.buckets.length (bukL x.buckets) := fun h' => by rw [uq2 h']; simp only [hx]; rfl
   have p1 : ∀ h', (grpL b)[i * 3 + 1]'h' = .int .i64 y.kind := fun h' => by rw [up1 h']; simp only [hy]; rfl
   have p2 : ∀ h', (grpL b)[i * 3 + 2]'h' = .sl false y.buckets.length (bukL y.buckets) := fun h' => by rw [up2 h']; simp only [hy]; rfl
   simp only [hx, hy] at q0 p0 c e0 hst
   obtain ⟨B, hB⟩ : ∃ B, eqBy Bucket.same x.buckets y.buckets = B := ⟨_, rfl⟩
   rw [hB] at c e0 hst
   clear uq1 uq2 up1 up2 hx hy hB ho hb et ef hi
   cases k1 : (x.id == y.id)
   · have e := e0 (by rw [k1]; rfl)
     subst e
     clear hst e0 IH c
     repeat' (first | apply WK.s | apply WK.b | apply WK.k | refine WK.cT rfl ?_ | (refine hQ.h _ _ ?_; clear hQ hA) | (refine WK.R Tryz.ntmps11 ?_; intro A hA Q hQ; simp [bne, *]) | (refine WK.X Tryz.ntmps11 ?_; intro A hA Q hQ; simp [bne, *]) | (refine hQ.h _ _ _ (by decide +kernel) ?_; clear hQ hA) | (refine RunX.gd rfl (by rw [hA.h]; rfl) ?_; simp [bne, *]) | (refine WK.t Tryz.func11 ?_ ?_ <;> simp (config := zd) [Tryz.results11, bne, *]))
   cases k2 : (x.kind == y.kind)
   · have e := e0 (by rw [k1, k2]; rfl)
     subst e
     clear hst e0 IH c
     repeat' (first | apply WK.s | apply WK.b | apply WK.k | refine WK.cT rfl ?_ | (refine hQ.h _ _ ?_; clear hQ hA) | (refine WK.R Tryz.ntmps11 ?_; intro A hA Q hQ; simp [bne, *]) | (refine WK.X Tryz.ntmps11 ?_; intro A hA Q hQ; simp [bne, *]) | (refine hQ.h _ _ _ (by decide +kernel) ?_; clear hQ hA) | (refine RunX.gd rfl (by rw [hA.h]; rfl) ?_; simp [bne, *]) | (refine WK.t Tryz.func11 ?_ ?_ <;> simp (config := zd) [Tryz.results11, bne, *]))
   cases B
   · have e := e0 (by rw [k1, k2]; rfl)
     subst e
     clear hst e0 IH
     repeat' (first | apply WK.s | apply WK.b | apply WK.k | refine WK.cT rfl ?_ | (refine hQ.h _ _ ?_; clear hQ hA) | (refine WK.R Tryz.ntmps11 ?_; intro A hA Q hQ; simp [bne, *]) | (refine WK.X Tryz.ntmps11 ?_; intro A hA Q hQ; simp [bne, *]) | (refine hQ.h _ _ _ (by decide +kernel) ?_; clear hQ hA) | (refine RunX.gd rfl (by rw [hA.h]; rfl) ?_; simp [bne, *]) | (refine RunXW.call rfl rfl rfl ?_ (c) ?_ ?_; (focus simp (config := zd) [bne, *]; done); (focus simp [bne, *]; done); refine RunX.e ?_; simp [bne, *]) | (refine WK.t Tryz.func11 ?_ ?_ <;> simp (config := zd) [Tryz.results11, bne, *]))
   · have hst := hst (by rw [k1, k2]; rfl)
     clear e0
     repeat' (first | apply WK.s | apply WK.b | apply WK.n | apply WK.k | refine WK.cT rfl ?_ | refine WK.cF rfl ?_ | (refine hQ.h _ _ ?_; clear hQ hA) | (refine WK.R Tryz.ntmps11 ?_; intro A hA Q hQ; simp [bne, *]) | (refine WK.X Tryz.ntmps11 ?_; intro A hA Q hQ; simp [bne, *]) | (refine hQ.h _ _ _ (by decide +kernel) ?_; clear hQ hA) | (refine RunX.gd rfl (by rw [hA.h]; rfl) ?_; simp [bne, *]) | (refine RunXW.call rfl rfl rfl ?_ (c) ?_ ?_; (focus simp (config := zd) [bne, *]; done); (focus simp [bne, *]; done); refine RunX.e ?_; simp [bne, *]))
     refine WK.N (fun n => n) (IH (i + 1) (⟨by omega, hst⟩) (by first | omega | (dsimp only; omega)))
 · have h1' : ¬ (i : Int) < a.length := by omega
   have e := et (fun k hk => hi.2 k (by omega))
   subst e
   clear hb et ef IH hi
   repeat' (first | apply WK.s | refine WK.exit rfl ?_ | refine WK.cF rfl ?_ | (apply hQ.h; clear hQ hA) | (refine WK.R Tryz.ntmps11 ?_; intro A hA Q hQ; simp [*]) | (refine WK.t Tryz.func11 ?_ ?_ <;> simp (config := zd) [Tryz.results11, *]))

structure FlB (f : Flow) : Prop where
 mat : f.mat.length ≤ 10000
 insts : f.insts.length ≤ 100
 acts : ∀ x, x ∈ f.insts → x.acts.length ≤ 10000
theorem FlB.pl {f : Flow} (h : FlB f) : FPl f := by
 have h1 := h.mat
 have h2 := h.insts
 have h3 := allI_len (g := id) (fun l => Nat.le_refl _) 10000 f.insts h.acts
 have h4 : f.insts.length * 10000 ≤ 100 * 10000 := Nat.mul_le_mul_right _ h2
 exact ⟨⟨by omega, ⟨by omega, fun x hx => by have := h.acts x hx; omega⟩⟩, by omega⟩
theorem FlB.mod {f : Flow} (h : FlB f) (t : Int) : FmB (stMod f t) := ⟨h.mat, h.insts, fun x hx => by have := h.acts x hx; omega⟩
theorem FlB.plain {f : Flow} (h : Flow.plain f = true) : FlB f := by
 unfold Flow.plain instsPlain at h
 simp only [Bool.and_eq_true, decide_eq_true_eq, List.all_eq_true, actsPlain] at h
 obtain ⟨h1, h2, h3⟩ := h
 exact ⟨by omega, by omega, fun x hx => by have := h3 x hx; omega⟩
set_option maxHeartbeats 4000000 in
set_option maxRecDepth 100000 in
theorem stmod_c (f : Flow) (t : Int) (hf : FOk f) : FnP Tryz.prog 45 [.agg f.enc, .int .i64 t] (.agg (stMod f t).enc) := by
 obtain ⟨ck, pr, idl, hd, fl, ma, ins⟩ := f
 have c : FnP Tryz.prog 80 [.agg [.int .u64 (uI ck), .int .u64 0, .int .i64 0, .int .i64 0, .int .i64 idl, .int .i64 hd, .int .i64 pr, .int .i64 0, .int .i64 0, .int .i64 0, .int .i64 fl, .sl false ma.length (oxmL ma), .sl false ins.length (instL ins)]]
     (.agg (Flow.enc ⟨ck, pr, idl, hd, fl, ma, ins⟩)) := of2_c ⟨ck, 0#64, 0, 0, idl, hd, pr, 0, 0, 0, fl, ma, ins⟩ hf
 have e : (stMod ⟨ck, pr, idl, hd, fl, ma, ins⟩ t).enc = [.int .u64 (uI ck), .int .u64 0, .int .i64 t, .int .i64 0, .int .i64 idl, .int .i64 hd, .int .i64 pr, .int .i64 4294967295, .int .i64 4294967295, .int .i64 4294967295, .int .i64 fl, .sl false ma.length (oxmL ma), .sl false ins.length (instL ins)] := rfl
 have e2 : Flow.enc ⟨ck, pr, idl, hd, fl, ma, ins⟩ = [.int .u64 (uI ck), .int .i64 pr, .int .i64 idl, .int .i64 hd, .int .i64 fl, .sl false ma.length (oxmL ma), .sl false ins.length (instL ins)] := rfl
 rw [e]
 rw [e2] at c ⊢
 clear hf e e2
 refine FnP.i Tryz.func45 rfl rfl fun G w => ?_
 repeat' (first | apply WK.s | (refine hQ.h _ _ ?_; clear hQ hA) | (refine WK.R Tryz.ntmps45 ?_; intro A hA Q hQ; simp [*]) | (refine WK.X Tryz.ntmps45 ?_; intro A hA Q hQ; simp [*]) | (refine hQ.h _ _ _ (by decide +kernel) ?_; clear hQ hA) | (refine RunQ.k rfl rfl rfl rfl rfl ?_ (c) ?_ ?_ <;> simp (config := zd) [*] <;> refine ⟨?_⟩) | (refine WK.t Tryz.func45 ?_ ?_ <;> simp (config := zd) [Tryz.results45, *]))
theorem rstmod_c (f : Flow) (t : Int) : FnP Tryz.prog 53 [.agg f.enc, .int .i64 t] (.agg (stMod f t).enc) := by
 obtain ⟨ck, pr, idl, hd, fl, ma, ins⟩ := f
 have e : (stMod ⟨ck, pr, idl, hd, fl, ma, ins⟩ t).enc = [.int .u64 (uI ck), .int .u64 0, .int .i64 t, .int .i64 0, .int .i64 idl, .int .i64 hd, .int .i64 pr, .int .i64 4294967295, .int .i64 4294967295, .int .i64 4294967295, .int .i64 fl, .sl false ma.length (oxmL ma), .sl false ins.length (instL ins)] := rfl
 have e2 : Flow.enc ⟨ck, pr, idl, hd, fl, ma, ins⟩ = [.int .u64 (uI ck), .int .i64 pr, .int .i64 idl, .int .i64 hd, .int .i64 fl, .sl false ma.length (oxmL ma), .sl false ins.length (instL ins)] := rfl
 rw [e, e2]
 clear e e2
 refine FnP.i Tryz.func53 rfl rfl fun G w => ?_
 repeat' (first | apply WK.s | (apply hQ.h; clear hQ hA) | (refine WK.R Tryz.ntmps53 ?_; intro A hA Q hQ; simp [*]) | (refine WK.t Tryz.func53 ?_ ?_ <;> simp (config := zd) [Tryz.results53, *]))
theorem rgfind_c (l : List Group) (id : Int) (hl : l.length ≤ 1000000) : FnP Tryz.prog 102 [grpS l, .int .i64 id] (.tup [.agg (gFind l id).1.enc, .bool (gFind l id).2]) := by
 have p := rgplace_c l id hl
 have hat := gPlace_at l id
 unfold gFind
 cases hg : gAt l id with
 | none =>
   rw [hg] at hat
   simp only at hat
   rw [hat] at p
   have e0 : gr0.enc = [.int .i64 0, .int .i64 0, .sl false 0 []] := rfl
   simp only [e0]
   unfold grpS at *
   clear hat hg
   refine FnP.i Tryz.func102 rfl rfl fun G w => ?_
   repeat' (first | apply WK.s | apply WK.k | refine WK.cF rfl ?_ | (apply hQ.h; clear hQ hA) | (refine WK.R Tryz.ntmps102 ?_; intro A hA Q hQ; simp [*]) | (refine RunQ.k rfl rfl rfl rfl rfl ?_ (p) ?_ ?_ <;> simp (config := zd) [*] <;> refine ⟨?_⟩) | (refine WK.t Tryz.func102 ?_ ?_ <;> simp (config := zd) [Tryz.results102, *]))
 | some i =>
   rw [hg] at hat
   simp only at hat
   rw [hat] at p
   obtain ⟨h1, _⟩ := gAt_small hg
   have h1' : (i : Int) < l.length := by omega
   obtain ⟨h4, h3⟩ := grp_load l i h1
   obtain ⟨x, hx⟩ : ∃ x, nth l i = x := ⟨_, rfl⟩
   rw [hx] at h4
   simp only [hx]
   unfold grpS at *
   unfold Group.enc at *
   clear hat hg hx
   refine FnP.i Tryz.func102 rfl rfl fun G w => ?_
   repeat' (first | apply WK.s | refine WK.cT rfl ?_ | (apply hQ.h; clear hQ hA) | (refine WK.R Tryz.ntmps102 ?_; intro A hA Q hQ; simp [*]) | (refine RunQ.k rfl rfl rfl rfl rfl ?_ (p) ?_ ?_ <;> simp (config := zd) [*] <;> refine ⟨?_⟩) | (refine WK.t Tryz.func102 ?_ ?_ <;> simp (config := zd) [Tryz.results102, *]))
theorem gFind_some (l : List Group) (id : Int) : (gFind l id).2 = (gAt l id).isSome := by
 unfold gFind
 cases gAt l id <;> rfl
theorem gone1_c (l : List Group) (id : Int) (hl : l.length ≤ 1000000) (hB : ∀ g, g ∈ l → GrB g) : FnP Tryz.prog 141 [.int .i64 id, .iptr [grpS l]] (.bool (!(gAt l id).isSome)) := by
 have c := gfind_c l id hl hB
 have e := gFind_some l id
 obtain ⟨⟨g, b⟩, hg⟩ : ∃ p, gFind l id = p := ⟨_, rfl⟩
 rw [hg] at c e
 simp only at c e
 rw [← e]
 unfold grpS Group.enc at *
 clear hg e hB
 refine FnP.i Tryz.func141 rfl rfl fun G w => ?_
 repeat' (first | apply WK.s | (apply hQ.h; clear hQ hA) | (refine WK.R Tryz.ntmps141 ?_; intro A hA Q hQ; simp [*]) | (refine RunQ.k rfl rfl rfl rfl rfl ?_ (c) ?_ ?_ <;> simp (config := zd) [*] <;> refine ⟨?_⟩) | (refine WK.t Tryz.func141 ?_ ?_ <;> simp (config := zd) [Tryz.results141, *]))
theorem gone_c (l : List Group) (ids : List Int) (hl : l.length ≤ 1000000) (hB : ∀ g, g ∈ l → GrB g) (hi : ids.length ≤ 1000000000) : FnP Tryz.prog 82 [grpS l, intS ids] (.bool (stGone l ids)) := by
 have c := containsf_int 141 [.iptr [grpS l]] (fun id => !(gAt l id).isSome) ids (by simp) hi (fun x _ => gone1_c l x hl hB)
 unfold stGone
 obtain ⟨T, hT⟩ : ∃ T, (ids.any fun id => !(gAt l id).isSome) = T := ⟨_, rfl⟩
 rw [hT] at c ⊢
 unfold grpS intS at *
 clear hT hB
 refine FnP.i Tryz.func82 rfl rfl fun G w => ?_
 repeat apply WK.s
 refine WK.G 100 Tryz.ntmps82 ?_
 intro A hA Q hQ
 simp
 apply hQ
 clear hQ hA
 repeat apply WK.s
 refine WK.ghost (Ghost.frzVar 2 rfl rfl) ?_
 repeat' (first | (apply hQ.h; clear hQ hA) | (refine WK.R Tryz.ntmps82 ?_; intro A hA Q hQ; simp [*]) | (refine RunQ.k rfl rfl rfl rfl rfl ?_ (c) ?_ ?_ <;> simp (config := zd) [*] <;> refine ⟨?_⟩) | (refine WK.t Tryz.func82 ?_ ?_ <;> simp (config := zd) [Tryz.results82, *]))
theorem stbad_c (k c : Int) : FnP Tryz.prog 81 [.int .i64 k, .int .i64 c] (.iface 172 (.agg [.bool true, .int .i64 k, .int .i64 c])) := by
 refine FnP.i Tryz.func81 rfl rfl fun G w => ?_
 repeat' (first | apply WK.s | (apply hQ.h; clear hQ hA) | (refine WK.R Tryz.ntmps81 ?_; intro A hA Q hQ; simp [*]) | (refine RunQ.mkI (by kernel_rfl) rfl rfl rfl ?_; refine RunQ.evalH ?_; simp [*]) | (refine WK.t Tryz.func81 ?_ ?_ <;> simp (config := zd) [Tryz.results81, *]))
def stErr (f : Option (Int × Int)) : AV := match f with | none => .niface | some c => .iface 172 (.agg [.bool true, .int .i64 c.1, .int .i64 c.2])

structure SwB (s : Switch) : Prop where
 flows : ∀ t, (s.tab t).length ≤ 100000
 fl : ∀ t f, f ∈ s.tab t → FlB f
 groups : s.groups.length ≤ 1000000
 gr : ∀ g, g ∈ s.groups → GrB g
theorem stOne_one {gs : List Group} {t : Int} {i : Inst} (h : i.kind = 1) : stOne gs t i = if i.table ≤ t ∨ 4 ≤ i.table then some (3, 2) else none := by
 unfold stOne
 have h3 : ¬ (i.kind = 3 ∨ i.kind = 4) := by omega
 simp [h]
theorem stOne_acts {gs : List Group} {t : Int} {i : Inst} (h : i.kind = 3 ∨ i.kind = 4) : stOne gs t i = if stGone gs (ofA 22 Action.group i.acts) = true then some (2, 9) else none := by
 unfold stOne
 have h1 : ¬ (i.kind = 1) := by omega
 simp [h, h1]
theorem stOne_other {gs : List Group} {t : Int} {i : Inst} (h1 : ¬ i.kind = 1) (h3 : ¬ i.kind = 3) (h4 : ¬ i.kind = 4) : stOne gs t i = none := by
 unfold stOne
 simp [h1, h3, h4]
set_option maxHeartbeats 8000000 in
set_option maxRecDepth 100000 in
theorem stmay_c (s : Switch) (at_ : Int) (l : List Inst) (hs : SwB s) (hl : l.length ≤ 1000) (ha : ∀ x, x ∈ l → x.acts.length ≤ 1000000) :
   FnP Tryz.prog 46 [.iptr s.enc, .int .i64 at_, instS l]  (stErr (stMay s.groups at_ l))  := by
 have hgo : ∀ ids : List Int, ids.length ≤ 1000000000 → FnP Tryz.prog 82 [grpS s.groups, intS ids] (.bool (stGone s.groups ids)) := fun ids h => gone_c s.groups ids hs.groups hs.gr h
 have b32 := stbad_c 3 2
 have b29 := stbad_c 2 9
 obtain ⟨R, hR⟩ : ∃ R, stMay s.groups at_ l = R := ⟨_, rfl⟩
 have e0 : s.enc = [flowS (s.tab 0), flowS (s.tab 1), flowS (s.tab 2), flowS (s.tab 3), grpS s.groups] := rfl
 rw [hR, e0]
 obtain ⟨gs, hgs⟩ : ∃ gs, s.groups = gs := ⟨_, rfl⟩
 rw [hgs] at hR hgo ⊢
 obtain ⟨A0, hA0, c0⟩ : ∃ A, flowS (s.tab 0) = A ∧ Cl A = true := ⟨_, rfl, flowS_cl _⟩
 obtain ⟨A1, hA1, c1⟩ : ∃ A, flowS (s.tab 1) = A ∧ Cl A = true := ⟨_, rfl, flowS_cl _⟩
 obtain ⟨A2, hA2, c2⟩ : ∃ A, flowS (s.tab 2) = A ∧ Cl A = true := ⟨_, rfl, flowS_cl _⟩
 obtain ⟨A3, hA3, c3⟩ : ∃ A, flowS (s.tab 3) = A ∧ Cl A = true := ⟨_, rfl, flowS_cl _⟩
 rw [hA0, hA1, hA2, hA3]
 clear hA0 hA1 hA2 hA3 hgs hs e0
 unfold grpS instS intS at *
 refine FnP.i Tryz.func46 rfl rfl fun G w => ?_
 refine WK.anyNx (n := 100) ?_
 repeat' (first | apply WK.s | apply WK.b | (apply hQ.h; clear hQ hA) | (refine WK.R Tryz.ntmps46 ?_; intro A hA Q hQ; simp [*]))
 refine WK.L (fun n => n) (fun i : Nat => (⟨(upd (upd (upd (upd (upd J 0 (.iptr [A0, A1, A2, A3, .sl false gs.length (grpL gs)])) 1 (.int .i64 at_)) 9 (.sl false l.length (instL l))) 10 (.int .i64 l.length)) 11 (.int .i64 i)), B0, 0⟩ : St)) (fun i => i ≤ l.length ∧ stMay gs at_ (l.drop i) = R) (fun i => l.length - i) (0) (by repeat (first | exact TmW.nil | refine TmW.upd ?_ (by simp (config := zd) [c0, c1, c2, c3]))) (by repeat (first | exact BxW.nil | refine BxW.upd ?_ (by simp (config := zd) [c0, c1, c2, c3]))) (⟨by omega, hR⟩) (fun i hi IH => ?_)
 by_cases h1 : i < l.length
 · have h1' : (i : Int) < l.length := by omega
   have h6 : IntKind.i64.wrap ((i : Int) + 1) = i + 1 := wrap_i64 (by omega) (by omega)
   have h4 := inst_sub l i h1
   have h3 : 7 ≤ l.length * 7 - i * 7 := by omega
   have hd := stMay_at (gs := gs) (t := at_) h1
   rw [hi.2] at hd
   have hax := ha _ (nth_mem h1)
   obtain ⟨x, hx⟩ : ∃ x, nth l i = x := ⟨_, rfl⟩
   rw [hx] at h4 hd hax
   clear hx ha hi hR
   by_cases k1 : x.kind = 1
   · rw [stOne_one k1] at hd
     have k1' : (x.kind == 1) = true := by simpa using k1
     clear hgo b29 hax
     by_cases q1 : x.table ≤ at_
     · rw [if_pos (.inl q1)] at hd
       simp only at hd
       rw [hd]
       clear hd IH
       repeat' (first | apply WK.s | apply WK.b | apply WK.k | refine WK.cT rfl ?_ | (apply hQ.h; clear hQ hA) | (refine WK.R Tryz.ntmps46 ?_; intro A hA Q hQ; simp [Inst.enc, *]) | (refine RunQ.g rfl (by rw [hA.h]; rfl) ?_; simp [Inst.enc, *]) | (refine RunQ.k rfl rfl rfl rfl rfl ?_ (b32) ?_ ?_ <;> simp (config := zd) [Inst.enc, *] <;> refine ⟨?_⟩) | (refine WK.t Tryz.func46 ?_ ?_ <;> simp (config := zd) [Tryz.results46, Inst.enc, stErr, *]))
     · by_cases q2 : 4 ≤ x.table
       · rw [if_pos (.inr q2)] at hd
         simp only at hd
         rw [hd]
         clear hd IH
         repeat' (first | apply WK.s | apply WK.b | apply WK.k | refine WK.cT rfl ?_ | (apply hQ.h; clear hQ hA) | (refine WK.R Tryz.ntmps46 ?_; intro A hA Q hQ; simp [Inst.enc, *]) | (refine RunQ.g rfl (by rw [hA.h]; rfl) ?_; simp [Inst.enc, *]) | (refine RunQ.k rfl rfl rfl rfl rfl ?_ (b32) ?_ ?_ <;> simp (config := zd) [Inst.enc, *] <;> refine ⟨?_⟩) | (refine WK.t Tryz.func46 ?_ ?_ <;> simp (config := zd) [Tryz.results46, Inst.enc, stErr, *]))
       · rw [if_neg (by omega)] at hd
         simp only at hd
         clear b32
         repeat' (first | apply WK.s | apply WK.b | apply WK.n | apply WK.k | refine WK.cT rfl ?_ | refine WK.cF rfl ?_ | (apply hQ.h; clear hQ hA) | (refine WK.R Tryz.ntmps46 ?_; intro A hA Q hQ; simp [Inst.enc, *]) | (refine RunQ.g rfl (by rw [hA.h]; rfl) ?_; simp [Inst.enc, *]))
         refine WK.N (fun n => n) (IH (i + 1) (⟨by omega, hd.symm⟩) (by first | omega | (dsimp only; omega))) (by repeat (first | exact TmW.nil | refine TmW.upd ?_ (by simp (config := zd) [c0, c1, c2, c3]))) (by repeat (first | exact BxW.nil | refine BxW.upd ?_ (by simp (config := zd) [c0, c1, c2, c3])))
   have k1' : (x.kind == 1) = false := by simpa using k1
   by_cases k34 : x.kind = 3 ∨ x.kind = 4
   · rw [stOne_acts k34] at hd
     have c := aGroups_c x.acts hax
     have hN := ofA_le 22 Action.group x.acts
     have cg := hgo (ofA 22 Action.group x.acts) (by omega)
     obtain ⟨N, hNe⟩ : ∃ N, ofA 22 Action.group x.acts = N := ⟨_, rfl⟩
     rw [hNe] at c cg hd
     obtain ⟨B, hB⟩ : ∃ B, stGone gs N = B := ⟨_, rfl⟩
     rw [hB] at cg hd
     unfold actS intS at c
     clear hNe hB hN hgo hax b32
     cases B
     · rw [if_neg (by decide)] at hd
       simp only at hd
       clear b29
       rcases k34 with k | k
       all_goals
         have k' := k
         repeat' (first | apply WK.s | apply WK.b | apply WK.n | apply WK.k | refine WK.cT rfl ?_ | refine WK.cF rfl ?_ | (refine hQ.h _ _ ?_; clear hQ hA) | (refine WK.R Tryz.ntmps46 ?_; intro A hA Q hQ; simp [Inst.enc, *]) | (refine WK.X Tryz.ntmps46 ?_; intro A hA Q hQ; simp [Inst.enc, *]) | (refine hQ.h _ _ _ (by decide +kernel) ?_; clear hQ hA) | (refine RunX.k rfl rfl rfl rfl ?_ (c) ?_ ?_ <;> simp (config := zd) [Inst.enc, *] <;> refine ⟨?_⟩) | (refine RunX.k rfl rfl rfl rfl ?_ (cg) ?_ ?_ <;> simp (config := zd) [Inst.enc, *] <;> refine ⟨?_⟩))
         refine WK.N (fun n => n) (IH (i + 1) (⟨by omega, hd.symm⟩) (by first | omega | (dsimp only; omega))) (by repeat (first | exact TmW.nil | refine TmW.upd ?_ (by simp (config := zd) [c0, c1, c2, c3]))) (by repeat (first | exact BxW.nil | refine BxW.upd ?_ (by simp (config := zd) [c0, c1, c2, c3])))
     · rw [if_pos rfl] at hd
       simp only at hd
       rw [hd]
       clear hd IH
       rcases k34 with k | k
       all_goals
         have k' := k
         repeat' (first | apply WK.s | apply WK.b | apply WK.k | refine WK.cT rfl ?_ | refine WK.cF rfl ?_ | (refine hQ.h _ _ ?_; clear hQ hA) | (refine WK.R Tryz.ntmps46 ?_; intro A hA Q hQ; simp [Inst.enc, *]) | (refine WK.X Tryz.ntmps46 ?_; intro A hA Q hQ; simp [Inst.enc, *]) | (refine hQ.h _ _ _ (by decide +kernel) ?_; clear hQ hA) | (refine RunQ.k rfl rfl rfl rfl rfl ?_ (b29) ?_ ?_ <;> simp (config := zd) [Inst.enc, *] <;> refine ⟨?_⟩) | (refine RunX.k rfl rfl rfl rfl ?_ (c) ?_ ?_ <;> simp (config := zd) [Inst.enc, *] <;> refine ⟨?_⟩) | (refine RunX.k rfl rfl rfl rfl ?_ (cg) ?_ ?_ <;> simp (config := zd) [Inst.enc, *] <;> refine ⟨?_⟩) | (refine WK.t Tryz.func46 ?_ ?_ <;> simp (config := zd) [Tryz.results46, Inst.enc, stErr, *]))
   · have k3 : ¬ x.kind = 3 := fun h => k34 (.inl h)
     have k4 : ¬ x.kind = 4 := fun h => k34 (.inr h)
     rw [stOne_other k1 k3 k4] at hd
     simp only at hd
     have k3' : (x.kind == 3) = false := by simpa using k3
     have k4' : (x.kind == 4) = false := by simpa using k4
     clear hgo b29 b32 hax k34
     repeat' (first | apply WK.s | apply WK.b | apply WK.n | apply WK.k | refine WK.cT rfl ?_ | refine WK.cF rfl ?_ | (apply hQ.h; clear hQ hA) | (refine WK.R Tryz.ntmps46 ?_; intro A hA Q hQ; simp [Inst.enc, *]))
     refine WK.N (fun n => n) (IH (i + 1) (⟨by omega, hd.symm⟩) (by first | omega | (dsimp only; omega))) (by repeat (first | exact TmW.nil | refine TmW.upd ?_ (by simp (config := zd) [c0, c1, c2, c3]))) (by repeat (first | exact BxW.nil | refine BxW.upd ?_ (by simp (config := zd) [c0, c1, c2, c3])))
 · have h1' : ¬ (i : Int) < l.length := by omega
   have hd := hi.2
   rw [List.drop_of_length_le (by omega)] at hd
   have hd' : none = R := hd
   subst hd'
   clear IH hi hd hR ha hgo b32 b29
   repeat' (first | apply WK.s | refine WK.exit rfl ?_ | refine WK.cF rfl ?_ | (apply hQ.h; clear hQ hA) | (refine WK.R Tryz.ntmps46 ?_; intro A hA Q hQ; simp [*]) | (refine WK.t Tryz.func46 ?_ ?_ <;> simp (config := zd) [Tryz.results46, stErr, *]))

theorem inst_get0 (l : List Inst) (i : Nat) (h : i < l.length) (h' : i * 7 < (instL l).length) : (instL l)[i * 7] = .int .i64 (nth l i).kind := inst_get l i 0 h (by omega) h'
theorem stGone_true {gs : List Group} {ids : List Int} {i : Nat} (hi : i < ids.length) (h : (gAt gs (nth ids i)).isSome = false) : stGone gs ids = true := by
 unfold stGone; rw [List.any_eq_true]; exact ⟨_, nth_mem hi, by rw [h]; rfl⟩
theorem stGone_false {gs : List Group} {ids : List Int} (h : ∀ i, i < ids.length → (gAt gs (nth ids i)).isSome = true) : stGone gs ids = false := by
 unfold stGone; rw [List.any_eq_false]
 intro id hid
 obtain ⟨i, hi, rfl⟩ := mem_nth hid
 rw [h i hi]; simp
set_option maxHeartbeats 8000000 in
set_option maxRecDepth 100000 in
theorem rstmay_c (s : Switch) (at_ : Int) (l : List Inst) (hg : s.groups.length ≤ 1000000) (hl : l.length ≤ 1000) (ha : ∀ x, x ∈ l → x.acts.length ≤ 1000000) :
   FnP Tryz.prog 54 [.agg s.enc, .int .i64 at_, instS l] (.agg (gF (stMay s.groups at_ l))) := by
 have hfi : ∀ id, FnP Tryz.prog 102 [grpS s.groups, .int .i64 id] (.tup [.agg (gFind s.groups id).1.enc, .bool (gAt s.groups id).isSome]) := fun id => by
   rw [← gFind_some]; exact rgfind_c s.groups id hg
 obtain ⟨R, hR⟩ : ∃ R, stMay s.groups at_ l = R := ⟨_, rfl⟩
 have e0 : s.enc = [flowS (s.tab 0), flowS (s.tab 1), flowS (s.tab 2), flowS (s.tab 3), grpS s.groups] := rfl
 rw [hR, e0]
 obtain ⟨gs, hgs⟩ : ∃ gs, s.groups = gs := ⟨_, rfl⟩
 rw [hgs] at hR hfi ⊢
 obtain ⟨A0, hA0, c0⟩ : ∃ A, flowS (s.tab 0) = A ∧ Cl A = true := ⟨_, rfl, flowS_cl _⟩
 obtain ⟨A1, hA1, c1⟩ : ∃ A, flowS (s.tab 1) = A ∧ Cl A = true := ⟨_, rfl, flowS_cl _⟩
 obtain ⟨A2, hA2, c2⟩ : ∃ A, flowS (s.tab 2) = A ∧ Cl A = true := ⟨_, rfl, flowS_cl _⟩
 obtain ⟨A3, hA3, c3⟩ : ∃ A, flowS (s.tab 3) = A ∧ Cl A = true := ⟨_, rfl, flowS_cl _⟩
 have f1 : ∀ c : Int × Int, gF (some c) = [.bool true, .int .i64 c.1, .int .i64 c.2] := fun c => rfl
 have f0 : gF (none : Option (Int × Int)) = [.bool false, .int .i64 0, .int .i64 0] := rfl
 rw [hA0, hA1, hA2, hA3]
 clear hA0 hA1 hA2 hA3 hgs e0 hg
 unfold grpS instS at *
 refine FnP.i Tryz.func54 rfl rfl fun G w => ?_
 repeat' (first | apply WK.s | apply WK.b | (apply hQ.h; clear hQ hA) | (refine WK.R Tryz.ntmps54 ?_; intro A hA Q hQ; simp [*]))
 refine WK.L (fun n => n) (fun i : Nat => (⟨(upd (upd (upd (upd (upd J 1 (.int .i64 at_)) 2 (.sl false l.length (instL l))) 3 (.ptr 0 0)) 6 (.ptr 1 0)) 7 (.int .i64 i)), (upd (upd B0 0 (.var [A0, A1, A2, A3, .sl false gs.length (grpL gs)])) 1 (.var [.bool false, .int .i64 0, .int .i64 0])), 0⟩ : St)) (fun i => i ≤ l.length ∧ stMay gs at_ (l.drop i) = R) (fun i => l.length - i) (0) (by repeat (first | exact TmW.nil | refine TmW.upd ?_ (by simp (config := zd) [c0, c1, c2, c3]))) (by repeat (first | exact BxW.nil | refine BxW.upd ?_ (by simp (config := zd) [c0, c1, c2, c3]))) (⟨by omega, hR⟩) (fun i hi IH => ?_)
 by_cases h1 : i < l.length
 · have h1' : (i : Int) < l.length := by omega
   have h6 : IntKind.i64.wrap ((i : Int) + 1) = i + 1 := wrap_i64 (by omega) (by omega)
   have q0 := inst_get0 l i h1
   have u1 := fun h' => inst_get l i 1 h1 (by omega) h'
   have u4 := fun h' => inst_get l i 6 h1 (by omega) h'
   have r0 : i * 7 < l.length * 7 := by omega
   have r1 : i * 7 + 1 < l.length * 7 := by omega
   have r4 : i * 7 + 6 < l.length * 7 := by omega
   have hd := stMay_at (gs := gs) (t := at_) h1
   rw [hi.2] at hd
   have hax := ha _ (nth_mem h1)
   obtain ⟨x, hx⟩ : ∃ x, nth l i = x := ⟨_, rfl⟩
   have q1 : ∀ h', (instL l)[i * 7 + 1]'h' = .int .i64 x.table := fun h' => by rw [u1 h']; simp only [hx]; rfl
   have q4 : ∀ h', (instL l)[i * 7 + 6]'h' = .sl false x.acts.length (actL x.acts) := fun h' => by rw [u4 h']; simp only [hx]; rfl
   rw [hx] at q0 hd hax
   clear u1 u4 hx ha hi hR
   by_cases k1 : x.kind = 1
   · rw [stOne_one k1] at hd
     have k1' : (x.kind == 1) = true := by simpa using k1
     clear hfi hax
     by_cases g1 : x.table ≤ at_
     · rw [if_pos (.inl g1)] at hd
       simp only at hd
       rw [hd, f1]
       clear hd IH f1 f0
       repeat' (first | apply WK.s | apply WK.b | apply WK.k | refine WK.cT rfl ?_ | (apply hQ.h; clear hQ hA) | (refine WK.R Tryz.ntmps54 ?_; intro A hA Q hQ; simp [*]) | (refine RunQ.g rfl (by rw [hA.h]; rfl) ?_; simp [*]) | (refine WK.t Tryz.func54 ?_ ?_ <;> simp (config := zd) [Tryz.results54, *]))
     · by_cases g2 : 4 ≤ x.table
       · rw [if_pos (.inr g2)] at hd
         simp only at hd
         rw [hd, f1]
         clear hd IH f1 f0
         repeat' (first | apply WK.s | apply WK.b | apply WK.k | refine WK.cT rfl ?_ | (apply hQ.h; clear hQ hA) | (refine WK.R Tryz.ntmps54 ?_; intro A hA Q hQ; simp [*]) | (refine RunQ.g rfl (by rw [hA.h]; rfl) ?_; simp [*]) | (refine WK.t Tryz.func54 ?_ ?_ <;> simp (config := zd) [Tryz.results54, *]))
       · rw [if_neg (by omega)] at hd
         simp only at hd
         clear f1 f0
         repeat' (first | apply WK.s | apply WK.b | apply WK.k | refine WK.exit rfl ?_ | refine WK.cT rfl ?_ | refine WK.cF rfl ?_ | (apply hQ.h; clear hQ hA) | (refine WK.R Tryz.ntmps54 ?_; intro A hA Q hQ; simp [bne, *]) | (refine RunQ.g rfl (by rw [hA.h]; rfl) ?_; simp [bne, *]))
         refine WK.N (fun n => n) (IH (i + 1) (⟨by omega, hd.symm⟩) (by first | omega | (dsimp only; omega))) (by repeat (first | exact TmW.nil | refine TmW.upd ?_ (by simp (config := zd) [c0, c1, c2, c3]))) (by repeat (first | exact BxW.nil | refine BxW.upd ?_ (by simp (config := zd) [c0, c1, c2, c3])))
   have k1' : (x.kind == 1) = false := by simpa using k1
   by_cases k34 : x.kind = 3 ∨ x.kind = 4
   · rw [stOne_acts k34] at hd
     have c := raGroups_c x.acts hax
     have hN := ofA_le 22 Action.group x.acts
     obtain ⟨N, hNe⟩ : ∃ N, ofA 22 Action.group x.acts = N := ⟨_, rfl⟩
     rw [hNe] at c hd hN
     have hno : ∀ j, j < N.length → (gAt gs (nth N j)).isSome = false → R = some (2, 9) := fun j hj h => by
       rw [stGone_true hj h, if_pos rfl] at hd; exact hd
     have hye : (∀ j, j < N.length → (gAt gs (nth N j)).isSome = true) → stMay gs at_ (l.drop (i + 1)) = R := fun h => by
       rw [stGone_false h, if_neg (by decide)] at hd; exact hd.symm
     have hk : (x.kind == 3) = true ∨ ((x.kind == 3) = false ∧ (x.kind == 4) = true) := by
       by_cases h3 : x.kind = 3
       · left; simpa using h3
       · right; exact ⟨by simpa using h3, by simpa using (k34.resolve_left h3)⟩
     have hNl : N.length ≤ 1000000 := by omega
     unfold actS intS at c
     clear hNe hax hd k34
     repeat apply WK.s
     apply WK.cut (⟨(upd (upd (upd (upd (upd (upd J 1 (.int .i64 at_)) 2 (.sl false l.length (instL l))) 3 (.ptr 0 0)) 6 (.ptr 1 0)) 7 (.int .i64 i)) 8 (.sl false N.length (intL N))), (upd (upd B0 0 (.var [A0, A1, A2, A3, .sl false gs.length (grpL gs)])) 1 (.var [.bool false, .int .i64 0, .int .i64 0])), 0⟩ : St)
     · intro hcut
       rcases hk with k | ⟨k, k'⟩
       all_goals
         repeat' (first | apply WK.s | apply WK.b | apply WK.k | refine WK.cT rfl ?_ | refine WK.cF rfl ?_ | (apply hQ.h; clear hQ hA) | (refine WK.R (id := 0) Tryz.ntmps54 ?_; intro A hA Q hQ; simp [bne, *]) | (refine WK.R (id := 1) Tryz.ntmps54 ?_; intro A hA Q hQ; simp [bne, *]) | (refine WK.R (id := 2) Tryz.ntmps54 ?_; intro A hA Q hQ; simp [bne, *]) | (refine WK.R (id := 3) Tryz.ntmps54 ?_; intro A hA Q hQ; simp [bne, *]) | (refine WK.R (id := 4) Tryz.ntmps54 ?_; intro A hA Q hQ; simp [bne, *]) | (refine WK.R (id := 5) Tryz.ntmps54 ?_; intro A hA Q hQ; simp [bne, *]) | (refine WK.R (id := 6) Tryz.ntmps54 ?_; intro A hA Q hQ; simp [bne, *]) | (refine WK.R (id := 7) Tryz.ntmps54 ?_; intro A hA Q hQ; simp [bne, *]) | (refine RunQ.g rfl (by rw [hA.h]; rfl) ?_; simp [bne, *]) | (refine RunQ.k rfl rfl rfl rfl rfl ?_ (c) ?_ ?_ <;> simp (config := zd) [bne, *] <;> refine ⟨?_⟩))
         refine WK.N (fun n => n) hcut (by repeat (first | exact TmW.nil | refine TmW.upd ?_ (by simp (config := zd) [c0, c1, c2, c3]))) (by repeat (first | exact BxW.nil | refine BxW.upd ?_ (by simp (config := zd) [c0, c1, c2, c3])))
     repeat' (first | apply WK.b | (apply hQ.h; clear hQ hA) | (refine WK.R Tryz.ntmps54 ?_; intro A hA Q hQ; simp [*]))
     refine WK.L (fun n => n) (fun j : Nat => (⟨(upd (upd (upd (upd (upd (upd (upd J 1 (.int .i64 at_)) 2 (.sl false l.length (instL l))) 3 (.ptr 0 0)) 6 (.ptr 1 0)) 7 (.int .i64 i)) 8 (.sl false N.length (intL N))) 9 (.int .i64 j)), (upd (upd B0 0 (.var [A0, A1, A2, A3, .sl false gs.length (grpL gs)])) 1 (.var [.bool false, .int .i64 0, .int .i64 0])), 0⟩ : St)) (fun j => j ≤ N.length ∧ ∀ k, k < j → (gAt gs (nth N k)).isSome = true) (fun j => N.length - j) (0) (by repeat (first | exact TmW.nil | refine TmW.upd ?_ (by simp (config := zd) [c0, c1, c2, c3]))) (by repeat (first | exact BxW.nil | refine BxW.upd ?_ (by simp (config := zd) [c0, c1, c2, c3]))) (⟨by omega, by simp⟩) (fun j hj IHj => ?_)
     by_cases h2 : j < N.length
     · have h2' : (j : Int) < N.length := by omega
       have j3 : j < (intL N).length := by rw [show (intL N).length = N.length by simp [intL]]; exact h2
       have j4 := intL_get' N j h2
       have j6 : IntKind.i64.wrap ((j : Int) + 1) = j + 1 := wrap_i64 (by omega) (by omega)
       have cf := hfi (nth N j)
       have hno := hno j h2
       have hj2 := hj.2
       have hst : (gAt gs (nth N j)).isSome = true → ∀ k, k < j + 1 → (gAt gs (nth N k)).isSome = true := fun h k hk => by
         by_cases h7 : k = j
         · subst h7; exact h
         · exact hj2 k (by omega)
       obtain ⟨id, hid⟩ : ∃ id, nth N j = id := ⟨_, rfl⟩
       rw [hid] at cf hno hst j4
       obtain ⟨b, hb⟩ : ∃ b, (gAt gs id).isSome = b := ⟨_, rfl⟩
       obtain ⟨G1, hG1⟩ : ∃ g, (gFind gs id).1 = g := ⟨_, rfl⟩
       rw [hb] at cf hno hst
       rw [hG1] at cf
       unfold Group.enc at cf
       clear hb hG1 hid hye hfi IH
       cases b
       · have e := hno rfl
         rw [e, f1]
         clear hno hst IHj f1 f0
         repeat' (first | apply WK.s | apply WK.b | apply WK.k | refine WK.cT rfl ?_ | (refine hQ.h _ _ ?_; clear hQ hA) | (refine WK.R Tryz.ntmps54 ?_; intro A hA Q hQ; simp [*]) | (refine WK.X Tryz.ntmps54 ?_; intro A hA Q hQ; simp [*]) | (refine hQ.h _ _ _ (by decide +kernel) ?_; clear hQ hA) | (refine RunX.k rfl rfl rfl rfl ?_ (cf) ?_ ?_ <;> simp (config := zd) [*] <;> refine ⟨?_⟩) | (refine WK.t Tryz.func54 ?_ ?_ <;> simp (config := zd) [Tryz.results54, *]))
       · have hst := hst rfl
         clear hno f1 f0
         repeat' (first | apply WK.s | apply WK.b | apply WK.n | apply WK.k | refine WK.cT rfl ?_ | refine WK.cF rfl ?_ | (refine hQ.h _ _ ?_; clear hQ hA) | (refine WK.R Tryz.ntmps54 ?_; intro A hA Q hQ; simp [*]) | (refine WK.X Tryz.ntmps54 ?_; intro A hA Q hQ; simp [*]) | (refine hQ.h _ _ _ (by decide +kernel) ?_; clear hQ hA) | (refine RunX.k rfl rfl rfl rfl ?_ (cf) ?_ ?_ <;> simp (config := zd) [*] <;> refine ⟨?_⟩))
         refine WK.N (fun n => n) (IHj (j + 1) (⟨by omega, hst⟩) (by first | omega | (dsimp only; omega))) (by repeat (first | exact TmW.nil | refine TmW.upd ?_ (by simp (config := zd) [c0, c1, c2, c3]))) (by repeat (first | exact BxW.nil | refine BxW.upd ?_ (by simp (config := zd) [c0, c1, c2, c3])))
     · have h2' : ¬ (j : Int) < N.length := by omega
       have hst := hye (fun k hk => hj.2 k (by omega))
       clear hno hye hfi IHj f1 f0
       repeat' (first | apply WK.s | apply WK.n | refine WK.exit rfl ?_ | refine WK.cF rfl ?_ | (apply hQ.h; clear hQ hA) | (refine WK.R Tryz.ntmps54 ?_; intro A hA Q hQ; simp [*]))
       refine WK.N (fun n => n) (IH (i + 1) (⟨by omega, hst⟩) (by first | omega | (dsimp only; omega))) (by repeat (first | exact TmW.nil | refine TmW.upd ?_ (by simp (config := zd) [c0, c1, c2, c3]))) (by repeat (first | exact BxW.nil | refine BxW.upd ?_ (by simp (config := zd) [c0, c1, c2, c3])))
   · have k3 : ¬ x.kind = 3 := fun h => k34 (.inl h)
     have k4 : ¬ x.kind = 4 := fun h => k34 (.inr h)
     rw [stOne_other k1 k3 k4] at hd
     simp only at hd
     have k3' : (x.kind == 3) = false := by simpa using k3
     have k4' : (x.kind == 4) = false := by simpa using k4
     clear hfi hax k34 f1 f0
     repeat' (first | apply WK.s | apply WK.b | apply WK.k | refine WK.exit rfl ?_ | refine WK.cT rfl ?_ | refine WK.cF rfl ?_ | (apply hQ.h; clear hQ hA) | (refine WK.R Tryz.ntmps54 ?_; intro A hA Q hQ; simp [bne, *]) | (refine RunQ.g rfl (by rw [hA.h]; rfl) ?_; simp [bne, *]))
     refine WK.N (fun n => n) (IH (i + 1) (⟨by omega, hd.symm⟩) (by first | omega | (dsimp only; omega))) (by repeat (first | exact TmW.nil | refine TmW.upd ?_ (by simp (config := zd) [c0, c1, c2, c3]))) (by repeat (first | exact BxW.nil | refine BxW.upd ?_ (by simp (config := zd) [c0, c1, c2, c3])))
 · have h1' : ¬ (i : Int) < l.length := by omega
   have hd := hi.2
   rw [List.drop_of_length_le (by omega)] at hd
   have hd' : none = R := hd
   subst hd'
   rw [f0]
   clear IH hi hd hR ha hfi f1 f0
   repeat' (first | apply WK.s | refine WK.exit rfl ?_ | refine WK.cF rfl ?_ | (apply hQ.h; clear hQ hA) | (refine WK.R Tryz.ntmps54 ?_; intro A hA Q hQ; simp [*]) | (refine WK.t Tryz.func54 ?_ ?_ <;> simp (config := zd) [Tryz.results54, *]))
end Go.Proofs.YtmhapglejjehbaaGreat
