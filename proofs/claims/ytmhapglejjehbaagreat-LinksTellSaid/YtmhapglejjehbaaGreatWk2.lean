/- Lists that are the same. -/
import Derived.Test.YtmhapglejjehbaaGreatAf
import Derived.Test.YtmhapglejjehbaaGreatWk1
import Derived.Test.YtmhapglejjehbaaGreatDa
set_option linter.all false
set_option linter.unnecessarySimpa false
namespace Go.Proofs.YtmhapglejjehbaaGreat
open Go Go.AI Go.Proofs
def eqBy {α : Type} [Inhabited α] (p : α → α → Bool) (l m : List α) : Bool := l.length == m.length && (List.range l.length).all fun i => p (nth l i) (nth m i)
theorem eqf_act (fid : Nat) (caps : List AV) (p : Action → Action → Bool) (l m : List Action) (hcl : ClL caps = true) (hl : l.length ≤ 1000000)
   (hf : ∀ x, x ∈ l → ∀ y, y ∈ m → FnP Tryz.prog fid (.agg x.enc :: .agg y.enc :: caps) (.bool (p x y))) :
   FnP Tryz.prog 248 [actS l, actS m, .fn fid caps] (.bool (eqBy p l m)) := by
 unfold actS
 refine FnP.i Tryz.func248 rfl rfl fun G w => ?_
 repeat apply WK.s
 refine WK.G 100 Tryz.ntmps248 ?_
 intro A hA Q hQ
 simp
 apply hQ
 clear hQ hA
 repeat apply WK.s
 refine WK.G 200 Tryz.ntmps248 ?_
 intro A hA Q hQ
 simp
 apply hQ
 clear hQ hA
 refine WK.c2 rfl (fun h => ?_) (fun h => ?_)
 · simp at h
   have e : eqBy p l m = false := by unfold eqBy; simp; intro e; omega
   repeat apply WK.s
   refine WK.G 300 Tryz.ntmps248 ?_
   intro A hA Q hQ
   simp
   apply hQ
   clear hQ hA
   refine WK.t Tryz.func248 (by simp (config := zd) [Tryz.results248, e]) (by simp [e])
 · simp at h
   have hlm : l.length = m.length := by omega
   repeat (first | apply WK.s | apply WK.k)
   refine WK.G 400 Tryz.ntmps248 ?_
   intro A hA Q hQ
   simp
   apply hQ
   clear hQ hA
   repeat (apply WK.b)
   refine WK.L (fun n => n) (fun i : Nat => (⟨(upd (upd (upd (upd (upd (upd J 0 (.sl false l.length (actL l))) 1 (.sl false m.length (actL m))) 2 (.fn fid caps)) 15 (.sl false l.length (actL l))) 16 (.int .i64 l.length)) 17 (.int .i64 i)), B0, 0⟩ : St)) (fun i => i ≤ l.length ∧ ∀ j, j < i → p (nth l j) (nth m j) = true) (fun i => l.length - i) (0) (by repeat (first | exact TmW.nil | refine TmW.upd ?_ (by simp (config := zd) [hcl]))) (by repeat (first | exact BxW.nil | refine BxW.upd ?_ (by simp (config := zd) [hcl]))) (⟨by omega, by simp⟩) (fun i hi IH => ?_)
   repeat apply WK.s
   refine WK.G 500 Tryz.ntmps248 ?_
   intro A hA Q hQ
   simp
   apply hQ
   clear hQ hA
   repeat apply WK.s
   refine WK.c2 rfl (fun h1 => ?_) (fun h1 => ?_)
   · simp at h1
     have h2 : i < l.length := by omega
     have h2' : i < m.length := by omega
     have h3 : 11 ≤ l.length * 11 - i * 11 := by omega
     have h3' : 11 ≤ m.length * 11 - i * 11 := by omega
     have h4 := act_sub l i h2
     have h4' := act_sub m i h2'
     have h6 : IntKind.i64.wrap ((i : Int) + 1) = i + 1 := wrap_i64 (by omega) (by omega)
     repeat (first | apply WK.s | apply WK.b | apply WK.k)
     refine WK.G 600 Tryz.ntmps248 ?_
     intro A hA Q hQ
     simp [h2, h3, h4]
     apply hQ
     clear hQ hA
     repeat apply WK.s
     refine WK.G 700 Tryz.ntmps248 ?_
     intro A hA Q hQ
     simp [h2', h3', h4']
     apply hQ
     clear hQ hA
     repeat apply WK.s
     refine WK.G 800 Tryz.ntmps248 ?_
     intro A hA Q hQ
     simp
     refine RunQ.call rfl rfl rfl rfl (by rfl) (by simp (config := zd) [hcl]) (hf (nth l i) (nth_mem h2) (nth m i) (nth_mem h2')) (by simp [hcl]) ?_
     refine RunQ.eval ?_
     simp [hcl]
     apply hQ
     clear hQ hA
     refine WK.c2 rfl (fun h5 => ?_) (fun h5 => ?_)
     · simp at h5
       have e : eqBy p l m = false := by unfold eqBy; rw [all_range_false (p := fun i => p (nth l i) (nth m i)) h2 h5]; simp
       repeat apply WK.s
       refine WK.G 900 Tryz.ntmps248 ?_
       intro A hA Q hQ
       simp
       apply hQ
       clear hQ hA
       refine WK.t Tryz.func248 (by simp (config := zd) [Tryz.results248, e]) (by simp [e])
     · simp at h5
       repeat (first | apply WK.n | apply WK.k)
       refine WK.G 1000 Tryz.ntmps248 ?_
       intro A hA Q hQ
       simp [h6]
       apply hQ
       clear hQ hA
       refine WK.N (fun n => n) (IH (i + 1) (⟨by omega, fun j hj => by by_cases h7 : j = i; (subst h7; exact h5); exact hi.2 j (by omega)⟩) (by first | omega | (dsimp only; omega))) (by repeat (first | exact TmW.nil | refine TmW.upd ?_ (by simp (config := zd) [hcl]))) (by repeat (first | exact BxW.nil | refine BxW.upd ?_ (by simp (config := zd) [hcl])))
   · simp at h1
     have e : eqBy p l m = true := by unfold eqBy; rw [all_range_true (p := fun i => p (nth l i) (nth m i)) (fun j hj => hi.2 j (by omega))]; simp [hlm]
     repeat (first | apply WK.s | refine WK.exit rfl ?_)
     refine WK.G 1100 Tryz.ntmps248 ?_
     intro A hA Q hQ
     simp
     apply hQ
     clear hQ hA
     refine WK.t Tryz.func248 (by simp (config := zd) [Tryz.results248, e]) (by simp [e])
theorem asame_c (a b : Action) : FnP Tryz.prog 249 [.agg a.enc, .agg b.enc] (.bool (a == b)) := by
 refine FnP.i Tryz.func249 rfl rfl fun G w => ?_
 repeat apply WK.s
 refine WK.G 100 Tryz.ntmps249 ?_
 intro A hA Q hQ
 simp
 apply hQ
 clear hQ hA
 repeat apply WK.s
 refine WK.G 200 Tryz.ntmps249 ?_
 intro A hA Q hQ
 simp
 apply hQ
 clear hQ hA
 refine WK.t Tryz.func249 (by simp (config := zd) [Tryz.results249]) (by simp)
theorem acsame_c (l m : List Action) (hl : l.length ≤ 1000000) : FnP Tryz.prog 216 [actS l, actS m] (.bool (eqBy (· == ·) l m)) := by
 refine FnP.i Tryz.func216 rfl rfl fun G w => ?_
 repeat apply WK.s
 refine WK.G 100 Tryz.ntmps216 ?_
 intro A hA Q hQ
 simp
 apply hQ
 clear hQ hA
 repeat apply WK.s
 refine WK.G 200 Tryz.ntmps216 ?_
 intro A hA Q hQ
 simp
 refine RunQ.call rfl rfl rfl rfl (by rfl) (by simp (config := zd) [actS]) (eqf_act 249 [] (· == ·) l m rfl hl (fun x _ y _ => asame_c x y)) (by simp [actS]) ?_
 refine RunQ.eval ?_
 simp [actS]
 apply hQ
 clear hQ hA
 refine WK.t Tryz.func216 (by simp (config := zd) [Tryz.results216]) (by simp)
def Inst.same (a b : Inst) : Bool := a.kind == b.kind && a.table == b.table && a.value == b.value && a.mask == b.mask && eqBy (· == ·) a.acts b.acts
theorem isame_c (a b : Inst) (hl : a.acts.length ≤ 1000000) : FnP Tryz.prog 183 [.agg a.enc, .agg b.enc] (.bool (Inst.same a b)) := by
 have w1 := Wide.beq a.value b.value
 have w2 := Wide.beq a.mask b.mask
 cases k1 : a.kind == b.kind
 · refine FnP.i Tryz.func183 rfl rfl fun G w => ?_
   repeat apply WK.s
   refine WK.G 100 Tryz.ntmps183 ?_
   intro A hA Q hQ
   simp
   apply hQ
   clear hQ hA
   repeat apply WK.s
   refine WK.G 200 Tryz.ntmps183 ?_
   intro A hA Q hQ
   have hg5 : (A[5]?).bind (·.dst) = some 10 := by rw [hA]; rfl
   have hg12 : (A[12]?).bind (·.dst) = some 17 := by rw [hA]; rfl
   have hg19 : (A[19]?).bind (·.dst) = some 24 := by rw [hA]; rfl
   have hg26 : (A[26]?).bind (·.dst) = some 31 := by rw [hA]; rfl
   simp [Inst.enc, k1, hg5, hg12, hg19, hg26]
   apply hQ
   clear hQ hA
   refine WK.t Tryz.func183 (by simp (config := zd) [Tryz.results183, Inst.same, k1]) (by simp [Inst.same, k1])
 cases k2 : a.table == b.table
 · refine FnP.i Tryz.func183 rfl rfl fun G w => ?_
   repeat apply WK.s
   refine WK.G 100 Tryz.ntmps183 ?_
   intro A hA Q hQ
   simp
   apply hQ
   clear hQ hA
   repeat apply WK.s
   refine WK.G 200 Tryz.ntmps183 ?_
   intro A hA Q hQ
   have hg5 : (A[5]?).bind (·.dst) = some 10 := by rw [hA]; rfl
   have hg12 : (A[12]?).bind (·.dst) = some 17 := by rw [hA]; rfl
   have hg19 : (A[19]?).bind (·.dst) = some 24 := by rw [hA]; rfl
   have hg26 : (A[26]?).bind (·.dst) = some 31 := by rw [hA]; rfl
   simp [Inst.enc, k1, k2, hg5, hg12, hg19, hg26]
   apply hQ
   clear hQ hA
   refine WK.t Tryz.func183 (by simp (config := zd) [Tryz.results183, Inst.same, k1, k2]) (by simp [Inst.same, k1, k2])
 cases k3 : a.value == b.value
 · rw [k3] at w1
   refine FnP.i Tryz.func183 rfl rfl fun G w => ?_
   repeat apply WK.s
   refine WK.G 100 Tryz.ntmps183 ?_
   intro A hA Q hQ
   simp
   apply hQ
   clear hQ hA
   repeat apply WK.s
   refine WK.G 200 Tryz.ntmps183 ?_
   intro A hA Q hQ
   have hg5 : (A[5]?).bind (·.dst) = some 10 := by rw [hA]; rfl
   have hg12 : (A[12]?).bind (·.dst) = some 17 := by rw [hA]; rfl
   have hg19 : (A[19]?).bind (·.dst) = some 24 := by rw [hA]; rfl
   have hg26 : (A[26]?).bind (·.dst) = some 31 := by rw [hA]; rfl
   simp [Inst.enc, k1, k2, ← w1, hg5, hg12, hg19, hg26]
   apply hQ
   clear hQ hA
   refine WK.t Tryz.func183 (by simp (config := zd) [Tryz.results183, Inst.same, k1, k2, k3]) (by simp [Inst.same, k1, k2, k3])
 rw [k3] at w1
 cases k4 : a.mask == b.mask
 · rw [k4] at w2
   refine FnP.i Tryz.func183 rfl rfl fun G w => ?_
   repeat apply WK.s
   refine WK.G 100 Tryz.ntmps183 ?_
   intro A hA Q hQ
   simp
   apply hQ
   clear hQ hA
   repeat apply WK.s
   refine WK.G 200 Tryz.ntmps183 ?_
   intro A hA Q hQ
   have hg5 : (A[5]?).bind (·.dst) = some 10 := by rw [hA]; rfl
   have hg12 : (A[12]?).bind (·.dst) = some 17 := by rw [hA]; rfl
   have hg19 : (A[19]?).bind (·.dst) = some 24 := by rw [hA]; rfl
   have hg26 : (A[26]?).bind (·.dst) = some 31 := by rw [hA]; rfl
   simp [Inst.enc, k1, k2, ← w1, ← w2, hg5, hg12, hg19, hg26]
   apply hQ
   clear hQ hA
   refine WK.t Tryz.func183 (by simp (config := zd) [Tryz.results183, Inst.same, k1, k2, k3, k4]) (by simp [Inst.same, k1, k2, k3, k4])
 rw [k4] at w2
 refine FnP.i Tryz.func183 rfl rfl fun G w => ?_
 repeat apply WK.s
 refine WK.G 100 Tryz.ntmps183 ?_
 intro A hA Q hQ
 simp
 apply hQ
 clear hQ hA
 repeat apply WK.s
 refine WK.G 200 Tryz.ntmps183 ?_
 intro A hA Q hQ
 have hg5 : (A[5]?).bind (·.dst) = some 10 := by rw [hA]; rfl
 have hg12 : (A[12]?).bind (·.dst) = some 17 := by rw [hA]; rfl
 have hg19 : (A[19]?).bind (·.dst) = some 24 := by rw [hA]; rfl
 have hg26 : (A[26]?).bind (·.dst) = some 31 := by rw [hA]; rfl
 simp [Inst.enc, k1, k2, ← w1, ← w2, hg5, hg12, hg19, hg26]
 refine RunQ.callG rfl rfl (by simp [hg26, actS]) rfl (by rfl) (by simp (config := zd) [hg26, actS]) (acsame_c a.acts b.acts hl) (by simp [hg26, actS]) ?_
 refine RunQ.eval ?_
 simp [hg26, actS]
 apply hQ
 clear hQ hA
 refine WK.t Tryz.func183 (by simp (config := zd) [Tryz.results183, Inst.same, k1, k2, k3, k4]) (by simp [Inst.same, k1, k2, k3, k4])

theorem rosame_c (a b : Oxm) : FnP Tryz.prog 160 [.agg a.enc, .agg b.enc] (.bool (a == b)) := by
 have w1 := Wide.beq a.value b.value
 have w2 := Wide.beq a.mask b.mask
 have e : (a == b) = (a.field == b.field && (a.masked == b.masked && (a.value == b.value && a.mask == b.mask))) := by
   rw [Oxm.beq, w1, w2]; simp [Bool.and_assoc]
 rw [e]
 cases k1 : a.field == b.field
 · refine FnP.i Tryz.func160 rfl rfl fun G w => ?_
   repeat apply WK.s
   refine WK.G 100 Tryz.ntmps160 ?_
   intro A hA Q hQ
   simp
   apply hQ
   clear hQ hA
   repeat apply WK.s
   refine WK.G 200 Tryz.ntmps160 ?_
   intro A hA Q hQ
   have hg5 : (A[5]?).bind (·.dst) = some 10 := by rw [hA]; rfl
   have hg12 : (A[12]?).bind (·.dst) = some 17 := by rw [hA]; rfl
   have hg19 : (A[19]?).bind (·.dst) = some 24 := by rw [hA]; rfl
   simp [Oxm.enc, k1, hg5, hg12, hg19]
   apply hQ
   clear hQ hA
   refine WK.t Tryz.func160 (by simp (config := zd) [Tryz.results160, k1]) (by simp [k1])
 cases k2 : a.masked == b.masked
 · refine FnP.i Tryz.func160 rfl rfl fun G w => ?_
   repeat apply WK.s
   refine WK.G 100 Tryz.ntmps160 ?_
   intro A hA Q hQ
   simp
   apply hQ
   clear hQ hA
   repeat apply WK.s
   refine WK.G 200 Tryz.ntmps160 ?_
   intro A hA Q hQ
   have hg5 : (A[5]?).bind (·.dst) = some 10 := by rw [hA]; rfl
   have hg12 : (A[12]?).bind (·.dst) = some 17 := by rw [hA]; rfl
   have hg19 : (A[19]?).bind (·.dst) = some 24 := by rw [hA]; rfl
   simp [Oxm.enc, k1, k2, hg5, hg12, hg19]
   apply hQ
   clear hQ hA
   refine WK.t Tryz.func160 (by simp (config := zd) [Tryz.results160, k1, k2]) (by simp [k1, k2])
 cases k3 : a.value == b.value
 · rw [k3] at w1
   refine FnP.i Tryz.func160 rfl rfl fun G w => ?_
   repeat apply WK.s
   refine WK.G 100 Tryz.ntmps160 ?_
   intro A hA Q hQ
   simp
   apply hQ
   clear hQ hA
   repeat apply WK.s
   refine WK.G 200 Tryz.ntmps160 ?_
   intro A hA Q hQ
   have hg5 : (A[5]?).bind (·.dst) = some 10 := by rw [hA]; rfl
   have hg12 : (A[12]?).bind (·.dst) = some 17 := by rw [hA]; rfl
   have hg19 : (A[19]?).bind (·.dst) = some 24 := by rw [hA]; rfl
   simp [Oxm.enc, k1, k2, ← w1, hg5, hg12, hg19]
   apply hQ
   clear hQ hA
   refine WK.t Tryz.func160 (by simp (config := zd) [Tryz.results160, k1, k2, k3]) (by simp [k1, k2, k3])
 rw [k3] at w1
 refine FnP.i Tryz.func160 rfl rfl fun G w => ?_
 repeat apply WK.s
 refine WK.G 100 Tryz.ntmps160 ?_
 intro A hA Q hQ
 simp
 apply hQ
 clear hQ hA
 repeat apply WK.s
 refine WK.G 200 Tryz.ntmps160 ?_
 intro A hA Q hQ
 have hg5 : (A[5]?).bind (·.dst) = some 10 := by rw [hA]; rfl
 have hg12 : (A[12]?).bind (·.dst) = some 17 := by rw [hA]; rfl
 have hg19 : (A[19]?).bind (·.dst) = some 24 := by rw [hA]; rfl
 simp [Oxm.enc, k1, k2, ← w1, ← w2, hg5, hg12, hg19]
 apply hQ
 clear hQ hA
 refine WK.t Tryz.func160 (by simp (config := zd) [Tryz.results160, k1, k2, k3]) (by simp [k1, k2, k3])
theorem rasame_c (a b : Action) : FnP Tryz.prog 103 [.agg a.enc, .agg b.enc] (.bool (a == b)) := by
 rw [Action.beq]
 cases k1 : a.kind == b.kind
 · refine FnP.i Tryz.func103 rfl rfl fun G w => ?_
   repeat apply WK.s
   refine WK.G 100 Tryz.ntmps103 ?_
   intro A hA Q hQ
   simp
   apply hQ
   clear hQ hA
   repeat apply WK.s
   refine WK.G 200 Tryz.ntmps103 ?_
   intro A hA Q hQ
   have hg5 : (A[5]?).bind (·.dst) = some 10 := by rw [hA]; rfl
   have hg12 : (A[12]?).bind (·.dst) = some 17 := by rw [hA]; rfl
   have hg19 : (A[19]?).bind (·.dst) = some 24 := by rw [hA]; rfl
   have hg26 : (A[26]?).bind (·.dst) = some 31 := by rw [hA]; rfl
   have hg33 : (A[33]?).bind (·.dst) = some 38 := by rw [hA]; rfl
   simp [Action.enc, k1, hg5, hg12, hg19, hg26, hg33]
   apply hQ
   clear hQ hA
   refine WK.t Tryz.func103 (by simp (config := zd) [Tryz.results103, k1]) (by simp [k1])
 cases k2 : a.port == b.port
 · refine FnP.i Tryz.func103 rfl rfl fun G w => ?_
   repeat apply WK.s
   refine WK.G 100 Tryz.ntmps103 ?_
   intro A hA Q hQ
   simp
   apply hQ
   clear hQ hA
   repeat apply WK.s
   refine WK.G 200 Tryz.ntmps103 ?_
   intro A hA Q hQ
   have hg5 : (A[5]?).bind (·.dst) = some 10 := by rw [hA]; rfl
   have hg12 : (A[12]?).bind (·.dst) = some 17 := by rw [hA]; rfl
   have hg19 : (A[19]?).bind (·.dst) = some 24 := by rw [hA]; rfl
   have hg26 : (A[26]?).bind (·.dst) = some 31 := by rw [hA]; rfl
   have hg33 : (A[33]?).bind (·.dst) = some 38 := by rw [hA]; rfl
   simp [Action.enc, k1, k2, hg5, hg12, hg19, hg26, hg33]
   apply hQ
   clear hQ hA
   refine WK.t Tryz.func103 (by simp (config := zd) [Tryz.results103, k1, k2]) (by simp [k1, k2])
 cases k3 : a.max == b.max
 · refine FnP.i Tryz.func103 rfl rfl fun G w => ?_
   repeat apply WK.s
   refine WK.G 100 Tryz.ntmps103 ?_
   intro A hA Q hQ
   simp
   apply hQ
   clear hQ hA
   repeat apply WK.s
   refine WK.G 200 Tryz.ntmps103 ?_
   intro A hA Q hQ
   have hg5 : (A[5]?).bind (·.dst) = some 10 := by rw [hA]; rfl
   have hg12 : (A[12]?).bind (·.dst) = some 17 := by rw [hA]; rfl
   have hg19 : (A[19]?).bind (·.dst) = some 24 := by rw [hA]; rfl
   have hg26 : (A[26]?).bind (·.dst) = some 31 := by rw [hA]; rfl
   have hg33 : (A[33]?).bind (·.dst) = some 38 := by rw [hA]; rfl
   simp [Action.enc, k1, k2, k3, hg5, hg12, hg19, hg26, hg33]
   apply hQ
   clear hQ hA
   refine WK.t Tryz.func103 (by simp (config := zd) [Tryz.results103, k1, k2, k3]) (by simp [k1, k2, k3])
 cases k4 : a.group == b.group
 · refine FnP.i Tryz.func103 rfl rfl fun G w => ?_
   repeat apply WK.s
   refine WK.G 100 Tryz.ntmps103 ?_
   intro A hA Q hQ
   simp
   apply hQ
   clear hQ hA
   repeat apply WK.s
   refine WK.G 200 Tryz.ntmps103 ?_
   intro A hA Q hQ
   have hg5 : (A[5]?).bind (·.dst) = some 10 := by rw [hA]; rfl
   have hg12 : (A[12]?).bind (·.dst) = some 17 := by rw [hA]; rfl
   have hg19 : (A[19]?).bind (·.dst) = some 24 := by rw [hA]; rfl
   have hg26 : (A[26]?).bind (·.dst) = some 31 := by rw [hA]; rfl
   have hg33 : (A[33]?).bind (·.dst) = some 38 := by rw [hA]; rfl
   simp [Action.enc, k1, k2, k3, k4, hg5, hg12, hg19, hg26, hg33]
   apply hQ
   clear hQ hA
   refine WK.t Tryz.func103 (by simp (config := zd) [Tryz.results103, k1, k2, k3, k4]) (by simp [k1, k2, k3, k4])
 cases k5 : a.ether == b.ether
 · refine FnP.i Tryz.func103 rfl rfl fun G w => ?_
   repeat apply WK.s
   refine WK.G 100 Tryz.ntmps103 ?_
   intro A hA Q hQ
   simp
   apply hQ
   clear hQ hA
   repeat apply WK.s
   refine WK.G 200 Tryz.ntmps103 ?_
   intro A hA Q hQ
   have hg5 : (A[5]?).bind (·.dst) = some 10 := by rw [hA]; rfl
   have hg12 : (A[12]?).bind (·.dst) = some 17 := by rw [hA]; rfl
   have hg19 : (A[19]?).bind (·.dst) = some 24 := by rw [hA]; rfl
   have hg26 : (A[26]?).bind (·.dst) = some 31 := by rw [hA]; rfl
   have hg33 : (A[33]?).bind (·.dst) = some 38 := by rw [hA]; rfl
   simp [Action.enc, k1, k2, k3, k4, k5, hg5, hg12, hg19, hg26, hg33]
   apply hQ
   clear hQ hA
   refine WK.t Tryz.func103 (by simp (config := zd) [Tryz.results103, k1, k2, k3, k4, k5]) (by simp [k1, k2, k3, k4, k5])
 refine FnP.i Tryz.func103 rfl rfl fun G w => ?_
 repeat apply WK.s
 refine WK.G 100 Tryz.ntmps103 ?_
 intro A hA Q hQ
 simp
 apply hQ
 clear hQ hA
 repeat apply WK.s
 refine WK.G 200 Tryz.ntmps103 ?_
 intro A hA Q hQ
 have hg5 : (A[5]?).bind (·.dst) = some 10 := by rw [hA]; rfl
 have hg12 : (A[12]?).bind (·.dst) = some 17 := by rw [hA]; rfl
 have hg19 : (A[19]?).bind (·.dst) = some 24 := by rw [hA]; rfl
 have hg26 : (A[26]?).bind (·.dst) = some 31 := by rw [hA]; rfl
 have hg33 : (A[33]?).bind (·.dst) = some 38 := by rw [hA]; rfl
 simp [Action.enc, k1, k2, k3, k4, k5, hg5, hg12, hg19, hg26, hg33]
 refine RunQ.callG rfl rfl (by simp [hg33, Oxm.enc]) rfl (by rfl) (by simp (config := zd) [hg33, Oxm.enc]) (rosame_c a.oxm b.oxm) (by simp [hg33, Oxm.enc]) ?_
 refine RunQ.eval ?_
 simp [hg33, Oxm.enc]
 apply hQ
 clear hQ hA
 refine WK.t Tryz.func103 (by simp (config := zd) [Tryz.results103, k1, k2, k3, k4, k5]) (by simp [k1, k2, k3, k4, k5])
theorem rsame_act (l m : List Action) (hl : l.length ≤ 1000000) : FnP Tryz.prog 55 [actS l, actS m] (.bool (eqBy (fun x y => x == y) l m)) := by
 unfold actS
 refine FnP.i Tryz.func55 rfl rfl fun G w => ?_
 repeat apply WK.s
 refine WK.G 100 Tryz.ntmps55 ?_
 intro A hA Q hQ
 simp
 apply hQ
 clear hQ hA
 repeat apply WK.s
 refine WK.G 200 Tryz.ntmps55 ?_
 intro A hA Q hQ
 simp
 apply hQ
 clear hQ hA
 refine WK.c2 rfl (fun h => ?_) (fun h => ?_)
 · simp at h
   have e : eqBy (fun x y => x == y) l m = false := by unfold eqBy; simp; intro e; omega
   repeat apply WK.s
   refine WK.G 300 Tryz.ntmps55 ?_
   intro A hA Q hQ
   simp
   apply hQ
   clear hQ hA
   refine WK.t Tryz.func55 (by simp (config := zd) [Tryz.results55, e]) (by simp [e])
 · simp at h
   have hlm : l.length = m.length := by omega
   repeat (first | apply WK.s | apply WK.k)
   refine WK.G 400 Tryz.ntmps55 ?_
   intro A hA Q hQ
   simp
   apply hQ
   clear hQ hA
   repeat (apply WK.b)
   refine WK.L (fun n => n) (fun i : Nat => (⟨(upd (upd (upd J 0 (.sl false l.length (actL l))) 1 (.sl false m.length (actL m))) 5 (.int .i64 i)), B0, 0⟩ : St)) (fun i => i ≤ l.length ∧ ∀ j, j < i → (nth l j == nth m j) = true) (fun i => l.length - i) (0) (by repeat (first | exact TmW.nil | refine TmW.upd ?_ (by simp (config := zd)))) (by repeat (first | exact BxW.nil | refine BxW.upd ?_ (by simp (config := zd)))) (⟨by omega, by simp⟩) (fun i hi IH => ?_)
   repeat apply WK.s
   refine WK.G 500 Tryz.ntmps55 ?_
   intro A hA Q hQ
   simp
   apply hQ
   clear hQ hA
   refine WK.c2 rfl (fun h1 => ?_) (fun h1 => ?_)
   · simp at h1
     have h2 : i < l.length := by omega
     have h2' : i < m.length := by omega
     have h3 : 11 ≤ l.length * 11 - i * 11 := by omega
     have h3' : 11 ≤ m.length * 11 - i * 11 := by omega
     have h4 := act_sub l i h2
     have h4' := act_sub m i h2'
     have h6 : IntKind.i64.wrap ((i : Int) + 1) = i + 1 := wrap_i64 (by omega) (by omega)
     repeat (first | apply WK.s | apply WK.b | apply WK.k)
     refine WK.D 600 Tryz.ntmps55 ?_
     intro A hA Q hQ
     simp [h2, h2', h3, h3', h4, h4']
     refine RunQ.call rfl rfl rfl rfl (by rfl) (by simp (config := zd)) (rasame_c (nth l i) (nth m i)) (by simp) ?_
     refine RunQ.eval ?_
     simp
     apply hQ
     clear hQ hA
     refine WK.c2 rfl (fun h5 => ?_) (fun h5 => ?_)
     · simp at h5
       have e : eqBy (fun x y => x == y) l m = false := by unfold eqBy; rw [all_range_false (p := fun i => (nth l i == nth m i)) h2 (by simpa using h5)]; simp
       repeat apply WK.s
       refine WK.G 700 Tryz.ntmps55 ?_
       intro A hA Q hQ
       simp
       apply hQ
       clear hQ hA
       refine WK.t Tryz.func55 (by simp (config := zd) [Tryz.results55, e]) (by simp [e])
     · simp at h5
       repeat (first | apply WK.n | apply WK.k)
       refine WK.G 800 Tryz.ntmps55 ?_
       intro A hA Q hQ
       simp [h6]
       apply hQ
       clear hQ hA
       refine WK.N (fun n => n) (IH (i + 1) (⟨by omega, fun j hj => by by_cases h7 : j = i; (subst h7; simpa using h5); exact hi.2 j (by omega)⟩) (by first | omega | (dsimp only; omega)))
   · simp at h1
     have e : eqBy (fun x y => x == y) l m = true := by unfold eqBy; rw [all_range_true (p := fun i => (nth l i == nth m i)) (fun j hj => hi.2 j (by omega))]; simp [hlm]
     repeat (first | apply WK.s | refine WK.exit rfl ?_)
     refine WK.G 900 Tryz.ntmps55 ?_
     intro A hA Q hQ
     simp
     apply hQ
     clear hQ hA
     refine WK.t Tryz.func55 (by simp (config := zd) [Tryz.results55, e]) (by simp [e])
theorem risame_c (a b : Inst) (hl : a.acts.length ≤ 1000000) : FnP Tryz.prog 198 [.agg a.enc, .agg b.enc] (.bool (Inst.same a b)) := by
 have w1 := Wide.beq a.value b.value
 have w2 := Wide.beq a.mask b.mask
 cases k1 : a.kind == b.kind
 · refine FnP.i Tryz.func198 rfl rfl fun G w => ?_
   repeat apply WK.s
   refine WK.G 100 Tryz.ntmps198 ?_
   intro A hA Q hQ
   simp
   apply hQ
   clear hQ hA
   repeat apply WK.s
   refine WK.G 200 Tryz.ntmps198 ?_
   intro A hA Q hQ
   have hg5 : (A[5]?).bind (·.dst) = some 10 := by rw [hA]; rfl
   have hg12 : (A[12]?).bind (·.dst) = some 17 := by rw [hA]; rfl
   have hg19 : (A[19]?).bind (·.dst) = some 24 := by rw [hA]; rfl
   have hg26 : (A[26]?).bind (·.dst) = some 31 := by rw [hA]; rfl
   simp [Inst.enc, k1, hg5, hg12, hg19, hg26]
   apply hQ
   clear hQ hA
   refine WK.t Tryz.func198 (by simp (config := zd) [Tryz.results198, Inst.same, k1]) (by simp [Inst.same, k1])
 cases k2 : a.table == b.table
 · refine FnP.i Tryz.func198 rfl rfl fun G w => ?_
   repeat apply WK.s
   refine WK.G 100 Tryz.ntmps198 ?_
   intro A hA Q hQ
   simp
   apply hQ
   clear hQ hA
   repeat apply WK.s
   refine WK.G 200 Tryz.ntmps198 ?_
   intro A hA Q hQ
   have hg5 : (A[5]?).bind (·.dst) = some 10 := by rw [hA]; rfl
   have hg12 : (A[12]?).bind (·.dst) = some 17 := by rw [hA]; rfl
   have hg19 : (A[19]?).bind (·.dst) = some 24 := by rw [hA]; rfl
   have hg26 : (A[26]?).bind (·.dst) = some 31 := by rw [hA]; rfl
   simp [Inst.enc, k1, k2, hg5, hg12, hg19, hg26]
   apply hQ
   clear hQ hA
   refine WK.t Tryz.func198 (by simp (config := zd) [Tryz.results198, Inst.same, k1, k2]) (by simp [Inst.same, k1, k2])
 cases k3 : a.value == b.value
 · rw [k3] at w1
   refine FnP.i Tryz.func198 rfl rfl fun G w => ?_
   repeat apply WK.s
   refine WK.G 100 Tryz.ntmps198 ?_
   intro A hA Q hQ
   simp
   apply hQ
   clear hQ hA
   repeat apply WK.s
   refine WK.G 200 Tryz.ntmps198 ?_
   intro A hA Q hQ
   have hg5 : (A[5]?).bind (·.dst) = some 10 := by rw [hA]; rfl
   have hg12 : (A[12]?).bind (·.dst) = some 17 := by rw [hA]; rfl
   have hg19 : (A[19]?).bind (·.dst) = some 24 := by rw [hA]; rfl
   have hg26 : (A[26]?).bind (·.dst) = some 31 := by rw [hA]; rfl
   simp [Inst.enc, k1, k2, ← w1, hg5, hg12, hg19, hg26]
   apply hQ
   clear hQ hA
   refine WK.t Tryz.func198 (by simp (config := zd) [Tryz.results198, Inst.same, k1, k2, k3]) (by simp [Inst.same, k1, k2, k3])
 rw [k3] at w1
 cases k4 : a.mask == b.mask
 · rw [k4] at w2
   refine FnP.i Tryz.func198 rfl rfl fun G w => ?_
   repeat apply WK.s
   refine WK.G 100 Tryz.ntmps198 ?_
   intro A hA Q hQ
   simp
   apply hQ
   clear hQ hA
   repeat apply WK.s
   refine WK.G 200 Tryz.ntmps198 ?_
   intro A hA Q hQ
   have hg5 : (A[5]?).bind (·.dst) = some 10 := by rw [hA]; rfl
   have hg12 : (A[12]?).bind (·.dst) = some 17 := by rw [hA]; rfl
   have hg19 : (A[19]?).bind (·.dst) = some 24 := by rw [hA]; rfl
   have hg26 : (A[26]?).bind (·.dst) = some 31 := by rw [hA]; rfl
   simp [Inst.enc, k1, k2, ← w1, ← w2, hg5, hg12, hg19, hg26]
   apply hQ
   clear hQ hA
   refine WK.t Tryz.func198 (by simp (config := zd) [Tryz.results198, Inst.same, k1, k2, k3, k4]) (by simp [Inst.same, k1, k2, k3, k4])
 rw [k4] at w2
 refine FnP.i Tryz.func198 rfl rfl fun G w => ?_
 repeat apply WK.s
 refine WK.G 100 Tryz.ntmps198 ?_
 intro A hA Q hQ
 simp
 apply hQ
 clear hQ hA
 repeat apply WK.s
 refine WK.G 200 Tryz.ntmps198 ?_
 intro A hA Q hQ
 have hg5 : (A[5]?).bind (·.dst) = some 10 := by rw [hA]; rfl
 have hg12 : (A[12]?).bind (·.dst) = some 17 := by rw [hA]; rfl
 have hg19 : (A[19]?).bind (·.dst) = some 24 := by rw [hA]; rfl
 have hg26 : (A[26]?).bind (·.dst) = some 31 := by rw [hA]; rfl
 simp [Inst.enc, k1, k2, ← w1, ← w2, hg5, hg12, hg19, hg26]
 refine RunQ.callG rfl rfl (by simp [hg26, actS]) rfl (by rfl) (by simp (config := zd) [hg26, actS]) (rsame_act a.acts b.acts hl) (by simp [hg26, actS]) ?_
 refine RunQ.eval ?_
 simp [hg26, actS]
 apply hQ
 clear hQ hA
 refine WK.t Tryz.func198 (by simp (config := zd) [Tryz.results198, Inst.same, k1, k2, k3, k4]) (by simp [Inst.same, k1, k2, k3, k4])
theorem iequal_c (l m : List Int) (hl : l.length ≤ 1000000) : FnP Tryz.prog 14 [intS l, intS m] (.bool (eqBy (fun x y => x == y) l m)) := by
 unfold intS
 refine FnP.i Tryz.func14 rfl rfl fun G w => ?_
 refine WK.z ?_
 first | refine WK.G 100 Tryz.ntmps14 ?_ | refine WK.D 100 Tryz.ntmps14 ?_
 intro A hA Q hQ
 simp
 apply hQ
 clear hQ hA
 refine WK.z ?_
 first | refine WK.G 200 Tryz.ntmps14 ?_ | refine WK.D 200 Tryz.ntmps14 ?_
 intro A hA Q hQ
 simp
 apply hQ
 clear hQ hA
 refine WK.z ?_
 refine WK.c2 rfl (fun h => ?_) (fun h => ?_)
 · simp at h
   have e : eqBy (fun x y => x == y) l m = false := by unfold eqBy; simp; intro e; omega
   refine WK.z ?_
   first | refine WK.G 300 Tryz.ntmps14 ?_ | refine WK.D 300 Tryz.ntmps14 ?_
   intro A hA Q hQ
   simp
   apply hQ
   clear hQ hA
   refine WK.z ?_
   refine WK.t Tryz.func14 (by simp (config := zd) [Tryz.results14, e]) (by simp [e])
 · simp at h
   have hlm : l.length = m.length := by omega
   refine WK.z ?_
   first | refine WK.G 400 Tryz.ntmps14 ?_ | refine WK.D 400 Tryz.ntmps14 ?_
   intro A hA Q hQ
   simp
   apply hQ
   clear hQ hA
   refine WK.z ?_
   refine WK.L (fun n => n) (fun i : Nat => (⟨(upd (upd (upd (upd J 0 (.sl false l.length (intL l))) 1 (.sl false m.length (intL m))) 12 (.int .i64 l.length)) 13 (.int .i64 i)), B0, 0⟩ : St)) (fun i => i ≤ l.length ∧ ∀ j, j < i → (nth l j == nth m j) = true) (fun i => l.length - i) (0) (by repeat (first | exact TmW.nil | refine TmW.upd ?_ (by simp (config := zd)))) (by repeat (first | exact BxW.nil | refine BxW.upd ?_ (by simp (config := zd)))) (⟨by omega, by simp⟩) (fun i hi IH => ?_)
   refine WK.z ?_
   first | refine WK.G 500 Tryz.ntmps14 ?_ | refine WK.D 500 Tryz.ntmps14 ?_
   intro A hA Q hQ
   simp
   apply hQ
   clear hQ hA
   refine WK.z ?_
   refine WK.c2 rfl (fun h1 => ?_) (fun h1 => ?_)
   · simp at h1
     have h2 : i < l.length := by omega
     have h2' : i < m.length := by omega
     have h4 := intL_get' l i h2
     have h4' := intL_get' m i h2'
     have h6 : IntKind.i64.wrap ((i : Int) + 1) = i + 1 := wrap_i64 (by omega) (by omega)
     refine WK.z ?_
     first | refine WK.G 600 Tryz.ntmps14 ?_ | refine WK.D 600 Tryz.ntmps14 ?_
     intro A hA Q hQ
     simp
     apply hQ
     clear hQ hA
     refine WK.z ?_
     first | refine WK.G 700 Tryz.ntmps14 ?_ | refine WK.D 700 Tryz.ntmps14 ?_
     intro A hA Q hQ
     simp [h2, h2', h4, h4']
     apply hQ
     clear hQ hA
     refine WK.z ?_
     refine WK.c2 rfl (fun h5 => ?_) (fun h5 => ?_)
     · simp at h5
       have e : eqBy (fun x y => x == y) l m = false := by unfold eqBy; rw [all_range_false (p := fun i => (nth l i == nth m i)) h2 (by simpa using h5)]; simp
       refine WK.z ?_
       first | refine WK.G 800 Tryz.ntmps14 ?_ | refine WK.D 800 Tryz.ntmps14 ?_
       intro A hA Q hQ
       simp
       apply hQ
       clear hQ hA
       refine WK.z ?_
       refine WK.t Tryz.func14 (by simp (config := zd) [Tryz.results14, e]) (by simp [e])
     · simp at h5
       refine WK.z ?_
       first | refine WK.G 900 Tryz.ntmps14 ?_ | refine WK.D 900 Tryz.ntmps14 ?_
       intro A hA Q hQ
       simp [h6]
       apply hQ
       clear hQ hA
       refine WK.z ?_
       refine WK.N (fun n => n) (IH (i + 1) (⟨by omega, fun j hj => by by_cases h7 : j = i; (subst h7; simpa using h5); exact hi.2 j (by omega)⟩) (by first | omega | (dsimp only; omega)))
   · simp at h1
     have e : eqBy (fun x y => x == y) l m = true := by unfold eqBy; rw [all_range_true (p := fun i => (nth l i == nth m i)) (fun j hj => hi.2 j (by omega))]; simp [hlm]
     refine WK.z ?_
     first | refine WK.G 1000 Tryz.ntmps14 ?_ | refine WK.D 1000 Tryz.ntmps14 ?_
     intro A hA Q hQ
     simp
     apply hQ
     clear hQ hA
     refine WK.z ?_
     refine WK.t Tryz.func14 (by simp (config := zd) [Tryz.results14, e]) (by simp [e])

def idxI {α : Type} (p : α → Bool) (l : List α) : Int := match l.findIdx? p with | some i => i | none => -1
theorem idxI_some {α : Type} [Inhabited α] {p : α → Bool} {l : List α} {i : Nat} (h : i < l.length) (hp : p (nth l i) = true) (hn : ∀ j, j < i → p (nth l j) = false) : idxI p l = i := by
 unfold idxI
 have : l.findIdx? p = some i := by
   rw [List.findIdx?_eq_some_iff_getElem]
   refine ⟨h, by rw [← nth_eq h]; exact hp, fun j hj => ?_⟩
   rw [← nth_eq (by omega)]; simp [hn j hj]
 rw [this]
theorem idxI_none {α : Type} [Inhabited α] {p : α → Bool} {l : List α} (hn : ∀ j, j < l.length → p (nth l j) = false) : idxI p l = -1 := by
 unfold idxI
 have : l.findIdx? p = none := by
   rw [List.findIdx?_eq_none_iff]
   intro x hx
   obtain ⟨i, hi, rfl⟩ := mem_nth hx
   exact hn i hi
 rw [this]
theorem idxI_ge {α : Type} (p : α → Bool) (l : List α) : decide (idxI p l ≥ 0) = l.any p := by
 unfold idxI
 cases h : l.findIdx? p with
 | none =>
   rw [List.findIdx?_eq_none_iff] at h
   have : l.any p = false := by rw [List.any_eq_false]; intro x hx; simp [h x hx]
   simp [this]
 | some i =>
   rw [List.findIdx?_eq_some_iff_getElem] at h
   obtain ⟨hi, hp, _⟩ := h
   have : l.any p = true := List.any_eq_true.2 ⟨_, List.getElem_mem hi, hp⟩
   simp [this]
theorem indexf_inst (fid : Nat) (caps : List AV) (p : Inst → Bool) (l : List Inst) (hcl : ClL caps = true) (hl : l.length ≤ 1000000)
   (hf : ∀ x, x ∈ l → FnP Tryz.prog fid (.agg x.enc :: caps) (.bool (p x))) :
   FnP Tryz.prog 204 [instS l, .fn fid caps] (.int .i64 (idxI p l)) := by
 unfold instS
 refine FnP.i Tryz.func204 rfl rfl fun G w => ?_
 repeat apply WK.s
 refine WK.G 100 Tryz.ntmps204 ?_
 intro A hA Q hQ
 simp
 apply hQ
 clear hQ hA
 repeat apply WK.s
 refine WK.G 200 Tryz.ntmps204 ?_
 intro A hA Q hQ
 simp
 apply hQ
 clear hQ hA
 repeat (apply WK.b)
 refine WK.L (fun n => n) (fun i : Nat => (⟨(upd (upd (upd (upd J 0 (.sl false l.length (instL l))) 1 (.fn fid caps)) 7 (.int .i64 l.length)) 8 (.int .i64 i)), B0, 0⟩ : St)) (fun i => i ≤ l.length ∧ ∀ j, j < i → p (nth l j) = false) (fun i => l.length - i) (0) (by repeat (first | exact TmW.nil | refine TmW.upd ?_ (by simp (config := zd) [hcl]))) (by repeat (first | exact BxW.nil | refine BxW.upd ?_ (by simp (config := zd) [hcl]))) (⟨by omega, by simp⟩) (fun i hi IH => ?_)
 repeat apply WK.s
 refine WK.G 300 Tryz.ntmps204 ?_
 intro A hA Q hQ
 simp
 apply hQ
 clear hQ hA
 repeat apply WK.s
 refine WK.c2 rfl (fun h1 => ?_) (fun h1 => ?_)
 · simp at h1
   have h2 : i < l.length := by omega
   have h3 : 7 ≤ l.length * 7 - i * 7 := by omega
   have h4 := inst_sub l i h2
   have h6 : IntKind.i64.wrap ((i : Int) + 1) = i + 1 := wrap_i64 (by omega) (by omega)
   repeat (first | apply WK.s | apply WK.b | apply WK.k)
   refine WK.G 400 Tryz.ntmps204 ?_
   intro A hA Q hQ
   simp
   apply hQ
   clear hQ hA
   repeat apply WK.s
   refine WK.G 500 Tryz.ntmps204 ?_
   intro A hA Q hQ
   simp [h2, h3, h4]
   refine RunQ.call rfl rfl rfl rfl (by rfl) (by simp (config := zd) [hcl]) (hf (nth l i) (nth_mem h2)) (by simp [hcl]) ?_
   refine RunQ.eval ?_
   simp [hcl]
   apply hQ
   clear hQ hA
   refine WK.c2 rfl (fun h5 => ?_) (fun h5 => ?_)
   · have e := idxI_some h2 h5 hi.2
     repeat apply WK.s
     refine WK.G 600 Tryz.ntmps204 ?_
     intro A hA Q hQ
     simp
     apply hQ
     clear hQ hA
     refine WK.t Tryz.func204 (by simp (config := zd) [Tryz.results204, e]) (by simp [e])
   · repeat (first | apply WK.n | apply WK.k)
     refine WK.G 700 Tryz.ntmps204 ?_
     intro A hA Q hQ
     simp [h6]
     apply hQ
     clear hQ hA
     refine WK.N (fun n => n) (IH (i + 1) (⟨by omega, fun j hj => by by_cases h7 : j = i; (subst h7; exact h5); exact hi.2 j (by omega)⟩) (by first | omega | (dsimp only; omega))) (by repeat (first | exact TmW.nil | refine TmW.upd ?_ (by simp (config := zd) [hcl]))) (by repeat (first | exact BxW.nil | refine BxW.upd ?_ (by simp (config := zd) [hcl])))
 · simp at h1
   have e := idxI_none (p := p) (l := l) (fun j hj => hi.2 j (by omega))
   repeat (first | apply WK.s | refine WK.exit rfl ?_)
   refine WK.G 800 Tryz.ntmps204 ?_
   intro A hA Q hQ
   simp
   apply hQ
   clear hQ hA
   refine WK.t Tryz.func204 (by simp (config := zd) [Tryz.results204, e]) (by simp [e])
theorem containsf_inst (fid : Nat) (caps : List AV) (p : Inst → Bool) (l : List Inst) (hcl : ClL caps = true) (hl : l.length ≤ 1000000)
   (hf : ∀ x, x ∈ l → FnP Tryz.prog fid (.agg x.enc :: caps) (.bool (p x))) :
   FnP Tryz.prog 169 [instS l, .fn fid caps] (.bool (l.any p)) := by
 have e := idxI_ge p l
 simp only [ge_iff_le] at e
 refine FnP.i Tryz.func169 rfl rfl fun G w => ?_
 repeat apply WK.s
 refine WK.G 100 Tryz.ntmps169 ?_
 intro A hA Q hQ
 simp
 apply hQ
 clear hQ hA
 repeat apply WK.s
 refine WK.G 200 Tryz.ntmps169 ?_
 intro A hA Q hQ
 simp
 refine RunQ.call rfl rfl rfl rfl (by rfl) (by simp (config := zd) [hcl]) (indexf_inst fid caps p l hcl hl hf) (by simp [hcl]) ?_
 refine RunQ.eval ?_
 simp [hcl]
 apply hQ
 clear hQ hA
 refine WK.t Tryz.func169 (by simp (config := zd) [Tryz.results169, e]) (by simp [e])
def actsPlain (l : List Action) : Bool := decide (l.length ≤ 12)
def instsPlain (l : List Inst) : Bool := decide (l.length ≤ 8) && l.all fun i => actsPlain i.acts
def Flow.plain (f : Flow) : Bool := decide (f.mat.length ≤ 30) && instsPlain f.insts
def FlowMod.plain (m : FlowMod) : Bool := decide (m.mat.length ≤ 30) && instsPlain m.insts
theorem pacts_c (l : List Action) : FnP Tryz.prog 120 [actS l] (.bool (actsPlain l)) := by
 unfold actS
 refine FnP.i Tryz.func120 rfl rfl fun G w => ?_
 repeat apply WK.s
 refine WK.G 100 Tryz.ntmps120 ?_
 intro A hA Q hQ
 simp
 apply hQ
 clear hQ hA
 repeat apply WK.s
 refine WK.G 200 Tryz.ntmps120 ?_
 intro A hA Q hQ
 simp
 apply hQ
 clear hQ hA
 have e : decide ((l.length : Int) ≤ 12) = decide (l.length ≤ 12) := decide_eq_decide.2 (by omega)
 refine WK.t Tryz.func120 (by simp (config := zd) [Tryz.results120, actsPlain, e]) (by simp [actsPlain, e])
theorem pinst1_c (i : Inst) : FnP Tryz.prog 170 [.agg i.enc] (.bool (!actsPlain i.acts)) := by
 refine FnP.i Tryz.func170 rfl rfl fun G w => ?_
 repeat apply WK.s
 refine WK.G 100 Tryz.ntmps170 ?_
 intro A hA Q hQ
 simp
 apply hQ
 clear hQ hA
 repeat apply WK.s
 refine WK.G 200 Tryz.ntmps170 ?_
 intro A hA Q hQ
 simp [Inst.enc]
 refine RunQ.call rfl rfl rfl rfl (by rfl) (by simp (config := zd) [actS]) (pacts_c i.acts) (by simp [actS]) ?_
 refine RunQ.eval ?_
 simp [actS]
 apply hQ
 clear hQ hA
 refine WK.t Tryz.func170 (by simp (config := zd) [Tryz.results170]) (by simp)
theorem pinsts_c (l : List Inst) : FnP Tryz.prog 118 [instS l] (.bool (instsPlain l)) := by
 unfold instsPlain
 cases h : decide (l.length ≤ 8)
 · have h2 : ¬ ((l.length : Int) ≤ 8) := by simp at h; omega
   refine FnP.i Tryz.func118 rfl rfl fun G w => ?_
   repeat apply WK.s
   refine WK.G 100 Tryz.ntmps118 ?_
   intro A hA Q hQ
   simp
   apply hQ
   clear hQ hA
   repeat apply WK.s
   refine WK.G 200 Tryz.ntmps118 ?_
   intro A hA Q hQ
   have hg3 : (A[3]?).bind (·.dst) = some 6 := by rw [hA]; rfl
   simp [instS, h2, hg3]
   apply hQ
   clear hQ hA
   refine WK.t Tryz.func118 (by simp (config := zd) [Tryz.results118, h]) (by simp [h])
 · have h2 : ((l.length : Int) ≤ 8) := by simp at h; omega
   have e : (!(l.any fun i => !actsPlain i.acts)) = l.all fun i => actsPlain i.acts := by rw [← List.not_all_eq_any_not, Bool.not_not]
   refine FnP.i Tryz.func118 rfl rfl fun G w => ?_
   repeat apply WK.s
   refine WK.G 100 Tryz.ntmps118 ?_
   intro A hA Q hQ
   simp
   apply hQ
   clear hQ hA
   repeat apply WK.s
   refine WK.G 200 Tryz.ntmps118 ?_
   intro A hA Q hQ
   have hg3 : (A[3]?).bind (·.dst) = some 6 := by rw [hA]; rfl
   simp [instS, h2, hg3]
   refine RunQ.callG rfl rfl (by simp [hg3, instS]) rfl (by rfl) (by simp (config := zd) [hg3, instS]) (containsf_inst 170 [] (fun i => !actsPlain i.acts) l rfl (by omega) (fun x _ => pinst1_c x)) (by simp [hg3, instS]) ?_
   refine RunQ.eval ?_
   simp [hg3, instS]
   apply hQ
   clear hQ hA
   refine WK.t Tryz.func118 (by simp (config := zd) [Tryz.results118, e]) (by simp [e])
theorem pFlow_c (f : Flow) : FnP Tryz.prog 61 [.agg f.enc] (.bool (Flow.plain f)) := by
 unfold Flow.plain
 cases h : decide (f.mat.length ≤ 30)
 · have h2 : ¬ ((f.mat.length : Int) ≤ 30) := by simp at h; omega
   refine FnP.i Tryz.func61 rfl rfl fun G w => ?_
   refine WK.z ?_
   first | refine WK.G 100 Tryz.ntmps61 ?_ | refine WK.D 100 Tryz.ntmps61 ?_
   intro A hA Q hQ
   simp
   apply hQ
   clear hQ hA
   refine WK.z ?_
   first | refine WK.G 200 Tryz.ntmps61 ?_ | refine WK.D 200 Tryz.ntmps61 ?_
   intro A hA Q hQ
   have hg4 : (A[4]?).bind (·.dst) = some 7 := by rw [hA]; rfl
   simp [Flow.enc, h2, hg4]
   apply hQ
   clear hQ hA
   refine WK.z ?_
   refine WK.t Tryz.func61 (by simp (config := zd) [Tryz.results61, h]) (by simp [h])
 · have h2 : ((f.mat.length : Int) ≤ 30) := by simp at h; omega
   refine FnP.i Tryz.func61 rfl rfl fun G w => ?_
   refine WK.z ?_
   first | refine WK.G 100 Tryz.ntmps61 ?_ | refine WK.D 100 Tryz.ntmps61 ?_
   intro A hA Q hQ
   simp
   apply hQ
   clear hQ hA
   refine WK.z ?_
   first | refine WK.G 200 Tryz.ntmps61 ?_ | refine WK.D 200 Tryz.ntmps61 ?_
   intro A hA Q hQ
   have hg4 : (A[4]?).bind (·.dst) = some 7 := by rw [hA]; rfl
   simp [Flow.enc, h2, hg4]
   refine RunQ.callG rfl rfl (by simp [hg4, instS]) rfl (by rfl) (by simp (config := zd) [hg4, instS]) (pinsts_c f.insts) (by simp [hg4, instS]) ?_
   refine RunQ.eval ?_
   simp [hg4, instS]
   apply hQ
   clear hQ hA
   refine WK.z ?_
   refine WK.t Tryz.func61 (by simp (config := zd) [Tryz.results61]) (by simp)

theorem appInt : AppOk Tryz.prog 34 3 1 8 := ⟨by simp, by simp, by simp, by simp, by simp, by simp, by omega, by omega⟩
theorem appAct : AppOk Tryz.prog 96 136 11 88 := ⟨by simp, by simp, by simp, by simp, by simp, by simp, by omega, by omega⟩
def ofA (k : Int) (g : Action → Int) (l : List Action) : List Int := (l.filter fun a => a.kind == k).map g
theorem ofA_succ {k : Int} {g : Action → Int} {l : List Action} {i : Nat} (h : i < l.length) : ofA k g (l.take (i + 1)) = if (nth l i).kind == k then ofA k g (l.take i) ++ [g (nth l i)] else ofA k g (l.take i) := by
 unfold ofA; rw [take_nth h, List.filter_append]
 by_cases hk : (nth l i).kind == k <;> simp [hk]
theorem ofA_len (k : Int) (g : Action → Int) (l : List Action) (i : Nat) : (ofA k g (l.take i)).length ≤ l.length := by
 unfold ofA; rw [List.length_map]
 have h1 := List.length_filter_le (fun a : Action => a.kind == k) (l.take i)
 have h2 := List.length_take_le i l
 have h3 : (l.take i).length ≤ l.length := by simp; omega
 omega
theorem of_c (l : List Action) (k : Int) (fid : Nat) (g : Action → Int) (hl : l.length ≤ 1000000) (hf : ∀ a, FnP Tryz.prog fid [.agg a.enc] (.int .i64 (g a))) :
   FnP Tryz.prog 142 [actS l, .int .i64 k, .fn fid []] (intS (ofA k g l)) := by
 unfold actS
 refine FnP.i Tryz.func142 rfl rfl fun G w => ?_
 refine WK.z ?_
 first | refine WK.G 100 Tryz.ntmps142 ?_ | refine WK.D 100 Tryz.ntmps142 ?_
 intro A hA Q hQ
 simp
 apply hQ
 clear hQ hA
 refine WK.z ?_
 first | refine WK.G 200 Tryz.ntmps142 ?_ | refine WK.D 200 Tryz.ntmps142 ?_
 intro A hA Q hQ
 simp
 apply hQ
 clear hQ hA
 refine WK.z ?_
 refine WK.ghost (Ghost.own 7 900 1 rfl rfl) ?_
 refine WK.z ?_
 first | refine WK.G 300 Tryz.ntmps142 ?_ | refine WK.D 300 Tryz.ntmps142 ?_
 intro A hA Q hQ
 simp
 apply hQ
 clear hQ hA
 refine WK.z ?_
 refine WK.L (fun _ => 900) (fun i : Nat => (⟨(upd (upd (upd (upd (upd (upd J 1 (.int .i64 k)) 2 (.fn fid [])) 7 (.msl 1 0 (ofA k g (l.take i)).length)) 10 (.sl false l.length (actL l))) 11 (.int .i64 l.length)) 12 (.int .i64 i)), (upd B0 1 (.buf 1 (intL (ofA k g (l.take i))))), 0⟩ : St)) (fun i => i ≤ l.length) (fun i => l.length - i) (0) (by repeat (first | exact TmW.nil | refine TmW.upd ?_ (by simp (config := zd) [ofA]))) (by repeat (first | exact BxW.nil | refine BxW.upd ?_ (by simp (config := zd) [ofA]))) (by omega) (fun i hi IH => ?_)
 refine WK.z ?_
 first | refine WK.G 400 Tryz.ntmps142 ?_ | refine WK.D 400 Tryz.ntmps142 ?_
 intro A hA Q hQ
 simp
 apply hQ
 clear hQ hA
 refine WK.z ?_
 refine WK.c2 rfl (fun h1 => ?_) (fun h1 => ?_)
 · simp at h1
   have h2 : i < l.length := by omega
   have h3 : 11 ≤ l.length * 11 - i * 11 := by omega
   have h4 := act_sub l i h2
   have h6 : IntKind.i64.wrap ((i : Int) + 1) = i + 1 := wrap_i64 (by omega) (by omega)
   have hb : ((ofA k g (l.take i)).length + 1) * 8 ≤ 140737488355328 := by have := ofA_len k g l i; omega
   refine WK.z ?_
   first | refine WK.G 500 Tryz.ntmps142 ?_ | refine WK.D 500 Tryz.ntmps142 ?_
   intro A hA Q hQ
   simp [h2, h3, h4]
   apply hQ
   clear hQ hA
   refine WK.z ?_
   first | refine WK.G 600 Tryz.ntmps142 ?_ | refine WK.D 600 Tryz.ntmps142 ?_
   intro A hA Q hQ
   simp [Action.enc]
   apply hQ
   clear hQ hA
   refine WK.z ?_
   refine WK.c2 rfl (fun h5 => ?_) (fun h5 => ?_)
   · have h5' : ((nth l i).kind == k) = true := h5
     refine WK.z ?_
     first | refine WK.G 700 Tryz.ntmps142 ?_ | refine WK.D 700 Tryz.ntmps142 ?_
     intro A hA Q hQ
     simp
     refine RunQ.call rfl rfl rfl rfl (by rfl) (by simp (config := zd) [Action.enc]) (hf (nth l i)) (by simp [Action.enc]) ?_
     refine RunQ.eval ?_
     simp [Action.enc]
     refine RunQ.append 901 appInt rfl rfl rfl rfl rfl rfl rfl (by simp [hb]) rfl (by simp [hb]) (by simp [hb]) (by simp [hb]) (by simp [hb]) ?_
     refine RunQ.eval ?_
     simp [hb]
     apply hQ
     clear hQ hA
     refine WK.z ?_
     first | refine WK.G 800 Tryz.ntmps142 ?_ | refine WK.D 800 Tryz.ntmps142 ?_
     intro A hA Q hQ
     simp [h6]
     apply hQ
     clear hQ hA
     refine WK.z ?_
     refine WK.N (fun _ => 901) (IH (i + 1) (by omega) (by first | omega | (dsimp only; omega))) (by repeat (first | exact TmW.nil | refine TmW.upd ?_ (by simp (config := zd) [ofA_succ h2, h5', intL_app, intL_one, h6]))) (by repeat (first | exact BxW.nil | refine BxW.upd ?_ (by simp (config := zd) [ofA_succ h2, h5', intL_app, intL_one, h6])))
   · have h5' : ((nth l i).kind == k) = false := h5
     refine WK.z ?_
     first | refine WK.G 900 Tryz.ntmps142 ?_ | refine WK.D 900 Tryz.ntmps142 ?_
     intro A hA Q hQ
     simp [h6]
     apply hQ
     clear hQ hA
     refine WK.z ?_
     refine WK.N (fun _ => 1) (IH (i + 1) (by omega) (by first | omega | (dsimp only; omega))) (by repeat (first | exact TmW.nil | refine TmW.upd ?_ (by simp (config := zd) [ofA_succ h2, h5', h6]))) (by repeat (first | exact BxW.nil | refine BxW.upd ?_ (by simp (config := zd) [ofA_succ h2, h5', h6])))
 · simp at h1
   have e : l.take i = l := List.take_of_length_le (by omega)
   rw [e]
   refine WK.z ?_
   first | refine WK.G 1000 Tryz.ntmps142 ?_ | refine WK.D 1000 Tryz.ntmps142 ?_
   intro A hA Q hQ
   simp
   apply hQ
   clear hQ hA
   refine WK.z ?_
   refine WK.ghost (Ghost.frzSl 6 1 rfl rfl) ?_
   refine WK.z ?_
   refine WK.t Tryz.func142 (by simp (config := zd) [Tryz.results142, intS]) (by simp [intS])
theorem agroup_c (a : Action) : FnP Tryz.prog 143 [.agg a.enc] (.int .i64 a.group) := by
 refine FnP.i Tryz.func143 rfl rfl fun G w => ?_
 refine WK.z ?_
 first | refine WK.G 100 Tryz.ntmps143 ?_ | refine WK.D 100 Tryz.ntmps143 ?_
 intro A hA Q hQ
 simp
 apply hQ
 clear hQ hA
 refine WK.z ?_
 first | refine WK.G 200 Tryz.ntmps143 ?_ | refine WK.D 200 Tryz.ntmps143 ?_
 intro A hA Q hQ
 simp [Action.enc]
 apply hQ
 clear hQ hA
 refine WK.z ?_
 refine WK.t Tryz.func143 (by simp (config := zd) [Tryz.results143]) (by simp)
theorem aGroups_c (l : List Action) (hl : l.length ≤ 1000000) : FnP Tryz.prog 83 [actS l] (intS (ofA 22 Action.group l)) := by
 refine FnP.i Tryz.func83 rfl rfl fun G w => ?_
 refine WK.z ?_
 first | refine WK.G 100 Tryz.ntmps83 ?_ | refine WK.D 100 Tryz.ntmps83 ?_
 intro A hA Q hQ
 simp
 apply hQ
 clear hQ hA
 refine WK.z ?_
 first | refine WK.G 200 Tryz.ntmps83 ?_ | refine WK.D 200 Tryz.ntmps83 ?_
 intro A hA Q hQ
 simp
 refine RunQ.call rfl rfl rfl rfl (by rfl) (by simp (config := zd)) (of_c l 22 143 Action.group hl agroup_c) (by simp) ?_
 refine RunQ.eval ?_
 simp
 apply hQ
 clear hQ hA
 refine WK.z ?_
 refine WK.t Tryz.func83 (by simp (config := zd) [Tryz.results83]) (by simp)

theorem act_get3 (l : List Action) (i : Nat) (h : i < l.length) (h' : i * 11 + 3 < (actL l).length) : (actL l)[i * 11 + 3] = .int .i64 (nth l i).group := fm_get Action.len l i 3 h (by omega) h'
theorem raGroups_c (l : List Action) (hl : l.length ≤ 1000000) : FnP Tryz.prog 101 [actS l] (intS (ofA 22 Action.group l)) := by
 unfold actS
 refine FnP.i Tryz.func101 rfl rfl fun G w => ?_
 refine WK.z ?_
 first | refine WK.G 100 Tryz.ntmps101 ?_ | refine WK.D 100 Tryz.ntmps101 ?_
 intro A hA Q hQ
 simp
 apply hQ
 clear hQ hA
 refine WK.z ?_
 first | refine WK.G 200 Tryz.ntmps101 ?_ | refine WK.D 200 Tryz.ntmps101 ?_
 intro A hA Q hQ
 simp
 apply hQ
 clear hQ hA
 refine WK.z ?_
 refine WK.ghost (Ghost.own 3 900 1 rfl rfl) ?_
 refine WK.z ?_
 first | refine WK.G 300 Tryz.ntmps101 ?_ | refine WK.D 300 Tryz.ntmps101 ?_
 intro A hA Q hQ
 simp
 apply hQ
 clear hQ hA
 refine WK.z ?_
 refine WK.L (fun _ => 900) (fun i : Nat => (⟨(upd (upd (upd J 0 (.sl false l.length (actL l))) 3 (.msl 1 0 (ofA 22 Action.group (l.take i)).length)) 4 (.int .i64 i)), (upd B0 1 (.buf 1 (intL (ofA 22 Action.group (l.take i))))), 0⟩ : St)) (fun i => i ≤ l.length) (fun i => l.length - i) (0) (by repeat (first | exact TmW.nil | refine TmW.upd ?_ (by simp (config := zd) [ofA]))) (by repeat (first | exact BxW.nil | refine BxW.upd ?_ (by simp (config := zd) [ofA]))) (by omega) (fun i hi IH => ?_)
 refine WK.z ?_
 first | refine WK.G 400 Tryz.ntmps101 ?_ | refine WK.D 400 Tryz.ntmps101 ?_
 intro A hA Q hQ
 simp
 apply hQ
 clear hQ hA
 refine WK.z ?_
 refine WK.c2 rfl (fun h1 => ?_) (fun h1 => ?_)
 · simp at h1
   have h2 : i < l.length := by omega
   have h3 : i * 11 + 3 < l.length * 11 := by omega
   have h3' : i * 11 + 1 < l.length * 11 := by omega
   have h4 := act_get0 l i h2
   have h4' := act_get3 l i h2
   have h6 : IntKind.i64.wrap ((i : Int) + 1) = i + 1 := wrap_i64 (by omega) (by omega)
   have hb : ((ofA 22 Action.group (l.take i)).length + 1) * 8 ≤ 140737488355328 := by have := ofA_len 22 Action.group l i; omega
   refine WK.z ?_
   first | refine WK.G 500 Tryz.ntmps101 ?_ | refine WK.D 500 Tryz.ntmps101 ?_
   intro A hA Q hQ
   simp [h2, h4]
   apply hQ
   clear hQ hA
   refine WK.z ?_
   refine WK.c2 rfl (fun h5 => ?_) (fun h5 => ?_)
   · have h5' : ((nth l i).kind == 22) = true := h5
     refine WK.z ?_
     first | refine WK.G 600 Tryz.ntmps101 ?_ | refine WK.D 600 Tryz.ntmps101 ?_
     intro A hA Q hQ
     simp [h2, h3, h3', h4']
     refine RunQ.append 901 appInt rfl rfl rfl rfl rfl rfl rfl (by simp [hb]) rfl (by simp [hb]) (by simp [hb]) (by simp [hb]) (by simp [hb]) ?_
     refine RunQ.eval ?_
     simp [hb]
     apply hQ
     clear hQ hA
     refine WK.z ?_
     first | refine WK.G 700 Tryz.ntmps101 ?_ | refine WK.D 700 Tryz.ntmps101 ?_
     intro A hA Q hQ
     simp [h6]
     apply hQ
     clear hQ hA
     refine WK.z ?_
     refine WK.N (fun _ => 901) (IH (i + 1) (by omega) (by first | omega | (dsimp only; omega))) (by repeat (first | exact TmW.nil | refine TmW.upd ?_ (by simp (config := zd) [ofA_succ h2, h5', intL_app, intL_one, h6]))) (by repeat (first | exact BxW.nil | refine BxW.upd ?_ (by simp (config := zd) [ofA_succ h2, h5', intL_app, intL_one, h6])))
   · have h5' : ((nth l i).kind == 22) = false := h5
     refine WK.z ?_
     first | refine WK.G 800 Tryz.ntmps101 ?_ | refine WK.D 800 Tryz.ntmps101 ?_
     intro A hA Q hQ
     simp [h6]
     apply hQ
     clear hQ hA
     refine WK.z ?_
     refine WK.N (fun _ => 1) (IH (i + 1) (by omega) (by first | omega | (dsimp only; omega))) (by repeat (first | exact TmW.nil | refine TmW.upd ?_ (by simp (config := zd) [ofA_succ h2, h5', h6]))) (by repeat (first | exact BxW.nil | refine BxW.upd ?_ (by simp (config := zd) [ofA_succ h2, h5', h6])))
 · simp at h1
   have e : l.take i = l := List.take_of_length_le (by omega)
   rw [e]
   refine WK.z ?_
   first | refine WK.G 900 Tryz.ntmps101 ?_ | refine WK.D 900 Tryz.ntmps101 ?_
   intro A hA Q hQ
   simp
   apply hQ
   clear hQ hA
   refine WK.z ?_
   refine WK.ghost (Ghost.frzSl 2 1 rfl rfl) ?_
   refine WK.z ?_
   refine WK.t Tryz.func101 (by simp (config := zd) [Tryz.results101, intS]) (by simp [intS])
def Inst.goes (i : Inst) : Bool := i.kind == 3 || i.kind == 4
def allI {α : Type} (g : List Action → List α) (l : List Inst) : List α := (l.filter Inst.goes).flatMap fun i => g i.acts
theorem allI_len {α : Type} {g : List Action → List α} (hg : ∀ l, (g l).length ≤ l.length) (N : Nat) : ∀ (l : List Inst), (∀ x, x ∈ l → x.acts.length ≤ N) → (allI g l).length ≤ l.length * N
 | [], _ => by simp [allI]
 | x :: l, h => by
   have ih := allI_len hg N l fun y hy => h y (by simp [hy])
   have hx := h x (by simp)
   have hgx := hg x.acts
   have e : (x :: l).length * N = l.length * N + N := by rw [List.length_cons, Nat.add_mul, Nat.one_mul]
   rw [e]
   unfold allI at ih ⊢
   cases hk : Inst.goes x
   · rw [List.filter_cons_of_neg (by simp [hk])]; omega
   · rw [List.filter_cons_of_pos hk, List.flatMap_cons, List.length_append]; omega

theorem appOxm : AppOk Tryz.prog 79 134 6 48 := ⟨by simp, by simp, by simp, by simp, by simp, by simp, by omega, by omega⟩
theorem appInst : AppOk Tryz.prog 80 126 7 72 := ⟨by simp, by simp, by simp, by simp, by simp, by simp, by omega, by omega⟩
theorem clone_oxm (l : List Oxm) (hl : l.length ≤ 1000000) : FnP Tryz.prog 139 [oxmS l] (oxmS l) := by
 cases l with
 | nil =>
   refine FnP.i Tryz.func139 rfl rfl fun G w => ?_
   refine WK.z ?_
   first | refine WK.G 100 Tryz.ntmps139 ?_ | refine WK.D 100 Tryz.ntmps139 ?_
   intro A hA Q hQ
   simp
   apply hQ
   clear hQ hA
   refine WK.z ?_
   first | refine WK.G 200 Tryz.ntmps139 ?_ | refine WK.D 200 Tryz.ntmps139 ?_
   intro A hA Q hQ
   simp [oxmS]
   apply hQ
   clear hQ hA
   refine WK.z ?_
   refine WK.condAny rfl ?_ ?_
   · refine WK.z ?_
     first | refine WK.G 300 Tryz.ntmps139 ?_ | refine WK.D 300 Tryz.ntmps139 ?_
     intro A hA Q hQ
     simp
     apply hQ
     clear hQ hA
     refine WK.z ?_
     refine WK.t Tryz.func139 (by simp (config := zd) [Tryz.results139, oxmS]) (by simp [oxmS])
   · refine WK.z ?_
     first | refine WK.G 400 Tryz.ntmps139 ?_ | refine WK.D 400 Tryz.ntmps139 ?_
     intro A hA Q hQ
     simp [oxmS]
     refine RunQ.append0 900 901 appOxm rfl rfl rfl rfl rfl rfl rfl (by simp) (by simp) (by simp) (by simp) (by simp) (by simp) (by simp) ?_
     refine RunQ.eval ?_
     simp
     apply hQ
     clear hQ hA
     refine WK.z ?_
     refine WK.ghost (Ghost.frzSl 2 6 rfl rfl) ?_
     refine WK.z ?_
     refine WK.t Tryz.func139 (by simp (config := zd) [Tryz.results139, oxmS]) (by simp [oxmS])
 | cons x l =>
   have hb : (l.length + 1) * 48 ≤ 140737488355328 := by simp at hl; omega
   have h0 : ¬ (l.length + 1 = 0) := by omega
   refine FnP.i Tryz.func139 rfl rfl fun G w => ?_
   refine WK.z ?_
   first | refine WK.G 100 Tryz.ntmps139 ?_ | refine WK.D 100 Tryz.ntmps139 ?_
   intro A hA Q hQ
   simp
   apply hQ
   clear hQ hA
   refine WK.z ?_
   first | refine WK.G 200 Tryz.ntmps139 ?_ | refine WK.D 200 Tryz.ntmps139 ?_
   intro A hA Q hQ
   simp [oxmS]
   apply hQ
   clear hQ hA
   refine WK.z ?_
   refine WK.c2 rfl (fun h => ?_) (fun h => ?_)
   · cases h
   · refine WK.z ?_
     first | refine WK.G 300 Tryz.ntmps139 ?_ | refine WK.D 300 Tryz.ntmps139 ?_
     intro A hA Q hQ
     simp [oxmS]
     refine RunQ.append0 900 901 appOxm rfl rfl rfl rfl rfl rfl rfl (by simp [hb]) (by simp [hb]) (by simp [hb]) (by simp [hb]) (by simp [hb]) (by simp [hb]) (by simp) ?_
     refine RunQ.eval ?_
     simp [hb]
     apply hQ
     clear hQ hA
     refine WK.z ?_
     refine WK.ghost (Ghost.frzSl 2 6 rfl rfl) ?_
     have e := oxmL_take (x :: l)
     simp only [List.length_cons] at e
     refine WK.z ?_
     refine WK.t Tryz.func139 (by simp (config := zd) [Tryz.results139, oxmS, e]) (by simp [oxmS, e])
theorem clone_act (l : List Action) (hl : l.length ≤ 1000000) : FnP Tryz.prog 162 [actS l] (actS l) := by
 cases l with
 | nil =>
   refine FnP.i Tryz.func162 rfl rfl fun G w => ?_
   repeat apply WK.s
   refine WK.G 100 Tryz.ntmps162 ?_
   intro A hA Q hQ
   simp
   apply hQ
   clear hQ hA
   repeat apply WK.s
   refine WK.G 200 Tryz.ntmps162 ?_
   intro A hA Q hQ
   simp [actS]
   apply hQ
   clear hQ hA
   refine WK.condAny rfl ?_ ?_
   · repeat apply WK.s
     refine WK.G 300 Tryz.ntmps162 ?_
     intro A hA Q hQ
     simp
     apply hQ
     clear hQ hA
     refine WK.t Tryz.func162 (by simp (config := zd) [Tryz.results162, actS]) (by simp [actS])
   · repeat (first | apply WK.s | apply WK.k)
     refine WK.G 400 Tryz.ntmps162 ?_
     intro A hA Q hQ
     simp [actS]
     refine RunQ.append0 900 901 appAct rfl rfl rfl rfl rfl rfl rfl (by simp) (by simp) (by simp) (by simp) (by simp) (by simp) (by simp) ?_
     refine RunQ.eval ?_
     simp
     apply hQ
     clear hQ hA
     refine WK.ghost (Ghost.frzSl 2 11 rfl rfl) ?_
     refine WK.t Tryz.func162 (by simp (config := zd) [Tryz.results162, actS]) (by simp [actS])
 | cons x l =>
   have hb : (l.length + 1) * 88 ≤ 140737488355328 := by simp at hl; omega
   have h0 : ¬ (l.length + 1 = 0) := by omega
   refine FnP.i Tryz.func162 rfl rfl fun G w => ?_
   repeat apply WK.s
   refine WK.G 100 Tryz.ntmps162 ?_
   intro A hA Q hQ
   simp
   apply hQ
   clear hQ hA
   repeat apply WK.s
   refine WK.G 200 Tryz.ntmps162 ?_
   intro A hA Q hQ
   simp [actS]
   apply hQ
   clear hQ hA
   refine WK.c2 rfl (fun h => ?_) (fun h => ?_)
   · cases h
   · repeat (first | apply WK.s | apply WK.k)
     refine WK.G 300 Tryz.ntmps162 ?_
     intro A hA Q hQ
     simp [actS]
     refine RunQ.append0 900 901 appAct rfl rfl rfl rfl rfl rfl rfl (by simp [hb]) (by simp [hb]) (by simp [hb]) (by simp [hb]) (by simp [hb]) (by simp [hb]) (by simp) ?_
     refine RunQ.eval ?_
     simp [hb]
     apply hQ
     clear hQ hA
     refine WK.ghost (Ghost.frzSl 2 11 rfl rfl) ?_
     have e := actL_take (x :: l)
     simp only [List.length_cons] at e
     refine WK.t Tryz.func162 (by simp (config := zd) [Tryz.results162, actS, e]) (by simp [actS, e])
theorem clone_inst (l : List Inst) (hl : l.length ≤ 1000000) : FnO Tryz.prog 184 [instS l] l.length 7 (instL l) := by
 cases l with
 | nil =>
   refine FnO.intro Tryz.func184 rfl rfl fun G w => ?_
   refine WK.z ?_
   first | refine WK.G 100 Tryz.ntmps184 ?_ | refine WK.D 100 Tryz.ntmps184 ?_
   intro A hA Q hQ
   simp
   apply hQ
   clear hQ hA
   refine WK.z ?_
   first | refine WK.G 200 Tryz.ntmps184 ?_ | refine WK.D 200 Tryz.ntmps184 ?_
   intro A hA Q hQ
   simp [instS]
   apply hQ
   clear hQ hA
   refine WK.z ?_
   refine WK.condAny rfl ?_ ?_
   · refine WK.z ?_
     first | refine WK.G 300 Tryz.ntmps184 ?_ | refine WK.D 300 Tryz.ntmps184 ?_
     intro A hA Q hQ
     simp
     apply hQ
     clear hQ hA
     refine WK.z ?_
     refine WK.ghost (Ghost.own 2 900 7 rfl rfl) ?_
     refine WK.z ?_
     refine WK.retO Tryz.func184 (by rfl) (by rfl) (by simp (config := zd)) (by simp)
   · refine WK.z ?_
     first | refine WK.G 400 Tryz.ntmps184 ?_ | refine WK.D 400 Tryz.ntmps184 ?_
     intro A hA Q hQ
     simp [instS]
     refine RunQ.append0 900 901 appInst rfl rfl rfl rfl rfl rfl rfl (by simp) (by simp) (by simp) (by simp) (by simp) (by simp) (by simp) ?_
     refine RunQ.eval ?_
     simp
     apply hQ
     clear hQ hA
     refine WK.z ?_
     refine WK.retO Tryz.func184 (by rfl) (by rfl) (by simp (config := zd)) (by simp)
 | cons x l =>
   have hb : (l.length + 1) * 72 ≤ 140737488355328 := by simp at hl; omega
   have e := instL_take (x :: l)
   simp only [List.length_cons] at e
   refine FnO.intro Tryz.func184 rfl rfl fun G w => ?_
   refine WK.z ?_
   first | refine WK.G 100 Tryz.ntmps184 ?_ | refine WK.D 100 Tryz.ntmps184 ?_
   intro A hA Q hQ
   simp
   apply hQ
   clear hQ hA
   refine WK.z ?_
   first | refine WK.G 200 Tryz.ntmps184 ?_ | refine WK.D 200 Tryz.ntmps184 ?_
   intro A hA Q hQ
   simp [instS]
   apply hQ
   clear hQ hA
   refine WK.z ?_
   refine WK.c2 rfl (fun h => ?_) (fun h => ?_)
   · cases h
   · refine WK.z ?_
     first | refine WK.G 300 Tryz.ntmps184 ?_ | refine WK.D 300 Tryz.ntmps184 ?_
     intro A hA Q hQ
     simp [instS]
     refine RunQ.append0 900 901 appInst rfl rfl rfl rfl rfl rfl rfl (by simp [hb]) (by simp [hb]) (by simp [hb]) (by simp [hb]) (by simp [hb]) (by simp [hb]) (by simp) ?_
     refine RunQ.eval ?_
     simp [hb]
     apply hQ
     clear hQ hA
     refine WK.z ?_
     refine WK.retO Tryz.func184 (by rfl) (by rfl) (by simp (config := zd) [e]) (by simp [e])

structure IOk (l : List Inst) : Prop where
 len : l.length ≤ 1000
 acts : ∀ x, x ∈ l → x.acts.length ≤ 1000000
structure FOk (f : Flow) : Prop where
 mat : f.mat.length ≤ 1000000
 insts : IOk f.insts
def Flow.same (a b : Flow) : Bool := a.cookie == b.cookie && ((a.prio == b.prio && (a.idle == b.idle && (a.hard == b.hard && a.flags == b.flags))) && (eqBy (fun x y => x == y) a.mat b.mat && eqBy Inst.same a.insts b.insts))
@[simp] theorem eqK_place (p q : Int) (c d : Cube) : eqK (repl 97 false) (.int .i64 p :: encC c) (.int .i64 q :: encC d) = some (p == q && cubeEq c d) := by
 rw [show repl 97 false = false :: repl 96 false from rfl]
 simp only [eqK, eqK_cube, if_true]
def placeOf (f : Flow) : List AV := .int .i64 f.prio :: encC (Flow.cube f)
theorem drop97 (x : AV) (c : Cube) : List.drop 97 (x :: encC c) = [] := by rw [show (97 : Nat) = 96 + 1 from rfl, List.drop_succ_cons]; simp
theorem take97 (x : AV) (c : Cube) : List.take 97 (x :: encC c) = x :: encC c := by rw [show (97 : Nat) = 96 + 1 from rfl, List.take_succ_cons]; simp
theorem place_c (f : Flow) (h : FOk f) : FnP Tryz.prog 144 [.agg f.enc] (.agg (placeOf f)) := by
 refine FnP.i Tryz.func144 rfl rfl fun G w => ?_
 refine WK.z ?_
 first | refine WK.G 100 Tryz.ntmps144 ?_ | refine WK.D 100 Tryz.ntmps144 ?_
 intro A hA Q hQ
 simp
 apply hQ
 clear hQ hA
 refine WK.z ?_
 first | refine WK.G 200 Tryz.ntmps144 ?_ | refine WK.D 200 Tryz.ntmps144 ?_
 intro A hA Q hQ
 simp [Flow.enc]
 refine RunQ.call rfl rfl rfl rfl (by rfl) (by simp (config := zd) [Flow.enc, drop97, take97]) (fcube_c f h.mat) (by simp [Flow.enc, drop97, take97]) ?_
 refine RunQ.eval ?_
 simp [Flow.enc, drop97, take97]
 apply hQ
 clear hQ hA
 refine WK.z ?_
 refine WK.t Tryz.func144 (by simp (config := zd) [Tryz.results144, placeOf, drop97, take97]) (by simp [placeOf, drop97, take97])
def Flow.alike (a b : Flow) : Bool := a.prio == b.prio && cubeEq (Flow.cube a) (Flow.cube b)
theorem alike_c (a b : Flow) (ha : FOk a) (hb : FOk b) : FnP Tryz.prog 84 [.agg a.enc, .agg b.enc] (.bool (Flow.alike a b)) := by
 refine FnP.i Tryz.func84 rfl rfl fun G w => ?_
 refine WK.z ?_
 first | refine WK.G 100 Tryz.ntmps84 ?_ | refine WK.D 100 Tryz.ntmps84 ?_
 intro A hA Q hQ
 simp
 apply hQ
 clear hQ hA
 refine WK.z ?_
 first | refine WK.G 200 Tryz.ntmps84 ?_ | refine WK.D 200 Tryz.ntmps84 ?_
 intro A hA Q hQ
 simp
 refine RunQ.call rfl rfl rfl rfl (by rfl) (by simp (config := zd)) (place_c a ha) (by simp) ?_
 refine RunQ.eval ?_
 simp
 refine RunQ.call rfl rfl rfl rfl (by rfl) (by simp (config := zd) [placeOf]) (place_c b hb) (by simp [placeOf]) ?_
 refine RunQ.eval ?_
 simp [placeOf]
 apply hQ
 clear hQ hA
 refine WK.z ?_
 refine WK.t Tryz.func84 (by simp (config := zd) [Tryz.results84, Flow.alike]) (by simp [Flow.alike])
theorem ralike_c (a b : Flow) (ha : FOk a) (hb : FOk b) : FnP Tryz.prog 95 [.agg a.enc, .agg b.enc] (.bool (Flow.alike a b)) := by
 cases k1 : a.prio == b.prio
 · refine FnP.i Tryz.func95 rfl rfl fun G w => ?_
   refine WK.z ?_
   first | refine WK.G 100 Tryz.ntmps95 ?_ | refine WK.D 100 Tryz.ntmps95 ?_
   intro A hA Q hQ
   simp
   apply hQ
   clear hQ hA
   refine WK.z ?_
   first | refine WK.G 200 Tryz.ntmps95 ?_ | refine WK.D 200 Tryz.ntmps95 ?_
   intro A hA Q hQ
   have hg5 : (A[5]?).bind (·.dst) = some 10 := by rw [hA]; rfl
   simp [Flow.enc, k1, hg5]
   apply hQ
   clear hQ hA
   refine WK.z ?_
   refine WK.t Tryz.func95 (by simp (config := zd) [Tryz.results95, Flow.alike, k1]) (by simp [Flow.alike, k1])
 · refine FnP.i Tryz.func95 rfl rfl fun G w => ?_
   refine WK.z ?_
   first | refine WK.G 100 Tryz.ntmps95 ?_ | refine WK.D 100 Tryz.ntmps95 ?_
   intro A hA Q hQ
   simp
   apply hQ
   clear hQ hA
   refine WK.z ?_
   first | refine WK.G 200 Tryz.ntmps95 ?_ | refine WK.D 200 Tryz.ntmps95 ?_
   intro A hA Q hQ
   have hg5 : (A[5]?).bind (·.dst) = some 10 := by rw [hA]; rfl
   simp [Flow.enc, k1, hg5]
   refine RunQ.callG rfl rfl (by simp [hg5, Flow.enc]) rfl (by rfl) (by simp (config := zd) [hg5, Flow.enc]) (rfcube_c a ha.mat) (by simp [hg5, Flow.enc]) ?_
   refine RunQ.eval ?_
   simp [hg5, Flow.enc]
   refine RunQ.callG rfl rfl (by simp [hg5, Flow.enc]) rfl (by rfl) (by simp (config := zd) [hg5, Flow.enc]) (rfcube_c b hb.mat) (by simp [hg5, Flow.enc]) ?_
   refine RunQ.eval ?_
   simp [hg5, Flow.enc]
   apply hQ
   clear hQ hA
   refine WK.z ?_
   refine WK.t Tryz.func95 (by simp (config := zd) [Tryz.results95, Flow.alike, k1]) (by simp [Flow.alike, k1])
def Flow.overlap (a b : Flow) : Bool := a.prio == b.prio && cubeMeetOk (Flow.cube a) (Flow.cube b)
theorem overlap_c (a b : Flow) (ha : FOk a) (hb : FOk b) : FnP Tryz.prog 86 [.agg a.enc, .agg b.enc] (.bool (Flow.overlap a b)) := by
 refine FnP.i Tryz.func86 rfl rfl fun G w => ?_
 refine WK.z ?_
 first | refine WK.G 100 Tryz.ntmps86 ?_ | refine WK.D 100 Tryz.ntmps86 ?_
 intro A hA Q hQ
 simp
 apply hQ
 clear hQ hA
 refine WK.z ?_
 first | refine WK.G 200 Tryz.ntmps86 ?_ | refine WK.D 200 Tryz.ntmps86 ?_
 intro A hA Q hQ
 simp [Flow.enc]
 apply hQ
 clear hQ hA
 refine WK.z ?_
 refine WK.c2 rfl (fun h => ?_) (fun h => ?_)
 · have k1 : (a.prio == b.prio) = false := by simpa using h
   refine WK.z ?_
   first | refine WK.G 300 Tryz.ntmps86 ?_ | refine WK.D 300 Tryz.ntmps86 ?_
   intro A hA Q hQ
   simp
   apply hQ
   clear hQ hA
   refine WK.z ?_
   refine WK.t Tryz.func86 (by simp (config := zd) [Tryz.results86, Flow.overlap, k1]) (by simp [Flow.overlap, k1])
 · have k1 : (a.prio == b.prio) = true := by simpa using h
   refine WK.z ?_
   first | refine WK.G 400 Tryz.ntmps86 ?_ | refine WK.regD 400 (clsM [(2, 0), (3, 1), (5, 208)]) (by kernel_rfl) Tryz.ntmps86 (by kernel_rfl) (by kernel_rfl) ?_
   intro A hA Q hQ
   simp [Flow.enc]
   refine RunQ.call rfl rfl rfl rfl (by rfl) (by simp (config := zd) [Flow.enc]) (fcube_c a ha.mat) (by simp [Flow.enc]) ?_
   refine RunQ.eval ?_
   simp [Flow.enc]
   refine RunQ.call rfl rfl rfl rfl (by rfl) (by simp (config := zd) [Flow.enc]) (fcube_c b hb.mat) (by simp [Flow.enc]) ?_
   refine RunQ.eval ?_
   simp [Flow.enc]
   refine RunQ.call rfl rfl rfl rfl (by rfl) (by simp (config := zd)) (cmeet_c (Flow.cube a) (Flow.cube b)) (by simp) ?_
   refine RunQ.eval ?_
   simp
   apply hQ
   clear hQ hA
   refine WK.z ?_
   first | refine WK.G 500 Tryz.ntmps86 ?_ | refine WK.D 500 Tryz.ntmps86 ?_
   intro A hA Q hQ
   simp
   apply hQ
   clear hQ hA
   refine WK.z ?_
   refine WK.t Tryz.func86 (by simp (config := zd) [Tryz.results86, Flow.overlap, k1]) (by simp [Flow.overlap, k1])
theorem roverlap_c (a b : Flow) (ha : FOk a) (hb : FOk b) : FnP Tryz.prog 96 [.agg a.enc, .agg b.enc] (.bool (Flow.overlap a b)) := by
 cases k1 : cubeMeetOk (Flow.cube a) (Flow.cube b)
 all_goals
   refine FnP.i Tryz.func96 rfl rfl fun G w => ?_
   refine WK.z ?_
   first | refine WK.G 100 Tryz.ntmps96 ?_ | refine WK.D 100 Tryz.ntmps96 ?_
   intro A hA Q hQ
   simp
   apply hQ
   clear hQ hA
   refine WK.z ?_
   first | refine WK.G 200 Tryz.ntmps96 ?_ | refine WK.regD 200 (clsM [(2, 0), (3, 1), (5, 108)]) (by kernel_rfl) Tryz.ntmps96 (by kernel_rfl) (by kernel_rfl) ?_
   intro A hA Q hQ
   simp
   refine RunQ.call rfl rfl rfl rfl (by rfl) (by simp (config := zd)) (rfcube_c a ha.mat) (by simp) ?_
   refine RunQ.eval ?_
   simp
   refine RunQ.call rfl rfl rfl rfl (by rfl) (by simp (config := zd)) (rfcube_c b hb.mat) (by simp) ?_
   refine RunQ.eval ?_
   simp
   refine RunQ.call rfl rfl rfl rfl (by rfl) (by simp (config := zd)) (rcmeet_c (Flow.cube a) (Flow.cube b)) (by simp) ?_
   refine RunQ.eval ?_
   simp
   apply hQ
   clear hQ hA
   refine WK.z ?_
   first | refine WK.G 300 Tryz.ntmps96 ?_ | refine WK.D 300 Tryz.ntmps96 ?_
   intro A hA Q hQ
   have hg1 : (A[1]?).bind (·.dst) = some 16 := by rw [hA]; rfl
   simp [k1, Flow.enc, hg1]
   apply hQ
   clear hQ hA
   refine WK.z ?_
   refine WK.t Tryz.func96 (by simp (config := zd) [Tryz.results96, Flow.overlap, k1]) (by simp [Flow.overlap, k1])

theorem ofA_le (k : Int) (g : Action → Int) (l : List Action) : (ofA k g l).length ≤ l.length := by
 unfold ofA; rw [List.length_map]; exact List.length_filter_le _ _
def Flow.goPorts (f : Flow) : List Int := allI (ofA 0 Action.port) f.insts
def Flow.goGroups (f : Flow) : List Int := allI (ofA 22 Action.group) f.insts
theorem inst_same6 (l : List Inst) (i : Nat) (h : i < l.length) : (instL l).take (i * 7 + 6) ++ .sl false (nth l i).acts.length (actL (nth l i).acts) :: (instL l).drop (i * 7 + 6 + 1) = instL l := by
 have h' : i * 7 + 6 < (instL l).length := by simp; omega
 have e := inst_get6 l i h h'
 rw [← e, ← List.drop_eq_getElem_cons h', List.take_append_drop]
theorem copies_c (l : List Inst) (h : IOk l) : FnP Tryz.prog 140 [instS l] (instS l) := by
 have hl := h.len
 refine FnP.i Tryz.func140 rfl rfl fun G w => ?_
 refine WK.z ?_
 first | refine WK.G 100 Tryz.ntmps140 ?_ | refine WK.D 100 Tryz.ntmps140 ?_
 intro A hA Q hQ
 simp
 apply hQ
 clear hQ hA
 refine WK.z ?_
 first | refine WK.G 200 Tryz.ntmps140 ?_ | refine WK.D 200 Tryz.ntmps140 ?_
 intro A hA Q hQ
 simp
 refine RunQ.callO 900 rfl rfl rfl (by simp) (by rfl) (by simp (config := zd)) (clone_inst l (by omega)) (by simp) (by simp) (by simp) ?_
 refine RunQ.eval ?_
 simp
 apply hQ
 clear hQ hA
 refine WK.z ?_
 first | refine WK.G 300 Tryz.ntmps140 ?_ | refine WK.D 300 Tryz.ntmps140 ?_
 intro A hA Q hQ
 simp
 apply hQ
 clear hQ hA
 refine WK.z ?_
 refine WK.L (fun _ => 900) (fun i : Nat => (⟨(upd (upd (upd J 3 (.msl 1 0 l.length)) 8 (.int .i64 l.length)) 9 (.int .i64 i)), (upd B0 1 (.buf 7 (instL l))), 0⟩ : St)) (fun i => i ≤ l.length) (fun i => l.length - i) (0) (by repeat (first | exact TmW.nil | refine TmW.upd ?_ (by simp (config := zd)))) (by repeat (first | exact BxW.nil | refine BxW.upd ?_ (by simp (config := zd)))) (by omega) (fun i hi IH => ?_)
 refine WK.z ?_
 first | refine WK.G 400 Tryz.ntmps140 ?_ | refine WK.D 400 Tryz.ntmps140 ?_
 intro A hA Q hQ
 simp
 apply hQ
 clear hQ hA
 refine WK.z ?_
 refine WK.c2 rfl (fun h1 => ?_) (fun h1 => ?_)
 · simp at h1
   have h2 : i < l.length := by omega
   have h3 : i * 7 + 6 < l.length * 7 := by omega
   have h3' : i * 7 + 6 + 1 ≤ l.length * 7 := by omega
   have h4' := inst_get6 l i h2
   have h5 := inst_same6 l i h2
   have h6 : IntKind.i64.wrap ((i : Int) + 1) = i + 1 := wrap_i64 (by omega) (by omega)
   refine WK.z ?_
   first | refine WK.G 500 Tryz.ntmps140 ?_ | refine WK.D 500 Tryz.ntmps140 ?_
   intro A hA Q hQ
   simp
   apply hQ
   clear hQ hA
   refine WK.z ?_
   first | refine WK.G 600 Tryz.ntmps140 ?_ | refine WK.D 600 Tryz.ntmps140 ?_
   intro A hA Q hQ
   simp [h2, h3, h4']
   refine RunQ.call rfl rfl rfl rfl (by rfl) (by simp (config := zd) [actS, h2, h3, h3', h5]) (clone_act (nth l i).acts (h.acts _ (nth_mem h2))) (by simp [actS, h2, h3, h3', h5]) ?_
   refine RunQ.eval ?_
   simp [actS, h2, h3, h3', h5]
   apply hQ
   clear hQ hA
   refine WK.z ?_
   first | refine WK.G 700 Tryz.ntmps140 ?_ | refine WK.D 700 Tryz.ntmps140 ?_
   intro A hA Q hQ
   simp [h6]
   apply hQ
   clear hQ hA
   refine WK.z ?_
   refine WK.N (fun n => n) (IH (i + 1) (by omega) (by first | omega | (dsimp only; omega))) (by repeat (first | exact TmW.nil | refine TmW.upd ?_ (by simp (config := zd) [h5]))) (by repeat (first | exact BxW.nil | refine BxW.upd ?_ (by simp (config := zd) [h5])))
 · simp at h1
   refine WK.z ?_
   first | refine WK.G 800 Tryz.ntmps140 ?_ | refine WK.D 800 Tryz.ntmps140 ?_
   intro A hA Q hQ
   simp
   apply hQ
   clear hQ hA
   refine WK.z ?_
   refine WK.ghost (Ghost.frzSl 2 7 rfl rfl) ?_
   refine WK.z ?_
   refine WK.t Tryz.func140 (by simp (config := zd) [Tryz.results140, instS]) (by simp [instS])
def FlowMod.flow (m : FlowMod) : Flow := ⟨m.cookie, m.prio, m.idle, m.hard, m.flags, m.mat, m.insts⟩
theorem of2_c (m : FlowMod) (h : FOk (FlowMod.flow m)) : FnP Tryz.prog 80 [.agg m.enc] (.agg (FlowMod.flow m).enc) := by
 refine FnP.i Tryz.func80 rfl rfl fun G w => ?_
 refine WK.z ?_
 first | refine WK.G 100 Tryz.ntmps80 ?_ | refine WK.D 100 Tryz.ntmps80 ?_
 intro A hA Q hQ
 simp
 apply hQ
 clear hQ hA
 refine WK.z ?_
 first | refine WK.G 200 Tryz.ntmps80 ?_ | refine WK.D 200 Tryz.ntmps80 ?_
 intro A hA Q hQ
 simp [FlowMod.enc]
 refine RunQ.call rfl rfl rfl rfl (by rfl) (by simp (config := zd) [oxmS, FlowMod.enc]) (clone_oxm m.mat h.mat) (by simp [oxmS, FlowMod.enc]) ?_
 refine RunQ.eval ?_
 simp [oxmS, FlowMod.enc]
 refine RunQ.call rfl rfl rfl rfl (by rfl) (by simp (config := zd) [instS, oxmS, FlowMod.enc]) (copies_c m.insts h.insts) (by simp [instS, oxmS, FlowMod.enc]) ?_
 refine RunQ.eval ?_
 simp [instS, oxmS, FlowMod.enc]
 apply hQ
 clear hQ hA
 refine WK.z ?_
 refine WK.t Tryz.func80 (by simp (config := zd) [Tryz.results80, FlowMod.flow, Flow.enc]) (by simp [FlowMod.flow, Flow.enc])

theorem eqBy_self (l : List Int) : eqBy (fun x y => x == y) l l = true := by unfold eqBy; simp
structure FPl (f : Flow) : Prop where
 ok : FOk f
 acts : (allI id f.insts).length ≤ 1000000

def bI (b : BitVec 8) : Int := b.toNat
def byL (l : List (BitVec 8)) : List AV := l.map fun b => .int .u8 (bI b)
def byS (l : List (BitVec 8)) : AV := .sl false l.length (byL l)
@[simp] theorem byL_len (l : List (BitVec 8)) : (byL l).length = l.length := by simp [byL]
@[simp] theorem byL_cl (l : List (BitVec 8)) : ClL (byL l) = true := by
 induction l with
 | nil => rfl
 | cons x l ih => simp only [byL, List.map_cons, ClL, Cl, Bool.true_and]; exact ih
@[simp] theorem byS_cl (l : List (BitVec 8)) : Cl (byS l) = true := by simp [byS, Cl]
theorem byL_app (a b : List (BitVec 8)) : byL (a ++ b) = byL a ++ byL b := by simp [byL]
theorem b0_ : byL [] = [] := rfl
theorem byL_one (b : BitVec 8) : byL [b] = [.int .u8 (bI b)] := rfl
theorem byL_drop (l : List (BitVec 8)) (n : Nat) : (byL l).drop n = byL (l.drop n) := by simp [byL]
theorem byL_take (l : List (BitVec 8)) (n : Nat) : (byL l).take n = byL (l.take n) := by simp [byL]
theorem by_full (l : List (BitVec 8)) (n : Nat) (h : n = l.length) : (byL l).take n = byL l := List.take_of_length_le (by simp [h])
theorem appByte : AppOk Tryz.prog 68 5 1 1 := ⟨by simp, by simp, by simp, by simp, by simp, by simp, by omega, by omega⟩
theorem bI_of (x : Int) : bI (BitVec.ofInt 8 x) = x % 256 := by
 unfold bI
 rw [BitVec.toNat_ofInt]
 have : 0 ≤ x % 256 := Int.emod_nonneg _ (by decide)
 omega
theorem wrap_u8 (x : Int) : IntKind.wrap .u8 x = bI (BitVec.ofInt 8 x) := by
 rw [bI_of]
 unfold IntKind.wrap
 show (if (false && decide (x % 256 ≥ 128)) = true then x % 256 - 256 else x % 256) = x % 256
 rw [Bool.false_and, if_neg Bool.false_ne_true]
def numOk (n : Int) (s : Nat) : Bool := decide (0 ≤ n) && decide (n < 256 ^ s)
def Sz (s : Nat) : Prop := s = 1 ∨ s = 2 ∨ s = 4
theorem sized_c (s : Nat) (hs : Sz s) : FnP Tryz.prog 130 [.int .i64 s] (.bool true) := by
 rcases hs with rfl | rfl | rfl <;>
 · refine FnP.i Tryz.func130 rfl rfl fun G w => ?_
   repeat apply WK.s
   refine WK.G 100 Tryz.ntmps130 ?_
   intro A hA Q hQ
   simp
   apply hQ
   clear hQ hA
   repeat apply WK.s
   refine WK.G 200 Tryz.ntmps130 ?_
   intro A hA Q hQ
   have hg2 : (A[2]?).bind (·.dst) = some 5 := by rw [hA]; rfl
   have hg6 : (A[6]?).bind (·.dst) = some 9 := by rw [hA]; rfl
   simp [hg2, hg6]
   apply hQ
   clear hQ hA
   refine WK.t Tryz.func130 (by simp (config := zd) [Tryz.results130]) (by simp)
theorem shr_i64 (n : Int) (k : Nat) (hk : k ≤ 64) : bShr .i64 n k = n / 2 ^ k := by
 unfold bShr
 have : min (Int.toNat (k : Int)) (IntKind.bits .i64) = k := by show min (Int.toNat (k : Int)) 64 = k; omega
 rw [this, Int.fdiv_eq_ediv_of_nonneg _ (by exact Int.le_of_lt (Int.pow_pos (by decide)))]
theorem shr_zero (n : Int) (s : Nat) (h0 : 0 ≤ n) : (n / 2 ^ (8 * s) == 0) = decide (n < 256 ^ s) := by
 have hp : (2 : Int) ^ (8 * s) = 256 ^ s := by rw [Int.pow_mul]; rfl
 rw [hp]
 have hpos : (0 : Int) < 256 ^ s := Int.pow_pos (by decide)
 rw [Bool.eq_iff_iff, beq_iff_eq, decide_eq_true_eq]
 constructor
 · intro h
   have := Int.lt_ediv_add_one_mul_self n hpos
   rw [h] at this; omega
 · intro h; exact Int.ediv_eq_zero_of_lt h0 h
theorem nright_c (n : Int) (s : Nat) (hs : Sz s) : FnP Tryz.prog 76 [.int .i64 n, .int .i64 s] (.bool (numOk n s)) := by
 have hsz := sized_c s hs
 have hs4 : s ≤ 4 := by rcases hs with rfl | rfl | rfl <;> omega
 have w8 : IntKind.i64.wrap (8 * (s : Int)) = 8 * (s : Int) := by
   rcases hs with rfl | rfl | rfl <;> rfl
 have hsh : bShr .i64 n (8 * (s : Int)) = n / 2 ^ (8 * s) := by
   have := shr_i64 n (8 * s) (by omega)
   rw [← this]; congr 1
 have hnn : ¬ (8 * (s : Int) < 0) := by omega
 cases k : decide (0 ≤ n)
 · refine FnP.i Tryz.func76 rfl rfl fun G w => ?_
   repeat apply WK.s
   refine WK.G 100 Tryz.ntmps76 ?_
   intro A hA Q hQ
   simp
   apply hQ
   clear hQ hA
   repeat apply WK.s
   refine WK.G 200 Tryz.ntmps76 ?_
   intro A hA Q hQ
   have hg2 : (A[2]?).bind (·.dst) = some 7 := by rw [hA]; rfl
   have hg6 : (A[6]?).bind (·.dst) = some 11 := by rw [hA]; rfl
   simp [hg2, hg6]
   refine RunQ.call rfl rfl rfl rfl (by rfl) (by simp (config := zd) [hg2, hg6, k]) (hsz) (by simp [hg2, hg6, k]) ?_
   refine RunQ.eval ?_
   simp [hg2, hg6, k]
   apply hQ
   clear hQ hA
   refine WK.t Tryz.func76 (by simp (config := zd) [Tryz.results76, numOk, k]) (by simp [numOk, k])
 · have h0 := shr_zero n s (of_decide_eq_true k)
   refine FnP.i Tryz.func76 rfl rfl fun G w => ?_
   repeat apply WK.s
   refine WK.G 100 Tryz.ntmps76 ?_
   intro A hA Q hQ
   simp
   apply hQ
   clear hQ hA
   repeat apply WK.s
   refine WK.G 200 Tryz.ntmps76 ?_
   intro A hA Q hQ
   have hg2 : (A[2]?).bind (·.dst) = some 7 := by rw [hA]; rfl
   have hg6 : (A[6]?).bind (·.dst) = some 11 := by rw [hA]; rfl
   simp [hg2, hg6]
   refine RunQ.call rfl rfl rfl rfl (by rfl) (by simp (config := zd) [hg2, hg6, k, w8, hsh, h0, hnn]) (hsz) (by simp [hg2, hg6, k, w8, hsh, h0, hnn]) ?_
   refine RunQ.eval ?_
   simp [hg2, hg6, k, w8, hsh, h0, hnn]
   apply hQ
   clear hQ hA
   refine WK.t Tryz.func76 (by simp (config := zd) [Tryz.results76, numOk, k]) (by simp [numOk, k])
def beN (n : Int) (s : Nat) : List (BitVec 8) := (List.range s).map fun i => BitVec.ofInt 8 (n / 2 ^ (8 * (s - 1 - i)))
theorem beN_len (n : Int) (s : Nat) : (beN n s).length = s := by simp [beN]
def putN (b : List (BitVec 8)) (n : Int) (s : Nat) : List (BitVec 8) := if numOk n s then b ++ beN n s else b
def fourAt (n : Int) (i : Nat) : List (BitVec 8) := (List.range 4).map fun j => if j < i then BitVec.ofInt 8 (n / 2 ^ (24 - 8 * j)) else 0#8
theorem fourAt_zero (n : Int) : byL (fourAt n 0) = [.int .u8 0, .int .u8 0, .int .u8 0, .int .u8 0] := rfl
theorem fourAt_set (n : Int) (i : Nat) (h : i < 4) : (byL (fourAt n i)).take i ++ .int .u8 (bI (BitVec.ofInt 8 (n / 2 ^ (24 - 8 * i)))) :: (byL (fourAt n i)).drop (i + 1) = byL (fourAt n (i + 1)) := by
 match i, h with
 | 0, _ => rfl
 | 1, _ => rfl
 | 2, _ => rfl
 | 3, _ => rfl
theorem fourAt_len (n : Int) (i : Nat) : (fourAt n i).length = 4 := by simp [fourAt]
theorem four_drop (n : Int) (s : Nat) (hs : Sz s) : (fourAt n 4).drop (4 - s) = beN n s := by
 rcases hs with rfl | rfl | rfl <;> rfl
set_option maxHeartbeats 2000000 in
theorem nput_c (b : List (BitVec 8)) (n : Int) (s : Nat) (hs : Sz s) (hb : b.length ≤ 1000000) : FnO Tryz.prog 68 [byS b, .int .i64 n, .int .i64 s] (putN b n s).length 1 (byL (putN b n s)) := by
 have hr := nright_c n s hs
 have hs4 : s ≤ 4 := by rcases hs with rfl | rfl | rfl <;> omega
 have hs1 : 1 ≤ s := by rcases hs with rfl | rfl | rfl <;> omega
 have hf := by_full b b.length rfl
 unfold byS
 cases k : numOk n s
 · have e : putN b n s = b := by unfold putN; rw [k]; rfl
   have hbd : b.length ≤ 140737488355328 := by omega
   rw [e]
   refine FnO.intro Tryz.func68 rfl rfl fun G w => ?_
   repeat apply WK.s
   refine WK.G 100 Tryz.ntmps68 ?_
   intro A hA Q hQ
   simp
   apply hQ
   clear hQ hA
   repeat apply WK.s
   refine WK.G 200 Tryz.ntmps68 ?_
   intro A hA Q hQ
   simp
   refine RunQ.call rfl rfl rfl rfl (by rfl) (by simp (config := zd) [k]) (hr) (by simp [k]) ?_
   refine RunQ.eval ?_
   simp [k]
   apply hQ
   clear hQ hA
   refine WK.c2 rfl (fun h => ?_) (fun h => ?_)
   · repeat apply WK.s
     refine WK.G 300 Tryz.ntmps68 ?_
     intro A hA Q hQ
     simp
     refine RunQ.append0 900 901 appByte rfl rfl rfl rfl rfl rfl rfl (by simp [hbd]) (by simp [hbd]) (by simp [hbd]) (by simp [hbd]) (by simp [hbd]) (by simp [hbd]) (by simp) ?_
     refine RunQ.eval ?_
     simp [hbd]
     apply hQ
     clear hQ hA
     refine WK.retO Tryz.func68 (by rfl) (by rfl) (by simp (config := zd) [hf]) (by simp [hf])
   · cases h
 · have e : putN b n s = b ++ beN n s := by unfold putN; rw [k]; rfl
   rw [e]
   refine FnO.intro Tryz.func68 rfl rfl fun G w => ?_
   repeat apply WK.s
   refine WK.G 100 Tryz.ntmps68 ?_
   intro A hA Q hQ
   simp
   apply hQ
   clear hQ hA
   repeat apply WK.s
   refine WK.G 200 Tryz.ntmps68 ?_
   intro A hA Q hQ
   simp
   refine RunQ.call rfl rfl rfl rfl (by rfl) (by simp (config := zd) [k]) (hr) (by simp [k]) ?_
   refine RunQ.eval ?_
   simp [k]
   apply hQ
   clear hQ hA
   refine WK.c2 rfl (fun h => ?_) (fun h => ?_)
   · cases h
   repeat (first | apply WK.s | apply WK.k)
   refine WK.G 300 Tryz.ntmps68 ?_
   intro A hA Q hQ
   simp
   apply hQ
   clear hQ hA
   repeat apply WK.s
   refine WK.G 400 Tryz.ntmps68 ?_
   intro A hA Q hQ
   simp
   apply hQ
   clear hQ hA
   repeat (apply WK.b)
   refine WK.L (fun _ => 200) (fun i : Nat => (⟨(upd (upd (upd (upd (upd J 0 (.sl false b.length (byL b))) 1 (.int .i64 n)) 2 (.int .i64 s)) 7 (.ptr 1 0)) 15 (.int .i64 i)), (upd B0 1 (.var (byL (fourAt n i)))), 0⟩ : St)) (fun i => i ≤ 4) (fun i => 4 - i) (0) (by repeat (first | exact TmW.nil | refine TmW.upd ?_ (by simp (config := zd) [fourAt_zero]))) (by repeat (first | exact BxW.nil | refine BxW.upd ?_ (by simp (config := zd) [fourAt_zero]))) (by omega) (fun i hi IH => ?_)
   repeat apply WK.s
   refine WK.G 500 Tryz.ntmps68 ?_
   intro A hA Q hQ
   simp
   apply hQ
   clear hQ hA
   repeat apply WK.s
   refine WK.c2 rfl (fun h1 => ?_) (fun h1 => ?_)
   · simp at h1
     have h2 : i < 4 := by omega
     have h6 : IntKind.i64.wrap ((i : Int) + 1) = i + 1 := wrap_i64 (by omega) (by omega)
     have m1 : IntKind.i64.wrap (8 * (i : Int)) = 8 * (i : Int) := wrap_i64 (by omega) (by omega)
     have m2 : IntKind.i64.wrap (24 - 8 * (i : Int)) = ((24 - 8 * i : Nat) : Int) := by rw [wrap_i64 (by omega) (by omega)]; omega
     have m3 := shr_i64 n (24 - 8 * i) (by omega)
     have m4 : ¬ ((24 - 8 * i : Nat) : Int) < 0 := by omega
     have m5 := wrap_u8 (n / 2 ^ (24 - 8 * i))
     have hset := fourAt_set n i h2
     have hfl := fourAt_len n i
     have b1 : (i : Int) < 4 := by omega
     have b2 : i + 1 ≤ 4 := by omega
     repeat (first | apply WK.s | apply WK.b | apply WK.k)
     refine WK.G 600 Tryz.ntmps68 ?_
     intro A hA Q hQ
     simp
     apply hQ
     clear hQ hA
     obtain ⟨q, hq⟩ : ∃ q, q = 24 - 8 * i := ⟨_, rfl⟩
     rw [← hq] at m2 m3 m4 m5 hset
     refine WK.G 700 Tryz.ntmps68 ?_
     intro A hA Q hQ
     simp [m1, m2, m3, m4, m5, h2, hset, hfl, b1, b2]
     apply hQ
     clear hQ hA
     repeat (apply WK.n)
     refine WK.G 800 Tryz.ntmps68 ?_
     intro A hA Q hQ
     simp [h6]
     apply hQ
     clear hQ hA
     refine WK.N (fun n => n) (IH (i + 1) (by omega) (by first | omega | (dsimp only; omega))) (by repeat (first | exact TmW.nil | refine TmW.upd ?_ (by simp (config := zd) [h6]))) (by repeat (first | exact BxW.nil | refine BxW.upd ?_ (by simp (config := zd) [h6])))
   · simp at h1
     have hi4 : i = 4 := by omega
     subst hi4
     repeat (first | apply WK.s | refine WK.exit rfl ?_)
     refine WK.ghost (Ghost.frzVar 7 rfl rfl) ?_
     have m1 : IntKind.i64.wrap (4 - (s : Int)) = ((4 - s : Nat) : Int) := by rw [wrap_i64 (by omega) (by omega)]; omega
     have m2 : (4 - s : Nat) ≤ 4 := by omega
     have m3 : 4 - (4 - s) = s := by omega
     have m4 := four_drop n s hs
     have m5 : (byL (fourAt n 4)).drop (4 - s) = byL (beN n s) := by rw [byL_drop, m4]
     have m6 : (byL (beN n s)).take s = byL (beN n s) := by_full _ _ (beN_len n s).symm
     obtain ⟨q, hq⟩ : ∃ q, q = 4 - s := ⟨_, rfl⟩
     rw [← hq] at m1 m2 m3 m5
     have hl1 : (beN n s).length = s := beN_len n s
     have hs63 : s ≤ 140737488355328 := by omega
     have c1 : (q : Int) ≤ 4 := by omega
     have hbd : (b.length + s) * 1 ≤ 140737488355328 := by omega
     by_cases hb0 : b = []
     · subst hb0
       rw [List.nil_append, hl1]
       refine WK.D 900 Tryz.ntmps68 ?_
       intro A hA Q hQ
       simp [m1, m2, m3, m5, m6, c1, b0_]
       refine RunQ.append0 900 901 appByte rfl rfl rfl rfl rfl rfl rfl (by simp [hs63, hl1, m6]) (by simp [hs63, hl1, m6]) (by simp [hs63, hl1, m6]) (by simp [hs63, hl1, m6]) (by simp [hs63, hl1, m6]) (by simp [hs63, hl1, m6]) (by simp) ?_
       refine RunQ.eval ?_
       simp [hs63, hl1, m6]
       apply hQ
       clear hQ hA
       refine WK.retO Tryz.func68 (by rfl) (by rfl) (by simp (config := zd) [m6]) (by simp [m6])
     · have hbp : 0 < b.length := List.length_pos_iff.2 hb0
       rw [List.length_append, hl1]
       refine WK.D 1000 Tryz.ntmps68 ?_
       intro A hA Q hQ
       simp [m1, m2, m3, m5, m6, c1, hf]
       refine RunQ.appendF 901 appByte rfl rfl rfl rfl rfl rfl (by simp [hbd, hl1, m6, hf]) rfl (by first | omega | simp [hbd, hl1, m6, hf]) (by first | omega | simp [hbd, hl1, m6, hf]) (by simp [hbd, hl1, m6, hf]) (by simp [hbd, hl1, m6, hf]) (by first | omega | simp [hbd, hl1, m6, hf]) (by simp) ?_
       refine RunQ.eval ?_
       simp [hbd, hl1, m6, hf]
       apply hQ
       clear hQ hA
       refine WK.retO Tryz.func68 (by rfl) (by rfl) (by simp (config := zd) [byL_app, hf, m6, hl1]) (by simp [byL_app, hf, m6, hl1])
end Go.Proofs.YtmhapglejjehbaaGreat

namespace Go.Proofs.YtmhapglejjehbaaGreat
open Go Go.AI Go.Proofs Go.Proofs.YtmhapglejjehbaaGreat
theorem allP3 {p q r : AV → Prop} {xs : List AV} (h : AllP [p, q, r] xs) : ∃ x y z, xs = [x, y, z] ∧ p x ∧ q y ∧ r z := by
 match xs, h with
 | [x, y, z], ⟨h0, h1, h2, _⟩ => exact ⟨x, y, z, rfl, h0, h1, h2⟩
end Go.Proofs.YtmhapglejjehbaaGreat
