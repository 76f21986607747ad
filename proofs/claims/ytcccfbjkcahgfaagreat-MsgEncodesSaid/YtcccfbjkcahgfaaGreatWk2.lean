/- Lists that are the same, by the references; lists of numbers; what is searched for. -/
import Derived.Test.YtcccfbjkcahgfaaGreatWk1
import Derived.Test.YtcccfbjkcahgfaaGreatAf
import Derived.Test.YtcccfbjkcahgfaaGreatDa
set_option linter.all false
set_option linter.unnecessarySimpa false
namespace Go.Proofs.YtcccfbjkcahgfaaGreat
open Go Go.AI Go.Proofs
theorem rosame_c (a b : Oxm) : FnP Tryz.prog 98 [.agg a.enc, .agg b.enc] (.bool (a == b)) := by
 have w1 := Wide.beq a.value b.value
 have w2 := Wide.beq a.mask b.mask
 have e : (a == b) = (a.field == b.field && (a.masked == b.masked && (a.value == b.value && a.mask == b.mask))) := by
   rw [Oxm.beq, w1, w2]; simp [Bool.and_assoc]
 rw [e]
 cases k1 : a.field == b.field
 · refine FnP.intro Tryz.func98 rfl rfl fun G w => ?_
   repeat (apply WK.seq)
   refine WK.reg 100 Tryz.ntmps98 (by kernel_rfl) ?_
   intro A hA Q hQ
   simp
   refine hQ _ _ ?_
   clear hQ hA
   repeat (apply WK.seq)
   refine WK.reg 200 Tryz.ntmps98 (by kernel_rfl) ?_
   intro A hA Q hQ
   have hg5 : (A[5]?).bind (·.dst) = some 10 := by rw [hA]; rfl
   have hg12 : (A[12]?).bind (·.dst) = some 17 := by rw [hA]; rfl
   have hg19 : (A[19]?).bind (·.dst) = some 24 := by rw [hA]; rfl
   simp [Oxm.enc, k1, hg5, hg12, hg19]
   refine hQ _ _ ?_
   clear hQ hA
   refine WK.ret Tryz.func98 (by simp (maxDischargeDepth := 120) [Tryz.results98, k1]) (by simp [k1])
 cases k2 : a.masked == b.masked
 · refine FnP.intro Tryz.func98 rfl rfl fun G w => ?_
   repeat (apply WK.seq)
   refine WK.reg 100 Tryz.ntmps98 (by kernel_rfl) ?_
   intro A hA Q hQ
   simp
   refine hQ _ _ ?_
   clear hQ hA
   repeat (apply WK.seq)
   refine WK.reg 200 Tryz.ntmps98 (by kernel_rfl) ?_
   intro A hA Q hQ
   have hg5 : (A[5]?).bind (·.dst) = some 10 := by rw [hA]; rfl
   have hg12 : (A[12]?).bind (·.dst) = some 17 := by rw [hA]; rfl
   have hg19 : (A[19]?).bind (·.dst) = some 24 := by rw [hA]; rfl
   simp [Oxm.enc, k1, k2, hg5, hg12, hg19]
   refine hQ _ _ ?_
   clear hQ hA
   refine WK.ret Tryz.func98 (by simp (maxDischargeDepth := 120) [Tryz.results98, k1, k2]) (by simp [k1, k2])
 cases k3 : a.value == b.value
 · rw [k3] at w1
   refine FnP.intro Tryz.func98 rfl rfl fun G w => ?_
   repeat (apply WK.seq)
   refine WK.reg 100 Tryz.ntmps98 (by kernel_rfl) ?_
   intro A hA Q hQ
   simp
   refine hQ _ _ ?_
   clear hQ hA
   repeat (apply WK.seq)
   refine WK.reg 200 Tryz.ntmps98 (by kernel_rfl) ?_
   intro A hA Q hQ
   have hg5 : (A[5]?).bind (·.dst) = some 10 := by rw [hA]; rfl
   have hg12 : (A[12]?).bind (·.dst) = some 17 := by rw [hA]; rfl
   have hg19 : (A[19]?).bind (·.dst) = some 24 := by rw [hA]; rfl
   simp [Oxm.enc, k1, k2, ← w1, hg5, hg12, hg19]
   refine hQ _ _ ?_
   clear hQ hA
   refine WK.ret Tryz.func98 (by simp (maxDischargeDepth := 120) [Tryz.results98, k1, k2, k3]) (by simp [k1, k2, k3])
 rw [k3] at w1
 refine FnP.intro Tryz.func98 rfl rfl fun G w => ?_
 repeat (apply WK.seq)
 refine WK.reg 100 Tryz.ntmps98 (by kernel_rfl) ?_
 intro A hA Q hQ
 simp
 refine hQ _ _ ?_
 clear hQ hA
 repeat (apply WK.seq)
 refine WK.reg 200 Tryz.ntmps98 (by kernel_rfl) ?_
 intro A hA Q hQ
 have hg5 : (A[5]?).bind (·.dst) = some 10 := by rw [hA]; rfl
 have hg12 : (A[12]?).bind (·.dst) = some 17 := by rw [hA]; rfl
 have hg19 : (A[19]?).bind (·.dst) = some 24 := by rw [hA]; rfl
 simp [Oxm.enc, k1, k2, ← w1, ← w2, hg5, hg12, hg19]
 refine hQ _ _ ?_
 clear hQ hA
 refine WK.ret Tryz.func98 (by simp (maxDischargeDepth := 120) [Tryz.results98, k1, k2, k3]) (by simp [k1, k2, k3])
theorem rasame_c (a b : Action) : FnP Tryz.prog 127 [.agg a.enc, .agg b.enc] (.bool (a == b)) := by
 rw [Action.beq]
 cases k1 : a.kind == b.kind
 · refine FnP.intro Tryz.func127 rfl rfl fun G w => ?_
   repeat (apply WK.seq)
   refine WK.reg 100 Tryz.ntmps127 (by kernel_rfl) ?_
   intro A hA Q hQ
   simp
   refine hQ _ _ ?_
   clear hQ hA
   repeat (apply WK.seq)
   refine WK.reg 200 Tryz.ntmps127 (by kernel_rfl) ?_
   intro A hA Q hQ
   have hg5 : (A[5]?).bind (·.dst) = some 10 := by rw [hA]; rfl
   have hg12 : (A[12]?).bind (·.dst) = some 17 := by rw [hA]; rfl
   have hg19 : (A[19]?).bind (·.dst) = some 24 := by rw [hA]; rfl
   have hg26 : (A[26]?).bind (·.dst) = some 31 := by rw [hA]; rfl
   have hg33 : (A[33]?).bind (·.dst) = some 38 := by rw [hA]; rfl
   simp [Action.enc, k1, hg5, hg12, hg19, hg26, hg33]
   refine hQ _ _ ?_
   clear hQ hA
   refine WK.ret Tryz.func127 (by simp (maxDischargeDepth := 120) [Tryz.results127, k1]) (by simp [k1])
 cases k2 : a.port == b.port
 · refine FnP.intro Tryz.func127 rfl rfl fun G w => ?_
   repeat (apply WK.seq)
   refine WK.reg 100 Tryz.ntmps127 (by kernel_rfl) ?_
   intro A hA Q hQ
   simp
   refine hQ _ _ ?_
   clear hQ hA
   repeat (apply WK.seq)
   refine WK.reg 200 Tryz.ntmps127 (by kernel_rfl) ?_
   intro A hA Q hQ
   have hg5 : (A[5]?).bind (·.dst) = some 10 := by rw [hA]; rfl
   have hg12 : (A[12]?).bind (·.dst) = some 17 := by rw [hA]; rfl
   have hg19 : (A[19]?).bind (·.dst) = some 24 := by rw [hA]; rfl
   have hg26 : (A[26]?).bind (·.dst) = some 31 := by rw [hA]; rfl
   have hg33 : (A[33]?).bind (·.dst) = some 38 := by rw [hA]; rfl
   simp [Action.enc, k1, k2, hg5, hg12, hg19, hg26, hg33]
   refine hQ _ _ ?_
   clear hQ hA
   refine WK.ret Tryz.func127 (by simp (maxDischargeDepth := 120) [Tryz.results127, k1, k2]) (by simp [k1, k2])
 cases k3 : a.max == b.max
 · refine FnP.intro Tryz.func127 rfl rfl fun G w => ?_
   repeat (apply WK.seq)
   refine WK.reg 100 Tryz.ntmps127 (by kernel_rfl) ?_
   intro A hA Q hQ
   simp
   refine hQ _ _ ?_
   clear hQ hA
   repeat (apply WK.seq)
   refine WK.reg 200 Tryz.ntmps127 (by kernel_rfl) ?_
   intro A hA Q hQ
   have hg5 : (A[5]?).bind (·.dst) = some 10 := by rw [hA]; rfl
   have hg12 : (A[12]?).bind (·.dst) = some 17 := by rw [hA]; rfl
   have hg19 : (A[19]?).bind (·.dst) = some 24 := by rw [hA]; rfl
   have hg26 : (A[26]?).bind (·.dst) = some 31 := by rw [hA]; rfl
   have hg33 : (A[33]?).bind (·.dst) = some 38 := by rw [hA]; rfl
   simp [Action.enc, k1, k2, k3, hg5, hg12, hg19, hg26, hg33]
   refine hQ _ _ ?_
   clear hQ hA
   refine WK.ret Tryz.func127 (by simp (maxDischargeDepth := 120) [Tryz.results127, k1, k2, k3]) (by simp [k1, k2, k3])
 cases k4 : a.group == b.group
 · refine FnP.intro Tryz.func127 rfl rfl fun G w => ?_
   repeat (apply WK.seq)
   refine WK.reg 100 Tryz.ntmps127 (by kernel_rfl) ?_
   intro A hA Q hQ
   simp
   refine hQ _ _ ?_
   clear hQ hA
   repeat (apply WK.seq)
   refine WK.reg 200 Tryz.ntmps127 (by kernel_rfl) ?_
   intro A hA Q hQ
   have hg5 : (A[5]?).bind (·.dst) = some 10 := by rw [hA]; rfl
   have hg12 : (A[12]?).bind (·.dst) = some 17 := by rw [hA]; rfl
   have hg19 : (A[19]?).bind (·.dst) = some 24 := by rw [hA]; rfl
   have hg26 : (A[26]?).bind (·.dst) = some 31 := by rw [hA]; rfl
   have hg33 : (A[33]?).bind (·.dst) = some 38 := by rw [hA]; rfl
   simp [Action.enc, k1, k2, k3, k4, hg5, hg12, hg19, hg26, hg33]
   refine hQ _ _ ?_
   clear hQ hA
   refine WK.ret Tryz.func127 (by simp (maxDischargeDepth := 120) [Tryz.results127, k1, k2, k3, k4]) (by simp [k1, k2, k3, k4])
 cases k5 : a.ether == b.ether
 · refine FnP.intro Tryz.func127 rfl rfl fun G w => ?_
   repeat (apply WK.seq)
   refine WK.reg 100 Tryz.ntmps127 (by kernel_rfl) ?_
   intro A hA Q hQ
   simp
   refine hQ _ _ ?_
   clear hQ hA
   repeat (apply WK.seq)
   refine WK.reg 200 Tryz.ntmps127 (by kernel_rfl) ?_
   intro A hA Q hQ
   have hg5 : (A[5]?).bind (·.dst) = some 10 := by rw [hA]; rfl
   have hg12 : (A[12]?).bind (·.dst) = some 17 := by rw [hA]; rfl
   have hg19 : (A[19]?).bind (·.dst) = some 24 := by rw [hA]; rfl
   have hg26 : (A[26]?).bind (·.dst) = some 31 := by rw [hA]; rfl
   have hg33 : (A[33]?).bind (·.dst) = some 38 := by rw [hA]; rfl
   simp [Action.enc, k1, k2, k3, k4, k5, hg5, hg12, hg19, hg26, hg33]
   refine hQ _ _ ?_
   clear hQ hA
   refine WK.ret Tryz.func127 (by simp (maxDischargeDepth := 120) [Tryz.results127, k1, k2, k3, k4, k5]) (by simp [k1, k2, k3, k4, k5])
 refine FnP.intro Tryz.func127 rfl rfl fun G w => ?_
 repeat (apply WK.seq)
 refine WK.reg 100 Tryz.ntmps127 (by kernel_rfl) ?_
 intro A hA Q hQ
 simp
 refine hQ _ _ ?_
 clear hQ hA
 repeat (apply WK.seq)
 refine WK.reg 200 Tryz.ntmps127 (by kernel_rfl) ?_
 intro A hA Q hQ
 have hg5 : (A[5]?).bind (·.dst) = some 10 := by rw [hA]; rfl
 have hg12 : (A[12]?).bind (·.dst) = some 17 := by rw [hA]; rfl
 have hg19 : (A[19]?).bind (·.dst) = some 24 := by rw [hA]; rfl
 have hg26 : (A[26]?).bind (·.dst) = some 31 := by rw [hA]; rfl
 have hg33 : (A[33]?).bind (·.dst) = some 38 := by rw [hA]; rfl
 simp [Action.enc, k1, k2, k3, k4, k5, hg5, hg12, hg19, hg26, hg33]
 refine RunQ.callG rfl rfl (by simp [hg33, Oxm.enc]) rfl (by rfl) (by simp (maxDischargeDepth := 120) [hg33, Oxm.enc]) (rosame_c a.oxm b.oxm) (by simp [hg33, Oxm.enc]) ?_
 refine RunQ.eval ?_
 simp [hg33, Oxm.enc]
 refine hQ _ _ ?_
 clear hQ hA
 refine WK.ret Tryz.func127 (by simp (maxDischargeDepth := 120) [Tryz.results127, k1, k2, k3, k4, k5]) (by simp [k1, k2, k3, k4, k5])
theorem rsame_oxm (l m : List Oxm) (hl : l.length ≤ 1000000) : FnP Tryz.prog 63 [oxmS l, oxmS m] (.bool (eqBy (fun x y => x == y) l m)) := by
 unfold oxmS
 refine FnP.intro Tryz.func63 rfl rfl fun G w => ?_
 repeat (first | apply WK.seq | apply WK.block | apply WK.inBlock | apply WK.skip | apply WK.label | apply WK.scope | apply WK.inScope | refine WK.exit rfl ?_)
 first | refine WK.reg 100 Tryz.ntmps63 (by kernel_rfl) ?_ | refine WK.regD 100 clsOf (by kernel_rfl) Tryz.ntmps63 (by kernel_rfl) (by kernel_rfl) ?_
 intro A hA Q hQ
 simp
 refine hQ _ _ ?_
 clear hQ hA
 repeat (first | apply WK.seq | apply WK.block | apply WK.inBlock | apply WK.skip | apply WK.label | apply WK.scope | apply WK.inScope | refine WK.exit rfl ?_)
 first | refine WK.reg 200 Tryz.ntmps63 (by kernel_rfl) ?_ | refine WK.regD 200 clsOf (by kernel_rfl) Tryz.ntmps63 (by kernel_rfl) (by kernel_rfl) ?_
 intro A hA Q hQ
 simp
 refine hQ _ _ ?_
 clear hQ hA
 repeat (first | apply WK.seq | apply WK.block | apply WK.inBlock | apply WK.skip | apply WK.label | apply WK.scope | apply WK.inScope | refine WK.exit rfl ?_)
 refine WK.c2 rfl (fun h => ?_) (fun h => ?_)
 · simp at h
   have e : eqBy (fun x y => x == y) l m = false := by unfold eqBy; simp; intro e; omega
   repeat (first | apply WK.seq | apply WK.block | apply WK.inBlock | apply WK.skip | apply WK.label | apply WK.scope | apply WK.inScope | refine WK.exit rfl ?_)
   first | refine WK.reg 300 Tryz.ntmps63 (by kernel_rfl) ?_ | refine WK.regD 300 clsOf (by kernel_rfl) Tryz.ntmps63 (by kernel_rfl) (by kernel_rfl) ?_
   intro A hA Q hQ
   simp
   refine hQ _ _ ?_
   clear hQ hA
   repeat (first | apply WK.seq | apply WK.block | apply WK.inBlock | apply WK.skip | apply WK.label | apply WK.scope | apply WK.inScope | refine WK.exit rfl ?_)
   refine WK.ret Tryz.func63 (by simp (maxDischargeDepth := 120) [Tryz.results63, e]) (by simp [e])
 · simp at h
   have hlm : l.length = m.length := by omega
   repeat (first | apply WK.seq | apply WK.block | apply WK.inBlock | apply WK.skip | apply WK.label | apply WK.scope | apply WK.inScope | refine WK.exit rfl ?_)
   first | refine WK.reg 400 Tryz.ntmps63 (by kernel_rfl) ?_ | refine WK.regD 400 clsOf (by kernel_rfl) Tryz.ntmps63 (by kernel_rfl) (by kernel_rfl) ?_
   intro A hA Q hQ
   simp
   refine hQ _ _ ?_
   clear hQ hA
   repeat (first | apply WK.seq | apply WK.block | apply WK.inBlock | apply WK.skip | apply WK.label | apply WK.scope | apply WK.inScope | refine WK.exit rfl ?_)
   refine WK.lI (fun n => n) (fun i : Nat => (⟨(upd (upd (upd J 0 (.sl false l.length (oxmL l))) 1 (.sl false m.length (oxmL m))) 5 (.int .i64 i)), B0, 0⟩ : St)) (fun i => i ≤ l.length ∧ ∀ j, j < i → (nth l j == nth m j) = true) (fun i => l.length - i) (0) (by repeat (first | exact TmW.nil | refine TmW.upd ?_ (by simp (maxDischargeDepth := 120)))) (by repeat (first | exact BxW.nil | refine BxW.upd ?_ (by simp (maxDischargeDepth := 120)))) InjW.id (⟨by omega, by simp⟩) (fun i hi IH => ?_)
   repeat (first | apply WK.seq | apply WK.block | apply WK.inBlock | apply WK.skip | apply WK.label | apply WK.scope | apply WK.inScope | refine WK.exit rfl ?_)
   first | refine WK.reg 500 Tryz.ntmps63 (by kernel_rfl) ?_ | refine WK.regD 500 clsOf (by kernel_rfl) Tryz.ntmps63 (by kernel_rfl) (by kernel_rfl) ?_
   intro A hA Q hQ
   simp
   refine hQ _ _ ?_
   clear hQ hA
   repeat (first | apply WK.seq | apply WK.block | apply WK.inBlock | apply WK.skip | apply WK.label | apply WK.scope | apply WK.inScope | refine WK.exit rfl ?_)
   refine WK.c2 rfl (fun h1 => ?_) (fun h1 => ?_)
   · simp at h1
     have h2 : i < l.length := by omega
     have h2' : i < m.length := by omega
     have h3 : 6 ≤ l.length * 6 - i * 6 := by omega
     have h3' : 6 ≤ m.length * 6 - i * 6 := by omega
     have h4 := oxm_sub l i h2
     have h4' := oxm_sub m i h2'
     have h6 : IntKind.i64.wrap ((i : Int) + 1) = i + 1 := wrap_i64 (by omega) (by omega)
     repeat (first | apply WK.seq | apply WK.block | apply WK.inBlock | apply WK.skip | apply WK.label | apply WK.scope | apply WK.inScope | refine WK.exit rfl ?_)
     first | refine WK.reg 600 Tryz.ntmps63 (by kernel_rfl) ?_ | refine WK.regD 600 clsOf (by kernel_rfl) Tryz.ntmps63 (by kernel_rfl) (by kernel_rfl) ?_
     intro A hA Q hQ
     simp [h2, h2', h3, h3', h4, h4']
     refine RunQ.call rfl rfl rfl rfl (by rfl) (by simp (maxDischargeDepth := 120)) (rosame_c (nth l i) (nth m i)) (by simp) ?_
     refine RunQ.eval ?_
     simp
     refine hQ _ _ ?_
     clear hQ hA
     repeat (first | apply WK.seq | apply WK.block | apply WK.inBlock | apply WK.skip | apply WK.label | apply WK.scope | apply WK.inScope | refine WK.exit rfl ?_)
     refine WK.c2 rfl (fun h5 => ?_) (fun h5 => ?_)
     · simp at h5
       have e : eqBy (fun x y => x == y) l m = false := by unfold eqBy; rw [all_range_false (p := fun i => (nth l i == nth m i)) h2 (by simpa using h5)]; simp
       repeat (first | apply WK.seq | apply WK.block | apply WK.inBlock | apply WK.skip | apply WK.label | apply WK.scope | apply WK.inScope | refine WK.exit rfl ?_)
       first | refine WK.reg 700 Tryz.ntmps63 (by kernel_rfl) ?_ | refine WK.regD 700 clsOf (by kernel_rfl) Tryz.ntmps63 (by kernel_rfl) (by kernel_rfl) ?_
       intro A hA Q hQ
       simp
       refine hQ _ _ ?_
       clear hQ hA
       repeat (first | apply WK.seq | apply WK.block | apply WK.inBlock | apply WK.skip | apply WK.label | apply WK.scope | apply WK.inScope | refine WK.exit rfl ?_)
       refine WK.ret Tryz.func63 (by simp (maxDischargeDepth := 120) [Tryz.results63, e]) (by simp [e])
     · simp at h5
       repeat (first | apply WK.seq | apply WK.block | apply WK.inBlock | apply WK.skip | apply WK.label | apply WK.scope | apply WK.inScope | refine WK.exit rfl ?_)
       first | refine WK.reg 800 Tryz.ntmps63 (by kernel_rfl) ?_ | refine WK.regD 800 clsOf (by kernel_rfl) Tryz.ntmps63 (by kernel_rfl) (by kernel_rfl) ?_
       intro A hA Q hQ
       simp [h6]
       refine hQ _ _ ?_
       clear hQ hA
       repeat (first | apply WK.seq | apply WK.block | apply WK.inBlock | apply WK.skip | apply WK.label | apply WK.scope | apply WK.inScope | refine WK.exit rfl ?_)
       refine WK.next (fun n => n) (IH (i + 1) (⟨by omega, fun j hj => by by_cases h7 : j = i; (subst h7; simpa using h5); exact hi.2 j (by omega)⟩) (by first | omega | (dsimp only; omega))) (by repeat (first | exact TmW.nil | refine TmW.upd ?_ (by simp (maxDischargeDepth := 120)))) (by repeat (first | exact BxW.nil | refine BxW.upd ?_ (by simp (maxDischargeDepth := 120)))) InjW.id
   · simp at h1
     have e : eqBy (fun x y => x == y) l m = true := by unfold eqBy; rw [all_range_true (p := fun i => (nth l i == nth m i)) (fun j hj => hi.2 j (by omega))]; simp [hlm]
     repeat (first | apply WK.seq | apply WK.block | apply WK.inBlock | apply WK.skip | apply WK.label | apply WK.scope | apply WK.inScope | refine WK.exit rfl ?_)
     first | refine WK.reg 900 Tryz.ntmps63 (by kernel_rfl) ?_ | refine WK.regD 900 clsOf (by kernel_rfl) Tryz.ntmps63 (by kernel_rfl) (by kernel_rfl) ?_
     intro A hA Q hQ
     simp
     refine hQ _ _ ?_
     clear hQ hA
     repeat (first | apply WK.seq | apply WK.block | apply WK.inBlock | apply WK.skip | apply WK.label | apply WK.scope | apply WK.inScope | refine WK.exit rfl ?_)
     refine WK.ret Tryz.func63 (by simp (maxDischargeDepth := 120) [Tryz.results63, e]) (by simp [e])
theorem rsame_act (l m : List Action) (hl : l.length ≤ 1000000) : FnP Tryz.prog 100 [actS l, actS m] (.bool (eqBy (fun x y => x == y) l m)) := by
 unfold actS
 refine FnP.intro Tryz.func100 rfl rfl fun G w => ?_
 repeat (apply WK.seq)
 refine WK.reg 100 Tryz.ntmps100 (by kernel_rfl) ?_
 intro A hA Q hQ
 simp
 refine hQ _ _ ?_
 clear hQ hA
 repeat (apply WK.seq)
 refine WK.reg 200 Tryz.ntmps100 (by kernel_rfl) ?_
 intro A hA Q hQ
 simp
 refine hQ _ _ ?_
 clear hQ hA
 refine WK.c2 rfl (fun h => ?_) (fun h => ?_)
 · simp at h
   have e : eqBy (fun x y => x == y) l m = false := by unfold eqBy; simp; intro e; omega
   repeat (apply WK.seq)
   refine WK.reg 300 Tryz.ntmps100 (by kernel_rfl) ?_
   intro A hA Q hQ
   simp
   refine hQ _ _ ?_
   clear hQ hA
   refine WK.ret Tryz.func100 (by simp (maxDischargeDepth := 120) [Tryz.results100, e]) (by simp [e])
 · simp at h
   have hlm : l.length = m.length := by omega
   repeat (first | apply WK.seq | apply WK.skip)
   refine WK.reg 400 Tryz.ntmps100 (by kernel_rfl) ?_
   intro A hA Q hQ
   simp
   refine hQ _ _ ?_
   clear hQ hA
   repeat (apply WK.block)
   refine WK.lI (fun n => n) (fun i : Nat => (⟨(upd (upd (upd J 0 (.sl false l.length (actL l))) 1 (.sl false m.length (actL m))) 5 (.int .i64 i)), B0, 0⟩ : St)) (fun i => i ≤ l.length ∧ ∀ j, j < i → (nth l j == nth m j) = true) (fun i => l.length - i) (0) (by repeat (first | exact TmW.nil | refine TmW.upd ?_ (by simp (maxDischargeDepth := 120)))) (by repeat (first | exact BxW.nil | refine BxW.upd ?_ (by simp (maxDischargeDepth := 120)))) InjW.id (⟨by omega, by simp⟩) (fun i hi IH => ?_)
   repeat (apply WK.seq)
   refine WK.reg 500 Tryz.ntmps100 (by kernel_rfl) ?_
   intro A hA Q hQ
   simp
   refine hQ _ _ ?_
   clear hQ hA
   refine WK.c2 rfl (fun h1 => ?_) (fun h1 => ?_)
   · simp at h1
     have h2 : i < l.length := by omega
     have h2' : i < m.length := by omega
     have h3 : 11 ≤ l.length * 11 - i * 11 := by omega
     have h3' : 11 ≤ m.length * 11 - i * 11 := by omega
     have h4 := act_sub l i h2
     have h4' := act_sub m i h2'
     have h6 : IntKind.i64.wrap ((i : Int) + 1) = i + 1 := wrap_i64 (by omega) (by omega)
     repeat (first | apply WK.seq | apply WK.block | apply WK.skip)
     refine WK.regD 600 clsOf (by kernel_rfl) Tryz.ntmps100 (by kernel_rfl) (by kernel_rfl) ?_
     intro A hA Q hQ
     simp [h2, h2', h3, h3', h4, h4']
     refine RunQ.call rfl rfl rfl rfl (by rfl) (by simp (maxDischargeDepth := 120)) (rasame_c (nth l i) (nth m i)) (by simp) ?_
     refine RunQ.eval ?_
     simp
     refine hQ _ _ ?_
     clear hQ hA
     refine WK.c2 rfl (fun h5 => ?_) (fun h5 => ?_)
     · simp at h5
       have e : eqBy (fun x y => x == y) l m = false := by unfold eqBy; rw [all_range_false (p := fun i => (nth l i == nth m i)) h2 (by simpa using h5)]; simp
       repeat (apply WK.seq)
       refine WK.reg 700 Tryz.ntmps100 (by kernel_rfl) ?_
       intro A hA Q hQ
       simp
       refine hQ _ _ ?_
       clear hQ hA
       refine WK.ret Tryz.func100 (by simp (maxDischargeDepth := 120) [Tryz.results100, e]) (by simp [e])
     · simp at h5
       repeat (first | apply WK.inBlock | apply WK.skip)
       refine WK.reg 800 Tryz.ntmps100 (by kernel_rfl) ?_
       intro A hA Q hQ
       simp [h6]
       refine hQ _ _ ?_
       clear hQ hA
       refine WK.next (fun n => n) (IH (i + 1) (⟨by omega, fun j hj => by by_cases h7 : j = i; (subst h7; simpa using h5); exact hi.2 j (by omega)⟩) (by first | omega | (dsimp only; omega))) (by repeat (first | exact TmW.nil | refine TmW.upd ?_ (by simp (maxDischargeDepth := 120)))) (by repeat (first | exact BxW.nil | refine BxW.upd ?_ (by simp (maxDischargeDepth := 120)))) InjW.id
   · simp at h1
     have e : eqBy (fun x y => x == y) l m = true := by unfold eqBy; rw [all_range_true (p := fun i => (nth l i == nth m i)) (fun j hj => hi.2 j (by omega))]; simp [hlm]
     repeat (first | apply WK.seq | refine WK.exit rfl ?_)
     refine WK.reg 900 Tryz.ntmps100 (by kernel_rfl) ?_
     intro A hA Q hQ
     simp
     refine hQ _ _ ?_
     clear hQ hA
     refine WK.ret Tryz.func100 (by simp (maxDischargeDepth := 120) [Tryz.results100, e]) (by simp [e])
theorem risame_c (a b : Inst) (hl : a.acts.length ≤ 1000000) : FnP Tryz.prog 99 [.agg a.enc, .agg b.enc] (.bool (Inst.same a b)) := by
 have w1 := Wide.beq a.value b.value
 have w2 := Wide.beq a.mask b.mask
 cases k1 : a.kind == b.kind
 · refine FnP.intro Tryz.func99 rfl rfl fun G w => ?_
   repeat (apply WK.seq)
   refine WK.reg 100 Tryz.ntmps99 (by kernel_rfl) ?_
   intro A hA Q hQ
   simp
   refine hQ _ _ ?_
   clear hQ hA
   repeat (apply WK.seq)
   refine WK.reg 200 Tryz.ntmps99 (by kernel_rfl) ?_
   intro A hA Q hQ
   have hg5 : (A[5]?).bind (·.dst) = some 10 := by rw [hA]; rfl
   have hg12 : (A[12]?).bind (·.dst) = some 17 := by rw [hA]; rfl
   have hg19 : (A[19]?).bind (·.dst) = some 24 := by rw [hA]; rfl
   have hg26 : (A[26]?).bind (·.dst) = some 31 := by rw [hA]; rfl
   simp [Inst.enc, k1, hg5, hg12, hg19, hg26]
   refine hQ _ _ ?_
   clear hQ hA
   refine WK.ret Tryz.func99 (by simp (maxDischargeDepth := 120) [Tryz.results99, Inst.same, k1]) (by simp [Inst.same, k1])
 cases k2 : a.table == b.table
 · refine FnP.intro Tryz.func99 rfl rfl fun G w => ?_
   repeat (apply WK.seq)
   refine WK.reg 100 Tryz.ntmps99 (by kernel_rfl) ?_
   intro A hA Q hQ
   simp
   refine hQ _ _ ?_
   clear hQ hA
   repeat (apply WK.seq)
   refine WK.reg 200 Tryz.ntmps99 (by kernel_rfl) ?_
   intro A hA Q hQ
   have hg5 : (A[5]?).bind (·.dst) = some 10 := by rw [hA]; rfl
   have hg12 : (A[12]?).bind (·.dst) = some 17 := by rw [hA]; rfl
   have hg19 : (A[19]?).bind (·.dst) = some 24 := by rw [hA]; rfl
   have hg26 : (A[26]?).bind (·.dst) = some 31 := by rw [hA]; rfl
   simp [Inst.enc, k1, k2, hg5, hg12, hg19, hg26]
   refine hQ _ _ ?_
   clear hQ hA
   refine WK.ret Tryz.func99 (by simp (maxDischargeDepth := 120) [Tryz.results99, Inst.same, k1, k2]) (by simp [Inst.same, k1, k2])
 cases k3 : a.value == b.value
 · rw [k3] at w1
   refine FnP.intro Tryz.func99 rfl rfl fun G w => ?_
   repeat (apply WK.seq)
   refine WK.reg 100 Tryz.ntmps99 (by kernel_rfl) ?_
   intro A hA Q hQ
   simp
   refine hQ _ _ ?_
   clear hQ hA
   repeat (apply WK.seq)
   refine WK.reg 200 Tryz.ntmps99 (by kernel_rfl) ?_
   intro A hA Q hQ
   have hg5 : (A[5]?).bind (·.dst) = some 10 := by rw [hA]; rfl
   have hg12 : (A[12]?).bind (·.dst) = some 17 := by rw [hA]; rfl
   have hg19 : (A[19]?).bind (·.dst) = some 24 := by rw [hA]; rfl
   have hg26 : (A[26]?).bind (·.dst) = some 31 := by rw [hA]; rfl
   simp [Inst.enc, k1, k2, ← w1, hg5, hg12, hg19, hg26]
   refine hQ _ _ ?_
   clear hQ hA
   refine WK.ret Tryz.func99 (by simp (maxDischargeDepth := 120) [Tryz.results99, Inst.same, k1, k2, k3]) (by simp [Inst.same, k1, k2, k3])
 rw [k3] at w1
 cases k4 : a.mask == b.mask
 · rw [k4] at w2
   refine FnP.intro Tryz.func99 rfl rfl fun G w => ?_
   repeat (apply WK.seq)
   refine WK.reg 100 Tryz.ntmps99 (by kernel_rfl) ?_
   intro A hA Q hQ
   simp
   refine hQ _ _ ?_
   clear hQ hA
   repeat (apply WK.seq)
   refine WK.reg 200 Tryz.ntmps99 (by kernel_rfl) ?_
   intro A hA Q hQ
   have hg5 : (A[5]?).bind (·.dst) = some 10 := by rw [hA]; rfl
   have hg12 : (A[12]?).bind (·.dst) = some 17 := by rw [hA]; rfl
   have hg19 : (A[19]?).bind (·.dst) = some 24 := by rw [hA]; rfl
   have hg26 : (A[26]?).bind (·.dst) = some 31 := by rw [hA]; rfl
   simp [Inst.enc, k1, k2, ← w1, ← w2, hg5, hg12, hg19, hg26]
   refine hQ _ _ ?_
   clear hQ hA
   refine WK.ret Tryz.func99 (by simp (maxDischargeDepth := 120) [Tryz.results99, Inst.same, k1, k2, k3, k4]) (by simp [Inst.same, k1, k2, k3, k4])
 rw [k4] at w2
 refine FnP.intro Tryz.func99 rfl rfl fun G w => ?_
 repeat (apply WK.seq)
 refine WK.reg 100 Tryz.ntmps99 (by kernel_rfl) ?_
 intro A hA Q hQ
 simp
 refine hQ _ _ ?_
 clear hQ hA
 repeat (apply WK.seq)
 refine WK.reg 200 Tryz.ntmps99 (by kernel_rfl) ?_
 intro A hA Q hQ
 have hg5 : (A[5]?).bind (·.dst) = some 10 := by rw [hA]; rfl
 have hg12 : (A[12]?).bind (·.dst) = some 17 := by rw [hA]; rfl
 have hg19 : (A[19]?).bind (·.dst) = some 24 := by rw [hA]; rfl
 have hg26 : (A[26]?).bind (·.dst) = some 31 := by rw [hA]; rfl
 simp [Inst.enc, k1, k2, ← w1, ← w2, hg5, hg12, hg19, hg26]
 refine RunQ.callG rfl rfl (by simp [hg26, actS]) rfl (by rfl) (by simp (maxDischargeDepth := 120) [hg26, actS]) (rsame_act a.acts b.acts hl) (by simp [hg26, actS]) ?_
 refine RunQ.eval ?_
 simp [hg26, actS]
 refine hQ _ _ ?_
 clear hQ hA
 refine WK.ret Tryz.func99 (by simp (maxDischargeDepth := 120) [Tryz.results99, Inst.same, k1, k2, k3, k4]) (by simp [Inst.same, k1, k2, k3, k4])
theorem rsame_inst (l m : List Inst) (hl : l.length ≤ 1000000) (ha : ∀ x, x ∈ l → x.acts.length ≤ 1000000) : FnP Tryz.prog 64 [instS l, instS m] (.bool (eqBy Inst.same l m)) := by
 unfold instS
 refine FnP.intro Tryz.func64 rfl rfl fun G w => ?_
 repeat (apply WK.seq)
 refine WK.reg 100 Tryz.ntmps64 (by kernel_rfl) ?_
 intro A hA Q hQ
 simp
 refine hQ _ _ ?_
 clear hQ hA
 repeat (apply WK.seq)
 refine WK.reg 200 Tryz.ntmps64 (by kernel_rfl) ?_
 intro A hA Q hQ
 simp
 refine hQ _ _ ?_
 clear hQ hA
 refine WK.c2 rfl (fun h => ?_) (fun h => ?_)
 · simp at h
   have e : eqBy Inst.same l m = false := by unfold eqBy; simp; intro e; omega
   repeat (apply WK.seq)
   refine WK.reg 300 Tryz.ntmps64 (by kernel_rfl) ?_
   intro A hA Q hQ
   simp
   refine hQ _ _ ?_
   clear hQ hA
   refine WK.ret Tryz.func64 (by simp (maxDischargeDepth := 120) [Tryz.results64, e]) (by simp [e])
 · simp at h
   have hlm : l.length = m.length := by omega
   repeat (first | apply WK.seq | apply WK.skip)
   refine WK.reg 400 Tryz.ntmps64 (by kernel_rfl) ?_
   intro A hA Q hQ
   simp
   refine hQ _ _ ?_
   clear hQ hA
   repeat (apply WK.block)
   refine WK.lI (fun n => n) (fun i : Nat => (⟨(upd (upd (upd J 0 (.sl false l.length (instL l))) 1 (.sl false m.length (instL m))) 5 (.int .i64 i)), B0, 0⟩ : St)) (fun i => i ≤ l.length ∧ ∀ j, j < i → Inst.same (nth l j) (nth m j) = true) (fun i => l.length - i) (0) (by repeat (first | exact TmW.nil | refine TmW.upd ?_ (by simp (maxDischargeDepth := 120)))) (by repeat (first | exact BxW.nil | refine BxW.upd ?_ (by simp (maxDischargeDepth := 120)))) InjW.id (⟨by omega, by simp⟩) (fun i hi IH => ?_)
   repeat (apply WK.seq)
   refine WK.reg 500 Tryz.ntmps64 (by kernel_rfl) ?_
   intro A hA Q hQ
   simp
   refine hQ _ _ ?_
   clear hQ hA
   refine WK.c2 rfl (fun h1 => ?_) (fun h1 => ?_)
   · simp at h1
     have h2 : i < l.length := by omega
     have h2' : i < m.length := by omega
     have h3 : 7 ≤ l.length * 7 - i * 7 := by omega
     have h3' : 7 ≤ m.length * 7 - i * 7 := by omega
     have h4 := inst_sub l i h2
     have h4' := inst_sub m i h2'
     have h6 : IntKind.i64.wrap ((i : Int) + 1) = i + 1 := wrap_i64 (by omega) (by omega)
     repeat (first | apply WK.seq | apply WK.block | apply WK.skip)
     refine WK.regD 600 clsOf (by kernel_rfl) Tryz.ntmps64 (by kernel_rfl) (by kernel_rfl) ?_
     intro A hA Q hQ
     simp [h2, h2', h3, h3', h4, h4']
     refine RunQ.call rfl rfl rfl rfl (by rfl) (by simp (maxDischargeDepth := 120)) (risame_c (nth l i) (nth m i) (ha _ (nth_mem h2))) (by simp) ?_
     refine RunQ.eval ?_
     simp
     refine hQ _ _ ?_
     clear hQ hA
     refine WK.c2 rfl (fun h5 => ?_) (fun h5 => ?_)
     · simp at h5
       have e : eqBy Inst.same l m = false := by unfold eqBy; rw [all_range_false (p := fun i => Inst.same (nth l i) (nth m i)) h2 h5]; simp
       repeat (apply WK.seq)
       refine WK.reg 700 Tryz.ntmps64 (by kernel_rfl) ?_
       intro A hA Q hQ
       simp
       refine hQ _ _ ?_
       clear hQ hA
       refine WK.ret Tryz.func64 (by simp (maxDischargeDepth := 120) [Tryz.results64, e]) (by simp [e])
     · simp at h5
       repeat (first | apply WK.inBlock | apply WK.skip)
       refine WK.reg 800 Tryz.ntmps64 (by kernel_rfl) ?_
       intro A hA Q hQ
       simp [h6]
       refine hQ _ _ ?_
       clear hQ hA
       refine WK.next (fun n => n) (IH (i + 1) (⟨by omega, fun j hj => by by_cases h7 : j = i; (subst h7; exact h5); exact hi.2 j (by omega)⟩) (by first | omega | (dsimp only; omega))) (by repeat (first | exact TmW.nil | refine TmW.upd ?_ (by simp (maxDischargeDepth := 120)))) (by repeat (first | exact BxW.nil | refine BxW.upd ?_ (by simp (maxDischargeDepth := 120)))) InjW.id
   · simp at h1
     have e : eqBy Inst.same l m = true := by unfold eqBy; rw [all_range_true (p := fun i => Inst.same (nth l i) (nth m i)) (fun j hj => hi.2 j (by omega))]; simp [hlm]
     repeat (first | apply WK.seq | refine WK.exit rfl ?_)
     refine WK.reg 900 Tryz.ntmps64 (by kernel_rfl) ?_
     intro A hA Q hQ
     simp
     refine hQ _ _ ?_
     clear hQ hA
     refine WK.ret Tryz.func64 (by simp (maxDischargeDepth := 120) [Tryz.results64, e]) (by simp [e])

def idxI {α : Type} (p : α → Bool) (l : List α) : Int := match l.findIdx? p with | some i => i | none => -1
theorem idxI_some {α : Type} [Inhabited α] {p : α → Bool} {l : List α} {i : Nat} (h : i < l.length) (hp : p (nth l i) = true) (hn : ∀ j, j < i → p (nth l j) = false) : idxI p l = i := by
 unfold idxI
 have : l.findIdx? p = some i := by
   rw [List.findIdx?_eq_some_iff_getElem]
   refine ⟨h, by rw [← nth_eq h]; exact hp, fun j hj => ?_⟩
   rw [← nth_eq (by omega)]; simp [hn j hj]
 rw [this]
theorem idxI_none {α : Type} [Inhabited α] {p : α → Bool} {l : List α} (hn : ∀ j, j < l.length → p (nth l j) = false) : idxI p l = -1 := by
 unfold idxI
 have : l.findIdx? p = none := by
   rw [List.findIdx?_eq_none_iff]
   intro x hx
   obtain ⟨i, hi, rfl⟩ := mem_nth hx
   exact hn i hi
 rw [this]
theorem idxI_ge {α : Type} (p : α → Bool) (l : List α) : decide (idxI p l ≥ 0) = l.any p := by
 unfold idxI
 cases h : l.findIdx? p with
 | none =>
   rw [List.findIdx?_eq_none_iff] at h
   have : l.any p = false := by rw [List.any_eq_false]; intro x hx; simp [h x hx]
   simp [this]
 | some i =>
   rw [List.findIdx?_eq_some_iff_getElem] at h
   obtain ⟨hi, hp, _⟩ := h
   have : l.any p = true := List.any_eq_true.2 ⟨_, List.getElem_mem hi, hp⟩
   simp [this]
theorem indexf_inst (fid : Nat) (caps : List AV) (p : Inst → Bool) (l : List Inst) (hcl : ClL caps = true) (hl : l.length ≤ 1000000)
   (hf : ∀ x, x ∈ l → FnP Tryz.prog fid (.agg x.enc :: caps) (.bool (p x))) :
   FnP Tryz.prog 118 [instS l, .fn fid caps] (.int .i64 (idxI p l)) := by
 unfold instS
 refine FnP.intro Tryz.func118 rfl rfl fun G w => ?_
 repeat (apply WK.seq)
 refine WK.reg 100 Tryz.ntmps118 (by kernel_rfl) ?_
 intro A hA Q hQ
 simp
 refine hQ _ _ ?_
 clear hQ hA
 repeat (apply WK.seq)
 refine WK.reg 200 Tryz.ntmps118 (by kernel_rfl) ?_
 intro A hA Q hQ
 simp
 refine hQ _ _ ?_
 clear hQ hA
 repeat (apply WK.block)
 refine WK.lI (fun n => n) (fun i : Nat => (⟨(upd (upd (upd (upd J 0 (.sl false l.length (instL l))) 1 (.fn fid caps)) 7 (.int .i64 l.length)) 8 (.int .i64 i)), B0, 0⟩ : St)) (fun i => i ≤ l.length ∧ ∀ j, j < i → p (nth l j) = false) (fun i => l.length - i) (0) (by repeat (first | exact TmW.nil | refine TmW.upd ?_ (by simp (maxDischargeDepth := 120) [hcl]))) (by repeat (first | exact BxW.nil | refine BxW.upd ?_ (by simp (maxDischargeDepth := 120) [hcl]))) InjW.id (⟨by omega, by simp⟩) (fun i hi IH => ?_)
 repeat (apply WK.seq)
 refine WK.reg 300 Tryz.ntmps118 (by kernel_rfl) ?_
 intro A hA Q hQ
 simp
 refine hQ _ _ ?_
 clear hQ hA
 repeat (apply WK.seq)
 refine WK.c2 rfl (fun h1 => ?_) (fun h1 => ?_)
 · simp at h1
   have h2 : i < l.length := by omega
   have h3 : 7 ≤ l.length * 7 - i * 7 := by omega
   have h4 := inst_sub l i h2
   have h6 : IntKind.i64.wrap ((i : Int) + 1) = i + 1 := wrap_i64 (by omega) (by omega)
   repeat (first | apply WK.seq | apply WK.block | apply WK.skip)
   refine WK.reg 400 Tryz.ntmps118 (by kernel_rfl) ?_
   intro A hA Q hQ
   simp
   refine hQ _ _ ?_
   clear hQ hA
   repeat (apply WK.seq)
   refine WK.reg 500 Tryz.ntmps118 (by kernel_rfl) ?_
   intro A hA Q hQ
   simp [h2, h3, h4]
   refine RunQ.call rfl rfl rfl rfl (by rfl) (by simp (maxDischargeDepth := 120) [hcl]) (hf (nth l i) (nth_mem h2)) (by simp [hcl]) ?_
   refine RunQ.eval ?_
   simp [hcl]
   refine hQ _ _ ?_
   clear hQ hA
   refine WK.c2 rfl (fun h5 => ?_) (fun h5 => ?_)
   · have e := idxI_some h2 h5 hi.2
     repeat (apply WK.seq)
     refine WK.reg 600 Tryz.ntmps118 (by kernel_rfl) ?_
     intro A hA Q hQ
     simp
     refine hQ _ _ ?_
     clear hQ hA
     refine WK.ret Tryz.func118 (by simp (maxDischargeDepth := 120) [Tryz.results118, e]) (by simp [e])
   · repeat (first | apply WK.inBlock | apply WK.skip)
     refine WK.reg 700 Tryz.ntmps118 (by kernel_rfl) ?_
     intro A hA Q hQ
     simp [h6]
     refine hQ _ _ ?_
     clear hQ hA
     refine WK.next (fun n => n) (IH (i + 1) (⟨by omega, fun j hj => by by_cases h7 : j = i; (subst h7; exact h5); exact hi.2 j (by omega)⟩) (by first | omega | (dsimp only; omega))) (by repeat (first | exact TmW.nil | refine TmW.upd ?_ (by simp (maxDischargeDepth := 120) [hcl]))) (by repeat (first | exact BxW.nil | refine BxW.upd ?_ (by simp (maxDischargeDepth := 120) [hcl]))) InjW.id
 · simp at h1
   have e := idxI_none (p := p) (l := l) (fun j hj => hi.2 j (by omega))
   repeat (first | apply WK.seq | refine WK.exit rfl ?_)
   refine WK.reg 800 Tryz.ntmps118 (by kernel_rfl) ?_
   intro A hA Q hQ
   simp
   refine hQ _ _ ?_
   clear hQ hA
   refine WK.ret Tryz.func118 (by simp (maxDischargeDepth := 120) [Tryz.results118, e]) (by simp [e])
theorem containsf_inst (fid : Nat) (caps : List AV) (p : Inst → Bool) (l : List Inst) (hcl : ClL caps = true) (hl : l.length ≤ 1000000)
   (hf : ∀ x, x ∈ l → FnP Tryz.prog fid (.agg x.enc :: caps) (.bool (p x))) :
   FnP Tryz.prog 81 [instS l, .fn fid caps] (.bool (l.any p)) := by
 have e := idxI_ge p l
 simp only [ge_iff_le] at e
 refine FnP.intro Tryz.func81 rfl rfl fun G w => ?_
 repeat (apply WK.seq)
 refine WK.reg 100 Tryz.ntmps81 (by kernel_rfl) ?_
 intro A hA Q hQ
 simp
 refine hQ _ _ ?_
 clear hQ hA
 repeat (apply WK.seq)
 refine WK.reg 200 Tryz.ntmps81 (by kernel_rfl) ?_
 intro A hA Q hQ
 simp
 refine RunQ.call rfl rfl rfl rfl (by rfl) (by simp (maxDischargeDepth := 120) [hcl]) (indexf_inst fid caps p l hcl hl hf) (by simp [hcl]) ?_
 refine RunQ.eval ?_
 simp [hcl]
 refine hQ _ _ ?_
 clear hQ hA
 refine WK.ret Tryz.func81 (by simp (maxDischargeDepth := 120) [Tryz.results81, e]) (by simp [e])
def actsPlain (l : List Action) : Bool := decide (l.length ≤ 12)
def instsPlain (l : List Inst) : Bool := decide (l.length ≤ 8) && l.all fun i => actsPlain i.acts
def Flow.plain (f : Flow) : Bool := decide (f.mat.length ≤ 30) && instsPlain f.insts
def FlowMod.plain (m : FlowMod) : Bool := decide (m.mat.length ≤ 30) && instsPlain m.insts
theorem pacts_c (l : List Action) : FnP Tryz.prog 51 [actS l] (.bool (actsPlain l)) := by
 unfold actS
 refine FnP.intro Tryz.func51 rfl rfl fun G w => ?_
 repeat (apply WK.seq)
 refine WK.reg 100 Tryz.ntmps51 (by kernel_rfl) ?_
 intro A hA Q hQ
 simp
 refine hQ _ _ ?_
 clear hQ hA
 repeat (apply WK.seq)
 refine WK.reg 200 Tryz.ntmps51 (by kernel_rfl) ?_
 intro A hA Q hQ
 simp
 refine hQ _ _ ?_
 clear hQ hA
 have e : decide ((l.length : Int) ≤ 12) = decide (l.length ≤ 12) := decide_eq_decide.2 (by omega)
 refine WK.ret Tryz.func51 (by simp (maxDischargeDepth := 120) [Tryz.results51, actsPlain, e]) (by simp [actsPlain, e])
theorem pinst1_c (i : Inst) : FnP Tryz.prog 82 [.agg i.enc] (.bool (!actsPlain i.acts)) := by
 refine FnP.intro Tryz.func82 rfl rfl fun G w => ?_
 repeat (apply WK.seq)
 refine WK.reg 100 Tryz.ntmps82 (by kernel_rfl) ?_
 intro A hA Q hQ
 simp
 refine hQ _ _ ?_
 clear hQ hA
 repeat (apply WK.seq)
 refine WK.reg 200 Tryz.ntmps82 (by kernel_rfl) ?_
 intro A hA Q hQ
 simp [Inst.enc]
 refine RunQ.call rfl rfl rfl rfl (by rfl) (by simp (maxDischargeDepth := 120) [actS]) (pacts_c i.acts) (by simp [actS]) ?_
 refine RunQ.eval ?_
 simp [actS]
 refine hQ _ _ ?_
 clear hQ hA
 refine WK.ret Tryz.func82 (by simp (maxDischargeDepth := 120) [Tryz.results82]) (by simp)
theorem pinsts_c (l : List Inst) : FnP Tryz.prog 48 [instS l] (.bool (instsPlain l)) := by
 unfold instsPlain
 cases h : decide (l.length ≤ 8)
 · have h2 : ¬ ((l.length : Int) ≤ 8) := by simp at h; omega
   refine FnP.intro Tryz.func48 rfl rfl fun G w => ?_
   repeat (apply WK.seq)
   refine WK.reg 100 Tryz.ntmps48 (by kernel_rfl) ?_
   intro A hA Q hQ
   simp
   refine hQ _ _ ?_
   clear hQ hA
   repeat (apply WK.seq)
   refine WK.reg 200 Tryz.ntmps48 (by kernel_rfl) ?_
   intro A hA Q hQ
   have hg3 : (A[3]?).bind (·.dst) = some 6 := by rw [hA]; rfl
   simp [instS, h2, hg3]
   refine hQ _ _ ?_
   clear hQ hA
   refine WK.ret Tryz.func48 (by simp (maxDischargeDepth := 120) [Tryz.results48, h]) (by simp [h])
 · have h2 : ((l.length : Int) ≤ 8) := by simp at h; omega
   have e : (!(l.any fun i => !actsPlain i.acts)) = l.all fun i => actsPlain i.acts := by rw [← List.not_all_eq_any_not, Bool.not_not]
   refine FnP.intro Tryz.func48 rfl rfl fun G w => ?_
   repeat (apply WK.seq)
   refine WK.reg 100 Tryz.ntmps48 (by kernel_rfl) ?_
   intro A hA Q hQ
   simp
   refine hQ _ _ ?_
   clear hQ hA
   repeat (apply WK.seq)
   refine WK.reg 200 Tryz.ntmps48 (by kernel_rfl) ?_
   intro A hA Q hQ
   have hg3 : (A[3]?).bind (·.dst) = some 6 := by rw [hA]; rfl
   simp [instS, h2, hg3]
   refine RunQ.callG rfl rfl (by simp [hg3, instS]) rfl (by rfl) (by simp (maxDischargeDepth := 120) [hg3, instS]) (containsf_inst 82 [] (fun i => !actsPlain i.acts) l rfl (by omega) (fun x _ => pinst1_c x)) (by simp [hg3, instS]) ?_
   refine RunQ.eval ?_
   simp [hg3, instS]
   refine hQ _ _ ?_
   clear hQ hA
   refine WK.ret Tryz.func48 (by simp (maxDischargeDepth := 120) [Tryz.results48, e]) (by simp [e])
theorem pMod_c (m : FlowMod) : FnP Tryz.prog 20 [.agg m.enc] (.bool (FlowMod.plain m)) := by
 unfold FlowMod.plain
 cases h : decide (m.mat.length ≤ 30)
 · have h2 : ¬ ((m.mat.length : Int) ≤ 30) := by simp at h; omega
   refine FnP.intro Tryz.func20 rfl rfl fun G w => ?_
   repeat (first | apply WK.seq | apply WK.block | apply WK.inBlock | apply WK.skip | apply WK.label | apply WK.scope | apply WK.inScope | refine WK.exit rfl ?_)
   first | refine WK.reg 100 Tryz.ntmps20 (by kernel_rfl) ?_ | refine WK.regD 100 clsOf (by kernel_rfl) Tryz.ntmps20 (by kernel_rfl) (by kernel_rfl) ?_
   intro A hA Q hQ
   simp
   refine hQ _ _ ?_
   clear hQ hA
   repeat (first | apply WK.seq | apply WK.block | apply WK.inBlock | apply WK.skip | apply WK.label | apply WK.scope | apply WK.inScope | refine WK.exit rfl ?_)
   first | refine WK.reg 200 Tryz.ntmps20 (by kernel_rfl) ?_ | refine WK.regD 200 clsOf (by kernel_rfl) Tryz.ntmps20 (by kernel_rfl) (by kernel_rfl) ?_
   intro A hA Q hQ
   have hg4 : (A[4]?).bind (·.dst) = some 7 := by rw [hA]; rfl
   simp [FlowMod.enc, h2, hg4]
   refine hQ _ _ ?_
   clear hQ hA
   repeat (first | apply WK.seq | apply WK.block | apply WK.inBlock | apply WK.skip | apply WK.label | apply WK.scope | apply WK.inScope | refine WK.exit rfl ?_)
   refine WK.ret Tryz.func20 (by simp (maxDischargeDepth := 120) [Tryz.results20, h]) (by simp [h])
 · have h2 : ((m.mat.length : Int) ≤ 30) := by simp at h; omega
   refine FnP.intro Tryz.func20 rfl rfl fun G w => ?_
   repeat (first | apply WK.seq | apply WK.block | apply WK.inBlock | apply WK.skip | apply WK.label | apply WK.scope | apply WK.inScope | refine WK.exit rfl ?_)
   first | refine WK.reg 100 Tryz.ntmps20 (by kernel_rfl) ?_ | refine WK.regD 100 clsOf (by kernel_rfl) Tryz.ntmps20 (by kernel_rfl) (by kernel_rfl) ?_
   intro A hA Q hQ
   simp
   refine hQ _ _ ?_
   clear hQ hA
   repeat (first | apply WK.seq | apply WK.block | apply WK.inBlock | apply WK.skip | apply WK.label | apply WK.scope | apply WK.inScope | refine WK.exit rfl ?_)
   first | refine WK.reg 200 Tryz.ntmps20 (by kernel_rfl) ?_ | refine WK.regD 200 clsOf (by kernel_rfl) Tryz.ntmps20 (by kernel_rfl) (by kernel_rfl) ?_
   intro A hA Q hQ
   have hg4 : (A[4]?).bind (·.dst) = some 7 := by rw [hA]; rfl
   simp [FlowMod.enc, h2, hg4]
   refine RunQ.callG rfl rfl (by simp [hg4, instS]) rfl (by rfl) (by simp (maxDischargeDepth := 120) [hg4, instS]) (pinsts_c m.insts) (by simp [hg4, instS]) ?_
   refine RunQ.eval ?_
   simp [hg4, instS]
   refine hQ _ _ ?_
   clear hQ hA
   repeat (first | apply WK.seq | apply WK.block | apply WK.inBlock | apply WK.skip | apply WK.label | apply WK.scope | apply WK.inScope | refine WK.exit rfl ?_)
   refine WK.ret Tryz.func20 (by simp (maxDischargeDepth := 120) [Tryz.results20]) (by simp)

theorem appAct : AppOk Tryz.prog 81 143 11 88 := ⟨by simp, by simp, by simp, by simp, by simp, by simp, by omega, by omega⟩

def Inst.goes (i : Inst) : Bool := i.kind == 3 || i.kind == 4
def allI {α : Type} (g : List Action → List α) (l : List Inst) : List α := (l.filter Inst.goes).flatMap fun i => g i.acts

theorem appInst : AppOk Tryz.prog 24 130 7 72 := ⟨by simp, by simp, by simp, by simp, by simp, by simp, by omega, by omega⟩

structure IOk (l : List Inst) : Prop where
 len : l.length ≤ 1000
 acts : ∀ x, x ∈ l → x.acts.length ≤ 1000000
structure FOk (f : Flow) : Prop where
 mat : f.mat.length ≤ 1000000
 insts : IOk f.insts
def Flow.same (a b : Flow) : Bool := a.cookie == b.cookie && ((a.prio == b.prio && (a.idle == b.idle && (a.hard == b.hard && a.flags == b.flags))) && (eqBy (fun x y => x == y) a.mat b.mat && eqBy Inst.same a.insts b.insts))

def FlowMod.flow (m : FlowMod) : Flow := ⟨m.cookie, m.prio, m.idle, m.hard, m.flags, m.mat, m.insts⟩

structure FPl (f : Flow) : Prop where
 ok : FOk f
 acts : (allI id f.insts).length ≤ 1000000

def bI (b : BitVec 8) : Int := b.toNat
def byE (b : BitVec 8) : List AV := [.int .u8 (bI b)]
def byL (l : List (BitVec 8)) : List AV := l.map fun b => .int .u8 (bI b)
def byS (l : List (BitVec 8)) : AV := .sl false l.length (byL l)
@[simp] theorem byL_len (l : List (BitVec 8)) : (byL l).length = l.length := by simp [byL]
@[simp] theorem byL_cl (l : List (BitVec 8)) : ClL (byL l) = true := by
 induction l with
 | nil => rfl
 | cons x l ih => simp only [byL, List.map_cons, ClL, Cl, Bool.true_and]; exact ih
@[simp] theorem byS_cl (l : List (BitVec 8)) : Cl (byS l) = true := by simp [byS, Cl]
theorem byL_app (a b : List (BitVec 8)) : byL (a ++ b) = byL a ++ byL b := by simp [byL]
theorem b0_ : byL [] = [] := rfl
theorem byL_one (b : BitVec 8) : byL [b] = [.int .u8 (bI b)] := rfl
theorem byL_drop (l : List (BitVec 8)) (n : Nat) : (byL l).drop n = byL (l.drop n) := by simp [byL]
theorem byL_take (l : List (BitVec 8)) (n : Nat) : (byL l).take n = byL (l.take n) := by simp [byL]
theorem by_full (l : List (BitVec 8)) (n : Nat) (h : n = l.length) : (byL l).take n = byL l := List.take_of_length_le (by simp [h])
theorem appByte : AppOk Tryz.prog 32 5 1 1 := ⟨by simp, by simp, by simp, by simp, by simp, by simp, by omega, by omega⟩
theorem bI_lt (b : BitVec 8) : 0 ≤ bI b ∧ bI b < 256 := by unfold bI; have := b.isLt; omega
theorem bI_of (x : Int) : bI (BitVec.ofInt 8 x) = x % 256 := by
 unfold bI
 rw [BitVec.toNat_ofInt]
 have : 0 ≤ x % 256 := Int.emod_nonneg _ (by decide)
 omega
theorem wrap_u8 (x : Int) : IntKind.wrap .u8 x = bI (BitVec.ofInt 8 x) := by
 rw [bI_of]
 unfold IntKind.wrap
 show (if (false && decide (x % 256 ≥ 128)) = true then x % 256 - 256 else x % 256) = x % 256
 rw [Bool.false_and, if_neg Bool.false_ne_true]
def numOk (n : Int) (s : Nat) : Bool := decide (0 ≤ n) && decide (n < 256 ^ s)
def Sz (s : Nat) : Prop := s = 1 ∨ s = 2 ∨ s = 4
theorem sized_c (s : Nat) (hs : Sz s) : FnP Tryz.prog 57 [.int .i64 s] (.bool true) := by
 rcases hs with rfl | rfl | rfl <;>
 · refine FnP.intro Tryz.func57 rfl rfl fun G w => ?_
   repeat (apply WK.seq)
   refine WK.reg 100 Tryz.ntmps57 (by kernel_rfl) ?_
   intro A hA Q hQ
   simp
   refine hQ _ _ ?_
   clear hQ hA
   repeat (apply WK.seq)
   refine WK.reg 200 Tryz.ntmps57 (by kernel_rfl) ?_
   intro A hA Q hQ
   have hg2 : (A[2]?).bind (·.dst) = some 5 := by rw [hA]; rfl
   have hg6 : (A[6]?).bind (·.dst) = some 9 := by rw [hA]; rfl
   simp [hg2, hg6]
   refine hQ _ _ ?_
   clear hQ hA
   refine WK.ret Tryz.func57 (by simp (maxDischargeDepth := 120) [Tryz.results57]) (by simp)
theorem shr_i64 (n : Int) (k : Nat) (hk : k ≤ 64) : bShr .i64 n k = n / 2 ^ k := by
 unfold bShr
 have : min (Int.toNat (k : Int)) (IntKind.bits .i64) = k := by show min (Int.toNat (k : Int)) 64 = k; omega
 rw [this, Int.fdiv_eq_ediv_of_nonneg _ (by exact Int.le_of_lt (Int.pow_pos (by decide)))]
theorem shr_zero (n : Int) (s : Nat) (h0 : 0 ≤ n) : (n / 2 ^ (8 * s) == 0) = decide (n < 256 ^ s) := by
 have hp : (2 : Int) ^ (8 * s) = 256 ^ s := by rw [Int.pow_mul]; rfl
 rw [hp]
 have hpos : (0 : Int) < 256 ^ s := Int.pow_pos (by decide)
 rw [Bool.eq_iff_iff, beq_iff_eq, decide_eq_true_eq]
 constructor
 · intro h
   have := Int.lt_ediv_add_one_mul_self n hpos
   rw [h] at this; omega
 · intro h; exact Int.ediv_eq_zero_of_lt h0 h
theorem nright_c (n : Int) (s : Nat) (hs : Sz s) : FnP Tryz.prog 28 [.int .i64 n, .int .i64 s] (.bool (numOk n s)) := by
 have hsz := sized_c s hs
 have hs4 : s ≤ 4 := by rcases hs with rfl | rfl | rfl <;> omega
 have w8 : IntKind.i64.wrap (8 * (s : Int)) = 8 * (s : Int) := by
   rcases hs with rfl | rfl | rfl <;> rfl
 have hsh : bShr .i64 n (8 * (s : Int)) = n / 2 ^ (8 * s) := by
   have := shr_i64 n (8 * s) (by omega)
   rw [← this]; congr 1
 have hnn : ¬ (8 * (s : Int) < 0) := by omega
 cases k : decide (0 ≤ n)
 · refine FnP.intro Tryz.func28 rfl rfl fun G w => ?_
   repeat (apply WK.seq)
   refine WK.reg 100 Tryz.ntmps28 (by kernel_rfl) ?_
   intro A hA Q hQ
   simp
   refine hQ _ _ ?_
   clear hQ hA
   repeat (apply WK.seq)
   refine WK.reg 200 Tryz.ntmps28 (by kernel_rfl) ?_
   intro A hA Q hQ
   have hg2 : (A[2]?).bind (·.dst) = some 7 := by rw [hA]; rfl
   have hg6 : (A[6]?).bind (·.dst) = some 11 := by rw [hA]; rfl
   simp [hg2, hg6]
   refine RunQ.call rfl rfl rfl rfl (by rfl) (by simp (maxDischargeDepth := 120) [hg2, hg6, k]) (hsz) (by simp [hg2, hg6, k]) ?_
   refine RunQ.eval ?_
   simp [hg2, hg6, k]
   refine hQ _ _ ?_
   clear hQ hA
   refine WK.ret Tryz.func28 (by simp (maxDischargeDepth := 120) [Tryz.results28, numOk, k]) (by simp [numOk, k])
 · have h0 := shr_zero n s (of_decide_eq_true k)
   refine FnP.intro Tryz.func28 rfl rfl fun G w => ?_
   repeat (apply WK.seq)
   refine WK.reg 100 Tryz.ntmps28 (by kernel_rfl) ?_
   intro A hA Q hQ
   simp
   refine hQ _ _ ?_
   clear hQ hA
   repeat (apply WK.seq)
   refine WK.reg 200 Tryz.ntmps28 (by kernel_rfl) ?_
   intro A hA Q hQ
   have hg2 : (A[2]?).bind (·.dst) = some 7 := by rw [hA]; rfl
   have hg6 : (A[6]?).bind (·.dst) = some 11 := by rw [hA]; rfl
   simp [hg2, hg6]
   refine RunQ.call rfl rfl rfl rfl (by rfl) (by simp (maxDischargeDepth := 120) [hg2, hg6, k, w8, hsh, h0, hnn]) (hsz) (by simp [hg2, hg6, k, w8, hsh, h0, hnn]) ?_
   refine RunQ.eval ?_
   simp [hg2, hg6, k, w8, hsh, h0, hnn]
   refine hQ _ _ ?_
   clear hQ hA
   refine WK.ret Tryz.func28 (by simp (maxDischargeDepth := 120) [Tryz.results28, numOk, k]) (by simp [numOk, k])
def beN (n : Int) (s : Nat) : List (BitVec 8) := (List.range s).map fun i => BitVec.ofInt 8 (n / 2 ^ (8 * (s - 1 - i)))
theorem beN_len (n : Int) (s : Nat) : (beN n s).length = s := by simp [beN]
def putN (b : List (BitVec 8)) (n : Int) (s : Nat) : List (BitVec 8) := if numOk n s then b ++ beN n s else b
def fourAt (n : Int) (i : Nat) : List (BitVec 8) := (List.range 4).map fun j => if j < i then BitVec.ofInt 8 (n / 2 ^ (24 - 8 * j)) else 0#8
theorem fourAt_zero (n : Int) : byL (fourAt n 0) = [.int .u8 0, .int .u8 0, .int .u8 0, .int .u8 0] := rfl
theorem fourAt_set (n : Int) (i : Nat) (h : i < 4) : (byL (fourAt n i)).take i ++ .int .u8 (bI (BitVec.ofInt 8 (n / 2 ^ (24 - 8 * i)))) :: (byL (fourAt n i)).drop (i + 1) = byL (fourAt n (i + 1)) := by
 match i, h with
 | 0, _ => rfl
 | 1, _ => rfl
 | 2, _ => rfl
 | 3, _ => rfl
theorem fourAt_len (n : Int) (i : Nat) : (fourAt n i).length = 4 := by simp [fourAt]
theorem four_drop (n : Int) (s : Nat) (hs : Sz s) : (fourAt n 4).drop (4 - s) = beN n s := by
 rcases hs with rfl | rfl | rfl <;> rfl
set_option maxHeartbeats 2000000 in
theorem nput_c (b : List (BitVec 8)) (n : Int) (s : Nat) (hs : Sz s) (hb : b.length ≤ 1000000) : FnO Tryz.prog 52 [byS b, .int .i64 n, .int .i64 s] (putN b n s).length 1 (byL (putN b n s)) := by
 have hr := nright_c n s hs
 have hs4 : s ≤ 4 := by rcases hs with rfl | rfl | rfl <;> omega
 have hs1 : 1 ≤ s := by rcases hs with rfl | rfl | rfl <;> omega
 have hf := by_full b b.length rfl
 unfold byS
 cases k : numOk n s
 · have e : putN b n s = b := by unfold putN; rw [k]; rfl
   have hbd : b.length ≤ 140737488355328 := by omega
   rw [e]
   refine FnO.intro Tryz.func52 rfl rfl fun G w => ?_
   repeat (apply WK.seq)
   refine WK.reg 100 Tryz.ntmps52 (by kernel_rfl) ?_
   intro A hA Q hQ
   simp
   refine hQ _ _ ?_
   clear hQ hA
   repeat (apply WK.seq)
   refine WK.reg 200 Tryz.ntmps52 (by kernel_rfl) ?_
   intro A hA Q hQ
   simp
   refine RunQ.call rfl rfl rfl rfl (by rfl) (by simp (maxDischargeDepth := 120) [k]) (hr) (by simp [k]) ?_
   refine RunQ.eval ?_
   simp [k]
   refine hQ _ _ ?_
   clear hQ hA
   refine WK.c2 rfl (fun h => ?_) (fun h => ?_)
   · repeat (apply WK.seq)
     refine WK.reg 300 Tryz.ntmps52 (by kernel_rfl) ?_
     intro A hA Q hQ
     simp
     refine RunQ.append0 900 901 appByte rfl rfl rfl rfl rfl rfl rfl (by simp [hbd]) (by simp [hbd]) (by simp [hbd]) (by simp [hbd]) (by simp [hbd]) (by simp [hbd]) (by simp) ?_
     refine RunQ.eval ?_
     simp [hbd]
     refine hQ _ _ ?_
     clear hQ hA
     refine WK.retO Tryz.func52 (by rfl) (by rfl) (by simp (maxDischargeDepth := 120) [hf]) (by simp [hf])
   · cases h
 · have e : putN b n s = b ++ beN n s := by unfold putN; rw [k]; rfl
   rw [e]
   refine FnO.intro Tryz.func52 rfl rfl fun G w => ?_
   repeat (apply WK.seq)
   refine WK.reg 100 Tryz.ntmps52 (by kernel_rfl) ?_
   intro A hA Q hQ
   simp
   refine hQ _ _ ?_
   clear hQ hA
   repeat (apply WK.seq)
   refine WK.reg 200 Tryz.ntmps52 (by kernel_rfl) ?_
   intro A hA Q hQ
   simp
   refine RunQ.call rfl rfl rfl rfl (by rfl) (by simp (maxDischargeDepth := 120) [k]) (hr) (by simp [k]) ?_
   refine RunQ.eval ?_
   simp [k]
   refine hQ _ _ ?_
   clear hQ hA
   refine WK.c2 rfl (fun h => ?_) (fun h => ?_)
   · cases h
   repeat (first | apply WK.seq | apply WK.skip)
   refine WK.reg 300 Tryz.ntmps52 (by kernel_rfl) ?_
   intro A hA Q hQ
   simp
   refine hQ _ _ ?_
   clear hQ hA
   repeat (apply WK.seq)
   refine WK.reg 400 Tryz.ntmps52 (by kernel_rfl) ?_
   intro A hA Q hQ
   simp
   refine hQ _ _ ?_
   clear hQ hA
   repeat (apply WK.block)
   refine WK.lI (fun _ => 200) (fun i : Nat => (⟨(upd (upd (upd (upd (upd J 0 (.sl false b.length (byL b))) 1 (.int .i64 n)) 2 (.int .i64 s)) 7 (.ptr 1 0)) 15 (.int .i64 i)), (upd B0 1 (.var (byL (fourAt n i)))), 0⟩ : St)) (fun i => i ≤ 4) (fun i => 4 - i) (0) (by repeat (first | exact TmW.nil | refine TmW.upd ?_ (by simp (maxDischargeDepth := 120) [fourAt_zero]))) (by repeat (first | exact BxW.nil | refine BxW.upd ?_ (by simp (maxDischargeDepth := 120) [fourAt_zero]))) (by first | exact InjW.id | exact InjW.nil | exact InjW.one | exact InjW.two (by simp) | exact InjW.three (by simp) (by simp) (by simp)) (by omega) (fun i hi IH => ?_)
   repeat (apply WK.seq)
   refine WK.reg 500 Tryz.ntmps52 (by kernel_rfl) ?_
   intro A hA Q hQ
   simp
   refine hQ _ _ ?_
   clear hQ hA
   repeat (apply WK.seq)
   refine WK.c2 rfl (fun h1 => ?_) (fun h1 => ?_)
   · simp at h1
     have h2 : i < 4 := by omega
     have h6 : IntKind.i64.wrap ((i : Int) + 1) = i + 1 := wrap_i64 (by omega) (by omega)
     have m1 : IntKind.i64.wrap (8 * (i : Int)) = 8 * (i : Int) := wrap_i64 (by omega) (by omega)
     have m2 : IntKind.i64.wrap (24 - 8 * (i : Int)) = ((24 - 8 * i : Nat) : Int) := by rw [wrap_i64 (by omega) (by omega)]; omega
     have m3 := shr_i64 n (24 - 8 * i) (by omega)
     have m4 : ¬ ((24 - 8 * i : Nat) : Int) < 0 := by omega
     have m5 := wrap_u8 (n / 2 ^ (24 - 8 * i))
     have hset := fourAt_set n i h2
     have hfl := fourAt_len n i
     have b1 : (i : Int) < 4 := by omega
     have b2 : i + 1 ≤ 4 := by omega
     repeat (first | apply WK.seq | apply WK.block | apply WK.skip)
     refine WK.reg 600 Tryz.ntmps52 (by kernel_rfl) ?_
     intro A hA Q hQ
     simp
     refine hQ _ _ ?_
     clear hQ hA
     obtain ⟨q, hq⟩ : ∃ q, q = 24 - 8 * i := ⟨_, rfl⟩
     rw [← hq] at m2 m3 m4 m5 hset
     refine WK.reg 700 Tryz.ntmps52 (by kernel_rfl) ?_
     intro A hA Q hQ
     simp [m1, m2, m3, m4, m5, h2, hset, hfl, b1, b2]
     refine hQ _ _ ?_
     clear hQ hA
     repeat (apply WK.inBlock)
     refine WK.reg 800 Tryz.ntmps52 (by kernel_rfl) ?_
     intro A hA Q hQ
     simp [h6]
     refine hQ _ _ ?_
     clear hQ hA
     refine WK.next (fun n => n) (IH (i + 1) (by omega) (by first | omega | (dsimp only; omega))) (by repeat (first | exact TmW.nil | refine TmW.upd ?_ (by simp (maxDischargeDepth := 120) [h6]))) (by repeat (first | exact BxW.nil | refine BxW.upd ?_ (by simp (maxDischargeDepth := 120) [h6]))) InjW.id
   · simp at h1
     have hi4 : i = 4 := by omega
     subst hi4
     repeat (first | apply WK.seq | refine WK.exit rfl ?_)
     refine WK.ghost (Ghost.frzVar 7 rfl rfl) ?_
     have m1 : IntKind.i64.wrap (4 - (s : Int)) = ((4 - s : Nat) : Int) := by rw [wrap_i64 (by omega) (by omega)]; omega
     have m2 : (4 - s : Nat) ≤ 4 := by omega
     have m3 : 4 - (4 - s) = s := by omega
     have m4 := four_drop n s hs
     have m5 : (byL (fourAt n 4)).drop (4 - s) = byL (beN n s) := by rw [byL_drop, m4]
     have m6 : (byL (beN n s)).take s = byL (beN n s) := by_full _ _ (beN_len n s).symm
     obtain ⟨q, hq⟩ : ∃ q, q = 4 - s := ⟨_, rfl⟩
     rw [← hq] at m1 m2 m3 m5
     have hl1 : (beN n s).length = s := beN_len n s
     have hs63 : s ≤ 140737488355328 := by omega
     have c1 : (q : Int) ≤ 4 := by omega
     have hbd : (b.length + s) * 1 ≤ 140737488355328 := by omega
     by_cases hb0 : b = []
     · subst hb0
       rw [List.nil_append, hl1]
       refine WK.regD 900 clsOf (by kernel_rfl) Tryz.ntmps52 (by kernel_rfl) (by kernel_rfl) ?_
       intro A hA Q hQ
       simp [m1, m2, m3, m5, m6, c1, b0_]
       refine RunQ.append0 900 901 appByte rfl rfl rfl rfl rfl rfl rfl (by simp [hs63, hl1, m6]) (by simp [hs63, hl1, m6]) (by simp [hs63, hl1, m6]) (by simp [hs63, hl1, m6]) (by simp [hs63, hl1, m6]) (by simp [hs63, hl1, m6]) (by simp) ?_
       refine RunQ.eval ?_
       simp [hs63, hl1, m6]
       refine hQ _ _ ?_
       clear hQ hA
       refine WK.retO Tryz.func52 (by rfl) (by rfl) (by simp (maxDischargeDepth := 120) [m6]) (by simp [m6])
     · have hbp : 0 < b.length := List.length_pos_iff.2 hb0
       rw [List.length_append, hl1]
       refine WK.regD 1000 clsOf (by kernel_rfl) Tryz.ntmps52 (by kernel_rfl) (by kernel_rfl) ?_
       intro A hA Q hQ
       simp [m1, m2, m3, m5, m6, c1, hf]
       refine RunQ.appendF 901 appByte rfl rfl rfl rfl rfl rfl (by simp [hbd, hl1, m6, hf]) rfl (by first | omega | simp [hbd, hl1, m6, hf]) (by first | omega | simp [hbd, hl1, m6, hf]) (by simp [hbd, hl1, m6, hf]) (by simp [hbd, hl1, m6, hf]) (by first | omega | simp [hbd, hl1, m6, hf]) (by simp) ?_
       refine RunQ.eval ?_
       simp [hbd, hl1, m6, hf]
       refine hQ _ _ ?_
       clear hQ hA
       refine WK.retO Tryz.func52 (by rfl) (by rfl) (by simp (maxDischargeDepth := 120) [byL_app, hf, m6, hl1]) (by simp [byL_app, hf, m6, hl1])
end Go.Proofs.YtcccfbjkcahgfaaGreat

namespace Go.Proofs.YtcccfbjkcahgfaaGreat
open Go Go.AI Go.Proofs Go.Proofs.YtcccfbjkcahgfaaGreat
theorem byL_flat (l : List (BitVec 8)) : l.flatMap byE = byL l := by
 induction l with
 | nil => rfl
 | cons x l ih => rw [List.flatMap_cons, ih]; rfl
theorem rdByte {w : World} {H : Type} {enc : TypeId × Value → H} {sp : Nat → Bool} {held : Bool} : Rd enc Tryz.prog w sp held 5 byE := fun fuel cs x h => by
 obtain ⟨b, rfl⟩ := rd_u8 Tryz.underlying5 h
 exact ⟨b, RelL.cons (by simp [Rel, bI]) RelL.nil, fun v hv => by simp at hv; subst hv; rfl⟩
theorem allP2 {p q : AV → Prop} {xs : List AV} (h : AllP [p, q] xs) : ∃ x y, xs = [x, y] ∧ p x ∧ q y := by
 match xs, h with
 | [x, y], ⟨h0, h1, _⟩ => exact ⟨x, y, rfl, h0, h1⟩
end Go.Proofs.YtcccfbjkcahgfaaGreat

namespace Go.Proofs.YtcccfbjkcahgfaaGreat
open Go Go.AI Go.Proofs
theorem rright_c (n : Int) (s : Nat) (hs : Sz s) : FnP Tryz.prog 29 [.int .i64 n, .int .i64 s] (.bool (numOk n s)) := by
 cases k : decide (0 ≤ n)
 · rcases hs with rfl | rfl | rfl
   · refine FnP.intro Tryz.func29 rfl rfl fun G w => ?_
     repeat (apply WK.seq)
     refine WK.reg 100 Tryz.ntmps29 (by kernel_rfl) ?_
     intro A hA Q hQ
     simp
     refine hQ _ _ ?_
     clear hQ hA
     repeat (apply WK.seq)
     refine WK.reg 200 Tryz.ntmps29 (by kernel_rfl) ?_
     intro A hA Q hQ
     simp
     refine hQ _ _ ?_
     clear hQ hA
     repeat (first | apply WK.seq | apply WK.block)
     refine WK.reg 300 Tryz.ntmps29 (by kernel_rfl) ?_
     intro A hA Q hQ
     simp
     refine hQ _ _ ?_
     clear hQ hA
     refine WK.c2 rfl (fun h => ?_) (fun h => ?_)
     · repeat (apply WK.seq)
       refine WK.reg 400 Tryz.ntmps29 (by kernel_rfl) ?_
       intro A hA Q hQ
       have hg2 : (A[2]?).bind (·.dst) = some 10 := by rw [hA]; rfl
       simp [k, hg2]
       refine hQ _ _ ?_
       clear hQ hA
       refine WK.ret Tryz.func29 (by simp (maxDischargeDepth := 120) [Tryz.results29, numOk, k]) (by simp [numOk, k])
     · cases h
   · refine FnP.intro Tryz.func29 rfl rfl fun G w => ?_
     repeat (apply WK.seq)
     refine WK.reg 100 Tryz.ntmps29 (by kernel_rfl) ?_
     intro A hA Q hQ
     simp
     refine hQ _ _ ?_
     clear hQ hA
     repeat (apply WK.seq)
     refine WK.reg 200 Tryz.ntmps29 (by kernel_rfl) ?_
     intro A hA Q hQ
     simp
     refine hQ _ _ ?_
     clear hQ hA
     repeat (first | apply WK.seq | apply WK.block)
     refine WK.reg 300 Tryz.ntmps29 (by kernel_rfl) ?_
     intro A hA Q hQ
     simp
     refine hQ _ _ ?_
     clear hQ hA
     refine WK.c2 rfl (fun h => ?_) (fun h => ?_)
     · cases h
     repeat (apply WK.seq)
     refine WK.reg 400 Tryz.ntmps29 (by kernel_rfl) ?_
     intro A hA Q hQ
     simp
     refine hQ _ _ ?_
     clear hQ hA
     refine WK.c2 rfl (fun h => ?_) (fun h => ?_)
     · repeat (apply WK.seq)
       refine WK.reg 500 Tryz.ntmps29 (by kernel_rfl) ?_
       intro A hA Q hQ
       have hg2 : (A[2]?).bind (·.dst) = some 18 := by rw [hA]; rfl
       simp [k, hg2]
       refine hQ _ _ ?_
       clear hQ hA
       refine WK.ret Tryz.func29 (by simp (maxDischargeDepth := 120) [Tryz.results29, numOk, k]) (by simp [numOk, k])
     · cases h
   · refine FnP.intro Tryz.func29 rfl rfl fun G w => ?_
     repeat (apply WK.seq)
     refine WK.reg 100 Tryz.ntmps29 (by kernel_rfl) ?_
     intro A hA Q hQ
     simp
     refine hQ _ _ ?_
     clear hQ hA
     repeat (apply WK.seq)
     refine WK.reg 200 Tryz.ntmps29 (by kernel_rfl) ?_
     intro A hA Q hQ
     simp
     refine hQ _ _ ?_
     clear hQ hA
     repeat (first | apply WK.seq | apply WK.block)
     refine WK.reg 300 Tryz.ntmps29 (by kernel_rfl) ?_
     intro A hA Q hQ
     simp
     refine hQ _ _ ?_
     clear hQ hA
     refine WK.c2 rfl (fun h => ?_) (fun h => ?_)
     · cases h
     repeat (apply WK.seq)
     refine WK.reg 400 Tryz.ntmps29 (by kernel_rfl) ?_
     intro A hA Q hQ
     simp
     refine hQ _ _ ?_
     clear hQ hA
     refine WK.c2 rfl (fun h => ?_) (fun h => ?_)
     · cases h
     repeat (apply WK.seq)
     refine WK.reg 500 Tryz.ntmps29 (by kernel_rfl) ?_
     intro A hA Q hQ
     simp
     refine hQ _ _ ?_
     clear hQ hA
     refine WK.c2 rfl (fun h => ?_) (fun h => ?_)
     · repeat (apply WK.seq)
       refine WK.reg 600 Tryz.ntmps29 (by kernel_rfl) ?_
       intro A hA Q hQ
       have hg2 : (A[2]?).bind (·.dst) = some 26 := by rw [hA]; rfl
       simp [k, hg2]
       refine hQ _ _ ?_
       clear hQ hA
       refine WK.ret Tryz.func29 (by simp (maxDischargeDepth := 120) [Tryz.results29, numOk, k]) (by simp [numOk, k])
     · cases h
 · rcases hs with rfl | rfl | rfl
   · have e : decide (n ≤ 255) = decide (n < 256 ^ 1) := decide_eq_decide.2 (by omega)
     refine FnP.intro Tryz.func29 rfl rfl fun G w => ?_
     repeat (apply WK.seq)
     refine WK.reg 100 Tryz.ntmps29 (by kernel_rfl) ?_
     intro A hA Q hQ
     simp
     refine hQ _ _ ?_
     clear hQ hA
     repeat (apply WK.seq)
     refine WK.reg 200 Tryz.ntmps29 (by kernel_rfl) ?_
     intro A hA Q hQ
     simp
     refine hQ _ _ ?_
     clear hQ hA
     repeat (first | apply WK.seq | apply WK.block)
     refine WK.reg 300 Tryz.ntmps29 (by kernel_rfl) ?_
     intro A hA Q hQ
     simp
     refine hQ _ _ ?_
     clear hQ hA
     refine WK.c2 rfl (fun h => ?_) (fun h => ?_)
     · repeat (apply WK.seq)
       refine WK.reg 400 Tryz.ntmps29 (by kernel_rfl) ?_
       intro A hA Q hQ
       have hg2 : (A[2]?).bind (·.dst) = some 10 := by rw [hA]; rfl
       simp [k, hg2]
       refine hQ _ _ ?_
       clear hQ hA
       refine WK.ret Tryz.func29 (by simp (maxDischargeDepth := 120) [Tryz.results29, numOk, k, e]) (by simp [numOk, k, e])
     · cases h
   · have e : decide (n ≤ 65535) = decide (n < 256 ^ 2) := decide_eq_decide.2 (by omega)
     refine FnP.intro Tryz.func29 rfl rfl fun G w => ?_
     repeat (apply WK.seq)
     refine WK.reg 100 Tryz.ntmps29 (by kernel_rfl) ?_
     intro A hA Q hQ
     simp
     refine hQ _ _ ?_
     clear hQ hA
     repeat (apply WK.seq)
     refine WK.reg 200 Tryz.ntmps29 (by kernel_rfl) ?_
     intro A hA Q hQ
     simp
     refine hQ _ _ ?_
     clear hQ hA
     repeat (first | apply WK.seq | apply WK.block)
     refine WK.reg 300 Tryz.ntmps29 (by kernel_rfl) ?_
     intro A hA Q hQ
     simp
     refine hQ _ _ ?_
     clear hQ hA
     refine WK.c2 rfl (fun h => ?_) (fun h => ?_)
     · cases h
     repeat (apply WK.seq)
     refine WK.reg 400 Tryz.ntmps29 (by kernel_rfl) ?_
     intro A hA Q hQ
     simp
     refine hQ _ _ ?_
     clear hQ hA
     refine WK.c2 rfl (fun h => ?_) (fun h => ?_)
     · repeat (apply WK.seq)
       refine WK.reg 500 Tryz.ntmps29 (by kernel_rfl) ?_
       intro A hA Q hQ
       have hg2 : (A[2]?).bind (·.dst) = some 18 := by rw [hA]; rfl
       simp [k, hg2]
       refine hQ _ _ ?_
       clear hQ hA
       refine WK.ret Tryz.func29 (by simp (maxDischargeDepth := 120) [Tryz.results29, numOk, k, e]) (by simp [numOk, k, e])
     · cases h
   · have e : decide (n ≤ 4294967295) = decide (n < 256 ^ 4) := decide_eq_decide.2 (by omega)
     refine FnP.intro Tryz.func29 rfl rfl fun G w => ?_
     repeat (apply WK.seq)
     refine WK.reg 100 Tryz.ntmps29 (by kernel_rfl) ?_
     intro A hA Q hQ
     simp
     refine hQ _ _ ?_
     clear hQ hA
     repeat (apply WK.seq)
     refine WK.reg 200 Tryz.ntmps29 (by kernel_rfl) ?_
     intro A hA Q hQ
     simp
     refine hQ _ _ ?_
     clear hQ hA
     repeat (first | apply WK.seq | apply WK.block)
     refine WK.reg 300 Tryz.ntmps29 (by kernel_rfl) ?_
     intro A hA Q hQ
     simp
     refine hQ _ _ ?_
     clear hQ hA
     refine WK.c2 rfl (fun h => ?_) (fun h => ?_)
     · cases h
     repeat (apply WK.seq)
     refine WK.reg 400 Tryz.ntmps29 (by kernel_rfl) ?_
     intro A hA Q hQ
     simp
     refine hQ _ _ ?_
     clear hQ hA
     refine WK.c2 rfl (fun h => ?_) (fun h => ?_)
     · cases h
     repeat (apply WK.seq)
     refine WK.reg 500 Tryz.ntmps29 (by kernel_rfl) ?_
     intro A hA Q hQ
     simp
     refine hQ _ _ ?_
     clear hQ hA
     refine WK.c2 rfl (fun h => ?_) (fun h => ?_)
     · repeat (apply WK.seq)
       refine WK.reg 600 Tryz.ntmps29 (by kernel_rfl) ?_
       intro A hA Q hQ
       have hg2 : (A[2]?).bind (·.dst) = some 26 := by rw [hA]; rfl
       simp [k, hg2]
       refine hQ _ _ ?_
       clear hQ hA
       refine WK.ret Tryz.func29 (by simp (maxDischargeDepth := 120) [Tryz.results29, numOk, k, e]) (by simp [numOk, k, e])
     · cases h
theorem beN_get (n : Int) (s t : Nat) (h : t < s) : (beN n s).take (t + 1) = (beN n s).take t ++ [BitVec.ofInt 8 (n / 2 ^ (8 * (s - 1 - t)))] := by
 have h' : t < (beN n s).length := by rw [beN_len]; exact h
 rw [List.take_succ_eq_append_getElem h']
 congr 2
 simp [beN]
set_option maxHeartbeats 2000000 in
theorem rput_c (b : List (BitVec 8)) (n : Int) (s : Nat) (hs : Sz s) (hb : b.length ≤ 1000000) : FnO Tryz.prog 24 [byS b, .int .i64 n, .int .i64 s] (putN b n s).length 1 (byL (putN b n s)) := by
 have hr := rright_c n s hs
 have hs4 : s ≤ 4 := by rcases hs with rfl | rfl | rfl <;> omega
 have hs1 : 1 ≤ s := by rcases hs with rfl | rfl | rfl <;> omega
 have hf := by_full b b.length rfl
 have hbd : b.length ≤ 140737488355328 := by omega
 unfold byS
 cases k : numOk n s
 · have e : putN b n s = b := by unfold putN; rw [k]; rfl
   rw [e]
   refine FnO.intro Tryz.func24 rfl rfl fun G w => ?_
   repeat (apply WK.seq)
   refine WK.reg 100 Tryz.ntmps24 (by kernel_rfl) ?_
   intro A hA Q hQ
   simp
   refine hQ _ _ ?_
   clear hQ hA
   repeat (apply WK.seq)
   refine WK.reg 200 Tryz.ntmps24 (by kernel_rfl) ?_
   intro A hA Q hQ
   simp
   refine RunQ.append0 900 901 appByte rfl rfl rfl rfl rfl rfl rfl (by simp [hbd]) (by simp [hbd]) (by simp [hbd]) (by simp [hbd]) (by simp [hbd]) (by simp [hbd]) (by simp) ?_
   refine RunQ.eval ?_
   simp [hbd]
   refine hQ _ _ ?_
   clear hQ hA
   repeat (apply WK.seq)
   refine WK.reg 300 Tryz.ntmps24 (by kernel_rfl) ?_
   intro A hA Q hQ
   simp
   refine RunQ.call rfl rfl rfl rfl (by rfl) (by simp (maxDischargeDepth := 120) [k]) (hr) (by simp [k]) ?_
   refine RunQ.eval ?_
   simp [k]
   refine hQ _ _ ?_
   clear hQ hA
   refine WK.c2 rfl (fun h => ?_) (fun h => ?_)
   · repeat (apply WK.seq)
     refine WK.reg 400 Tryz.ntmps24 (by kernel_rfl) ?_
     intro A hA Q hQ
     simp
     refine hQ _ _ ?_
     clear hQ hA
     refine WK.retO Tryz.func24 (by rfl) (by rfl) (by simp (maxDischargeDepth := 120) [hf]) (by simp [hf])
   · cases h
 · have e : putN b n s = b ++ beN n s := by unfold putN; rw [k]; rfl
   have hl1 := beN_len n s
   have hz : (beN n s).take 0 = [] := rfl
   have w1 : IntKind.i64.wrap ((s : Int) - 1) = (s : Int) - 1 := wrap_i64 (by omega) (by omega)
   rw [e, List.length_append, hl1]
   refine FnO.intro Tryz.func24 rfl rfl fun G w => ?_
   repeat (apply WK.seq)
   refine WK.reg 100 Tryz.ntmps24 (by kernel_rfl) ?_
   intro A hA Q hQ
   simp
   refine hQ _ _ ?_
   clear hQ hA
   repeat (apply WK.seq)
   refine WK.reg 200 Tryz.ntmps24 (by kernel_rfl) ?_
   intro A hA Q hQ
   simp
   refine RunQ.append0 900 901 appByte rfl rfl rfl rfl rfl rfl rfl (by simp [hbd]) (by simp [hbd]) (by simp [hbd]) (by simp [hbd]) (by simp [hbd]) (by simp [hbd]) (by simp) ?_
   refine RunQ.eval ?_
   simp [hbd]
   refine hQ _ _ ?_
   clear hQ hA
   repeat (apply WK.seq)
   refine WK.reg 300 Tryz.ntmps24 (by kernel_rfl) ?_
   intro A hA Q hQ
   simp
   refine RunQ.call rfl rfl rfl rfl (by rfl) (by simp (maxDischargeDepth := 120) [k]) (hr) (by simp [k]) ?_
   refine RunQ.eval ?_
   simp [k]
   refine hQ _ _ ?_
   clear hQ hA
   refine WK.c2 rfl (fun h => ?_) (fun h => ?_)
   · cases h
   repeat (first | apply WK.seq | apply WK.skip)
   refine WK.reg 400 Tryz.ntmps24 (by kernel_rfl) ?_
   intro A hA Q hQ
   simp [w1]
   refine hQ _ _ ?_
   clear hQ hA
   repeat (apply WK.block)
   refine WK.lI (fun _ => 901) (fun t : Nat => (⟨(upd (upd (upd J 1 (.int .i64 n)) 7 (.msl 1 0 (b.length + t))) 8 (.int .i64 ((s : Int) - 1 - t))), (upd B0 1 (.buf 1 (byL (b ++ (beN n s).take t)))), 0⟩ : St)) (fun t => t ≤ s) (fun t => s - t) (0) (by repeat (first | exact TmW.nil | refine TmW.upd ?_ (by simp (maxDischargeDepth := 120) [hz, hf]))) (by repeat (first | exact BxW.nil | refine BxW.upd ?_ (by simp (maxDischargeDepth := 120) [hz, hf]))) (by first | exact InjW.id | exact InjW.nil | exact InjW.one | exact InjW.two (by simp) | exact InjW.three (by simp) (by simp) (by simp)) (Nat.zero_le _) (fun t ht IHt => ?_)
   repeat (apply WK.seq)
   refine WK.reg 500 Tryz.ntmps24 (by kernel_rfl) ?_
   intro A hA Q hQ
   simp
   refine hQ _ _ ?_
   clear hQ hA
   refine WK.c2 rfl (fun h1 => ?_) (fun h1 => ?_)
   · simp at h1
     have h2 : t < s := by omega
     obtain ⟨j, hj⟩ : ∃ j, j = s - 1 - t := ⟨_, rfl⟩
     have ej : (s : Int) - 1 - t = (j : Int) := by omega
     have w8 : IntKind.i64.wrap (8 * (j : Int)) = 8 * (j : Int) := wrap_i64 (by omega) (by omega)
     have w9 : IntKind.i64.wrap ((j : Int) - 1) = (s : Int) - 1 - ((t : Int) + 1) := by rw [wrap_i64 (by omega) (by omega)]; omega
     have hsh : bShr .i64 n (8 * (j : Int)) = n / 2 ^ (8 * j) := by
       have := shr_i64 n (8 * j) (by omega)
       rw [← this]; congr 1
     have hnn : ¬ (8 * (j : Int) < 0) := by omega
     have hu := wrap_u8 (n / 2 ^ (8 * j))
     have hg := beN_get n s t h2
     rw [← hj] at hg
     have hs' : byL (b ++ (beN n s).take t) ++ [.int .u8 (bI (BitVec.ofInt 8 (n / 2 ^ (8 * j))))] = byL (b ++ (beN n s).take (t + 1)) := by
       rw [hg, ← byL_one, ← byL_app, List.append_assoc]
     have hL : ((beN n s).take t).length = t := by rw [List.length_take, hl1]; omega
     have hbd2 : b.length + t + 1 ≤ 140737488355328 := by omega
     rw [ej]
     repeat (first | apply WK.seq | apply WK.block | apply WK.skip)
     refine WK.reg 600 Tryz.ntmps24 (by kernel_rfl) ?_
     intro A hA Q hQ
     simp [w8, hsh, hnn, hu]
     refine RunQ.append 902 appByte rfl rfl rfl rfl rfl rfl rfl (by simp [hbd2, hL]) rfl (by simp [hbd2, hL]) (by simp [hbd2, hL]) (by simp [hbd2, hL]) (by simp [hbd2, hL]) ?_
     refine RunQ.eval ?_
     simp [hbd2, hL]
     refine hQ _ _ ?_
     clear hQ hA
     repeat (apply WK.inBlock)
     refine WK.reg 700 Tryz.ntmps24 (by kernel_rfl) ?_
     intro A hA Q hQ
     simp [w9]
     refine hQ _ _ ?_
     clear hQ hA
     refine WK.next (fun n => if n = 1 then 902 else n) (IHt (t + 1) (by omega) (by first | omega | (dsimp only; omega))) (by repeat (first | exact TmW.nil | refine TmW.upd ?_ (by simp (maxDischargeDepth := 120) [w9, hs', Nat.add_assoc]))) (by repeat (first | exact BxW.nil | refine BxW.upd ?_ (by simp (maxDischargeDepth := 120) [w9, hs', Nat.add_assoc]))) (by first | exact InjW.id | exact InjW.nil | exact InjW.one | exact InjW.two (by simp) | exact InjW.three (by simp) (by simp) (by simp))
   · simp at h1
     have h2 : t = s := by omega
     have hT : (beN n s).take t = beN n s := by rw [h2]; exact List.take_of_length_le (by omega)
     rw [h2]
     rw [h2] at hT
     rw [hT]
     repeat (first | apply WK.seq | refine WK.exit rfl ?_)
     refine WK.reg 800 Tryz.ntmps24 (by kernel_rfl) ?_
     intro A hA Q hQ
     simp
     refine hQ _ _ ?_
     clear hQ hA
     refine WK.retO Tryz.func24 (by rfl) (by rfl) (by simp (maxDischargeDepth := 120)) (by simp)

def valN (l : List (BitVec 8)) : Nat := l.foldl (fun n x => n * 256 + x.toNat) 0
theorem valN_snoc (l : List (BitVec 8)) (x : BitVec 8) : valN (l ++ [x]) = valN l * 256 + x.toNat := by simp [valN]
theorem valN_lt : ∀ (k : Nat) (l : List (BitVec 8)), l.length = k → valN l < 256 ^ k
 | 0, l, h => by rw [List.eq_nil_of_length_eq_zero h]; decide
 | k + 1, l, h => by
   have hne : l ≠ [] := by intro e; subst e; simp at h
   rw [← List.dropLast_concat_getLast hne, valN_snoc]
   have := valN_lt k l.dropLast (by rw [List.length_dropLast]; omega)
   have := (l.getLast hne).isLt
   rw [Nat.pow_succ]
   omega
def getN (b : List (BitVec 8)) (p s : Nat) : Int × Int := if p + s ≤ b.length then (valN ((b.drop p).take s), 0) else (0, 3)
theorem valN_le {b : List (BitVec 8)} {p s i : Nat} (hs : s ≤ 4) (hi : i ≤ s) (h : p + s ≤ b.length) : (valN (((b.drop p).take s).take i) : Int) < 4294967296 := by
 have hl : (((b.drop p).take s).take i).length = i := by simp only [List.length_take, List.length_drop]; omega
 have h1 := valN_lt i _ hl
 have h2 : 256 ^ i ≤ 256 ^ 4 := Nat.pow_le_pow_right (by decide) (by omega)
 have h3 : (256 : Nat) ^ 4 = 4294967296 := rfl
 omega
theorem by_get (b : List (BitVec 8)) (i : Nat) (h : i < b.length) (h' : i < (byL b).length) : (byL b)[i] = .int .u8 (bI (nth b i)) := by
 rw [nth_eq h]; simp [byL]
theorem or_byte (n : Nat) (x : BitVec 8) (h : n < 4294967296) : bOr .i64 ((n : Int) * 256) (bI x) = ((n * 256 + x.toNat : Nat) : Int) := by
 have hx := x.isLt
 unfold bOr bI
 show IntKind.wrap .i64 (((BitVec.ofInt 64 ((n : Int) * 256) ||| BitVec.ofInt 64 (x.toNat : Int)).toNat : Nat) : Int) = _
 have e1 : BitVec.ofInt 64 ((n : Int) * 256) = BitVec.ofNat 64 (n * 256) := by
   rw [← BitVec.ofInt_natCast]; congr 1
 have e2 : BitVec.ofInt 64 (x.toNat : Int) = BitVec.ofNat 64 x.toNat := by rw [← BitVec.ofInt_natCast]
 rw [e1, e2, BitVec.toNat_or, BitVec.toNat_ofNat, BitVec.toNat_ofNat, Nat.mod_eq_of_lt (by omega), Nat.mod_eq_of_lt (by omega)]
 have e3 : n * 256 ||| x.toNat = n * 256 + x.toNat := by
   have := Nat.two_pow_add_eq_or_of_lt (i := 8) (b := x.toNat) hx n
   rw [show (2 : Nat) ^ 8 = 256 from rfl, Nat.mul_comm] at this
   exact this.symm
 rw [e3, wrap_i64 (by omega) (by omega)]
theorem shl_byte (n : Nat) (h : n < 4294967296) : bShl .i64 (n : Int) 8 = (n : Int) * 256 := by
 unfold bShl
 show IntKind.wrap .i64 ((n : Int) * 2 ^ 8) = _
 rw [show (2 : Int) ^ 8 = 256 from rfl, wrap_i64 (by omega) (by omega)]
set_option maxHeartbeats 2000000 in
theorem nget_c (b : List (BitVec 8)) (p s : Nat) (hs : Sz s) (hb : b.length ≤ 9223372036854775807) (hp : p ≤ 1000000) :
   FnP Tryz.prog 38 [byS b, .int .i64 p, .int .i64 s] (.tup [.int .i64 (getN b p s).1, .int .i64 (getN b p s).2]) := by
 have hz := sized_c s hs
 have hs4 : s ≤ 4 := by rcases hs with rfl | rfl | rfl <;> omega
 have w1 : IntKind.i64.wrap ((b.length : Int) - p) = (b.length : Int) - p := wrap_i64 (by omega) (by omega)
 have w2 : IntKind.i64.wrap ((p : Int) + s) = ((p + s : Nat) : Int) := by rw [wrap_i64 (by omega) (by omega)]; omega
 unfold byS
 by_cases hle : p + s ≤ b.length
 case neg =>
   have e : getN b p s = (0, 3) := by unfold getN; rw [if_neg hle]
   have d : decide ((b.length : Int) - p < s) = true := decide_eq_true (by omega)
   refine FnP.intro Tryz.func38 rfl rfl fun G w => ?_
   repeat (apply WK.seq)
   refine WK.reg 100 Tryz.ntmps38 (by kernel_rfl) ?_
   intro A hA Q hQ
   simp
   refine hQ _ _ ?_
   clear hQ hA
   repeat (apply WK.seq)
   refine WK.reg 200 Tryz.ntmps38 (by kernel_rfl) ?_
   intro A hA Q hQ
   have hg3 : (A[3]?).bind (·.dst) = some 14 := by rw [hA]; rfl
   simp [hg3]
   refine RunQ.call rfl rfl rfl rfl (by rfl) (by simp (maxDischargeDepth := 120) [hg3]) (hz) (by simp [hg3]) ?_
   refine RunQ.eval ?_
   simp [hg3]
   refine hQ _ _ ?_
   clear hQ hA
   refine WK.c2 rfl (fun h => ?_) (fun h => ?_)
   · cases h
   repeat (first | apply WK.seq | apply WK.skip)
   refine WK.reg 300 Tryz.ntmps38 (by kernel_rfl) ?_
   intro A hA Q hQ
   simp [w1, d]
   refine hQ _ _ ?_
   clear hQ hA
   refine WK.c2 rfl (fun h => ?_) (fun h => ?_)
   · repeat (apply WK.seq)
     refine WK.reg 400 Tryz.ntmps38 (by kernel_rfl) ?_
     intro A hA Q hQ
     simp
     refine hQ _ _ ?_
     clear hQ hA
     refine WK.ret Tryz.func38 (by simp (maxDischargeDepth := 120) [Tryz.results38, e]) (by simp [e])
   · simp at h
 have e : getN b p s = ((valN ((b.drop p).take s) : Int), 0) := by unfold getN; rw [if_pos hle]
 have d : decide ((b.length : Int) - p < s) = false := decide_eq_false (by omega)
 have c1 : (p : Int) ≤ (p : Int) + s := by omega
 have c2 : (p : Int) + s ≤ b.length := by omega
 have c3 : ((p : Int) + s).toNat = p + s := by omega
 have c4 : p + s - p = s := by omega
 have c5 : (0 : Int) ≤ (p : Int) + s := by omega
 obtain ⟨l, hl⟩ : ∃ l, l = (b.drop p).take s := ⟨_, rfl⟩
 have hll : l.length = s := by rw [hl]; simp only [List.length_take, List.length_drop]; omega
 have hsl : ((byL b).drop p).take s = byL l := by rw [byL_drop, byL_take, hl]
 have hv0 : valN [] = 0 := rfl
 rw [← hl] at e
 refine FnP.intro Tryz.func38 rfl rfl fun G w => ?_
 repeat (apply WK.seq)
 refine WK.reg 100 Tryz.ntmps38 (by kernel_rfl) ?_
 intro A hA Q hQ
 simp
 refine hQ _ _ ?_
 clear hQ hA
 repeat (apply WK.seq)
 refine WK.reg 200 Tryz.ntmps38 (by kernel_rfl) ?_
 intro A hA Q hQ
 have hg3 : (A[3]?).bind (·.dst) = some 14 := by rw [hA]; rfl
 simp [hg3]
 refine RunQ.call rfl rfl rfl rfl (by rfl) (by simp (maxDischargeDepth := 120) [hg3]) (hz) (by simp [hg3]) ?_
 refine RunQ.eval ?_
 simp [hg3]
 refine hQ _ _ ?_
 clear hQ hA
 refine WK.c2 rfl (fun h => ?_) (fun h => ?_)
 · cases h
 repeat (first | apply WK.seq | apply WK.skip)
 refine WK.reg 300 Tryz.ntmps38 (by kernel_rfl) ?_
 intro A hA Q hQ
 simp [w1, d]
 refine hQ _ _ ?_
 clear hQ hA
 refine WK.c2 rfl (fun h => ?_) (fun h => ?_)
 · simp at h
 repeat (first | apply WK.seq | apply WK.skip)
 refine WK.reg 400 Tryz.ntmps38 (by kernel_rfl) ?_
 intro A hA Q hQ
 simp
 refine hQ _ _ ?_
 clear hQ hA
 repeat (apply WK.seq)
 refine WK.reg 500 Tryz.ntmps38 (by kernel_rfl) ?_
 intro A hA Q hQ
 simp [w2, c1, c2, c3, c4, c5, hsl]
 refine hQ _ _ ?_
 clear hQ hA
 repeat (apply WK.block)
 refine WK.lI (fun n => n) (fun i : Nat => (⟨(upd (upd (upd (upd J 8 (.int .i64 (valN (l.take i)))) 29 (.sl false s (byL l))) 30 (.int .i64 s)) 31 (.int .i64 i)), B0, 0⟩ : St)) (fun i => i ≤ s) (fun i => s - i) (0) (by repeat (first | exact TmW.nil | refine TmW.upd ?_ (by simp (maxDischargeDepth := 120) [hv0]))) (by repeat (first | exact BxW.nil | refine BxW.upd ?_ (by simp (maxDischargeDepth := 120) [hv0]))) InjW.id (Nat.zero_le _) (fun i hi IH => ?_)
 repeat (apply WK.seq)
 refine WK.reg 600 Tryz.ntmps38 (by kernel_rfl) ?_
 intro A hA Q hQ
 simp
 refine hQ _ _ ?_
 clear hQ hA
 repeat (apply WK.seq)
 refine WK.c2 rfl (fun h1 => ?_) (fun h1 => ?_)
 · simp at h1
   have h2 : i < s := by omega
   have h2' : i < l.length := by omega
   have h6 : IntKind.i64.wrap ((i : Int) + 1) = i + 1 := wrap_i64 (by omega) (by omega)
   have hg := by_get l i h2'
   have hlt := valN_le (b := b) (p := p) hs4 (Nat.le_of_lt h2) hle
   rw [← hl] at hlt
   have hlt' : valN (l.take i) < 4294967296 := by omega
   have o1 := shl_byte _ hlt'
   have o2 := or_byte _ (nth l i) hlt'
   have o3 : valN (l.take (i + 1)) = valN (l.take i) * 256 + (nth l i).toNat := by rw [take_nth h2', valN_snoc]
   rw [← o3] at o2
   have o4 : IntKind.i64.wrap (bI (nth l i)) = bI (nth l i) := by have := bI_lt (nth l i); exact wrap_i64 (by omega) (by omega)
   repeat (first | apply WK.seq | apply WK.block | apply WK.skip)
   refine WK.reg 700 Tryz.ntmps38 (by kernel_rfl) ?_
   intro A hA Q hQ
   simp [h2, h2', hll, hg]
   refine hQ _ _ ?_
   clear hQ hA
   refine WK.reg 800 Tryz.ntmps38 (by kernel_rfl) ?_
   intro A hA Q hQ
   simp [o1, o2, o4]
   refine hQ _ _ ?_
   clear hQ hA
   repeat (apply WK.inBlock)
   refine WK.reg 900 Tryz.ntmps38 (by kernel_rfl) ?_
   intro A hA Q hQ
   simp [h6]
   refine hQ _ _ ?_
   clear hQ hA
   refine WK.next (fun n => n) (IH (i + 1) (by omega) (by first | omega | (dsimp only; omega))) (by repeat (first | exact TmW.nil | refine TmW.upd ?_ (by simp (maxDischargeDepth := 120) [h6]))) (by repeat (first | exact BxW.nil | refine BxW.upd ?_ (by simp (maxDischargeDepth := 120) [h6]))) InjW.id
 · simp at h1
   have h2 : i = s := by omega
   have hT : l.take i = l := by rw [h2]; exact List.take_of_length_le (by omega)
   rw [hT]
   repeat (first | apply WK.seq | refine WK.exit rfl ?_)
   refine WK.reg 1000 Tryz.ntmps38 (by kernel_rfl) ?_
   intro A hA Q hQ
   simp
   refine hQ _ _ ?_
   clear hQ hA
   refine WK.ret Tryz.func38 (by simp (maxDischargeDepth := 120) [Tryz.results38, e]) (by simp [e])
end Go.Proofs.YtcccfbjkcahgfaaGreat
