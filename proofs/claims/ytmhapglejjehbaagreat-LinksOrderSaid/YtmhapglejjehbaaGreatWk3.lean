/- Where flows go to. -/
import Derived.Test.YtmhapglejjehbaaGreatWk2
import Derived.Test.YtmhapglejjehbaaGreatAf
import Derived.Test.YtmhapglejjehbaaGreatWk1
import Derived.Test.YtmhapglejjehbaaGreatDa
set_option linter.all false
set_option linter.unnecessarySimpa false
namespace Go.Proofs.YtmhapglejjehbaaGreat
open Go Go.AI Go.Proofs
def Inst.goes (i : Inst) : Bool := i.kind == 3 || i.kind == 4
def allI {α : Type} (g : List Action → List α) (l : List Inst) : List α := (l.filter Inst.goes).flatMap fun i => g i.acts
theorem allI_len {α : Type} {g : List Action → List α} (hg : ∀ l, (g l).length ≤ l.length) (N : Nat) : ∀ (l : List Inst), (∀ x, x ∈ l → x.acts.length ≤ N) → (allI g l).length ≤ l.length * N
 | [], _ => by simp [allI]
 | x :: l, h => by
   have ih := allI_len hg N l fun y hy => h y (by simp [hy])
   have hx := h x (by simp)
   have hgx := hg x.acts
   have e : (x :: l).length * N = l.length * N + N := by rw [List.length_cons, Nat.add_mul, Nat.one_mul]
   rw [e]
   unfold allI at ih ⊢
   cases hk : Inst.goes x
   · rw [List.filter_cons_of_neg (by simp [hk])]; omega
   · rw [List.filter_cons_of_pos hk, List.flatMap_cons, List.length_append]; omega

theorem appOxm : AppOk Tryz.prog 79 134 6 48 := ⟨by simp, by simp, by simp, by simp, by simp, by simp, by omega, by omega⟩
theorem appInst : AppOk Tryz.prog 80 126 7 72 := ⟨by simp, by simp, by simp, by simp, by simp, by simp, by omega, by omega⟩
theorem clone_oxm (l : List Oxm) (hl : l.length ≤ 1000000) : FnP Tryz.prog 139 [oxmS l] (oxmS l) := by
 cases l with
 | nil =>
   refine FnP.i Tryz.func139 rfl rfl fun G w => ?_
   repeat (first | apply WK.s | apply WK.b | apply WK.n | apply WK.k | apply WK.label | apply WK.scope | apply WK.inScope | refine WK.exit rfl ?_)
   first | refine WK.g 100 Tryz.ntmps139 (by kernel_rfl) ?_ | refine WK.regD 100 clsOf (by kernel_rfl) Tryz.ntmps139 (by kernel_rfl) (by kernel_rfl) ?_
   intro A hA Q hQ
   simp
   apply hQ
   clear hQ hA
   repeat (first | apply WK.s | apply WK.b | apply WK.n | apply WK.k | apply WK.label | apply WK.scope | apply WK.inScope | refine WK.exit rfl ?_)
   first | refine WK.g 200 Tryz.ntmps139 (by kernel_rfl) ?_ | refine WK.regD 200 clsOf (by kernel_rfl) Tryz.ntmps139 (by kernel_rfl) (by kernel_rfl) ?_
   intro A hA Q hQ
   simp [oxmS]
   apply hQ
   clear hQ hA
   repeat (first | apply WK.s | apply WK.b | apply WK.n | apply WK.k | apply WK.label | apply WK.scope | apply WK.inScope | refine WK.exit rfl ?_)
   refine WK.condAny rfl ?_ ?_
   · repeat (first | apply WK.s | apply WK.b | apply WK.n | apply WK.k | apply WK.label | apply WK.scope | apply WK.inScope | refine WK.exit rfl ?_)
     first | refine WK.g 300 Tryz.ntmps139 (by kernel_rfl) ?_ | refine WK.regD 300 clsOf (by kernel_rfl) Tryz.ntmps139 (by kernel_rfl) (by kernel_rfl) ?_
     intro A hA Q hQ
     simp
     apply hQ
     clear hQ hA
     repeat (first | apply WK.s | apply WK.b | apply WK.n | apply WK.k | apply WK.label | apply WK.scope | apply WK.inScope | refine WK.exit rfl ?_)
     refine WK.t Tryz.func139 (by simp (maxDischargeDepth := 120) [Tryz.results139, oxmS]) (by simp [oxmS])
   · repeat (first | apply WK.s | apply WK.b | apply WK.n | apply WK.k | apply WK.label | apply WK.scope | apply WK.inScope | refine WK.exit rfl ?_)
     first | refine WK.g 400 Tryz.ntmps139 (by kernel_rfl) ?_ | refine WK.regD 400 clsOf (by kernel_rfl) Tryz.ntmps139 (by kernel_rfl) (by kernel_rfl) ?_
     intro A hA Q hQ
     simp [oxmS]
     refine RunQ.append0 900 901 appOxm rfl rfl rfl rfl rfl rfl rfl (by simp) (by simp) (by simp) (by simp) (by simp) (by simp) (by simp) ?_
     refine RunQ.eval ?_
     simp
     apply hQ
     clear hQ hA
     repeat (first | apply WK.s | apply WK.b | apply WK.n | apply WK.k | apply WK.label | apply WK.scope | apply WK.inScope | refine WK.exit rfl ?_)
     refine WK.ghost (Ghost.frzSl 2 6 rfl rfl) ?_
     repeat (first | apply WK.s | apply WK.b | apply WK.n | apply WK.k | apply WK.label | apply WK.scope | apply WK.inScope | refine WK.exit rfl ?_)
     refine WK.t Tryz.func139 (by simp (maxDischargeDepth := 120) [Tryz.results139, oxmS]) (by simp [oxmS])
 | cons x l =>
   have hb : (l.length + 1) * 48 ≤ 140737488355328 := by simp at hl; omega
   have h0 : ¬ (l.length + 1 = 0) := by omega
   refine FnP.i Tryz.func139 rfl rfl fun G w => ?_
   repeat (first | apply WK.s | apply WK.b | apply WK.n | apply WK.k | apply WK.label | apply WK.scope | apply WK.inScope | refine WK.exit rfl ?_)
   first | refine WK.g 100 Tryz.ntmps139 (by kernel_rfl) ?_ | refine WK.regD 100 clsOf (by kernel_rfl) Tryz.ntmps139 (by kernel_rfl) (by kernel_rfl) ?_
   intro A hA Q hQ
   simp
   apply hQ
   clear hQ hA
   repeat (first | apply WK.s | apply WK.b | apply WK.n | apply WK.k | apply WK.label | apply WK.scope | apply WK.inScope | refine WK.exit rfl ?_)
   first | refine WK.g 200 Tryz.ntmps139 (by kernel_rfl) ?_ | refine WK.regD 200 clsOf (by kernel_rfl) Tryz.ntmps139 (by kernel_rfl) (by kernel_rfl) ?_
   intro A hA Q hQ
   simp [oxmS]
   apply hQ
   clear hQ hA
   repeat (first | apply WK.s | apply WK.b | apply WK.n | apply WK.k | apply WK.label | apply WK.scope | apply WK.inScope | refine WK.exit rfl ?_)
   refine WK.c2 rfl (fun h => ?_) (fun h => ?_)
   · cases h
   · repeat (first | apply WK.s | apply WK.b | apply WK.n | apply WK.k | apply WK.label | apply WK.scope | apply WK.inScope | refine WK.exit rfl ?_)
     first | refine WK.g 300 Tryz.ntmps139 (by kernel_rfl) ?_ | refine WK.regD 300 clsOf (by kernel_rfl) Tryz.ntmps139 (by kernel_rfl) (by kernel_rfl) ?_
     intro A hA Q hQ
     simp [oxmS]
     refine RunQ.append0 900 901 appOxm rfl rfl rfl rfl rfl rfl rfl (by simp [hb]) (by simp [hb]) (by simp [hb]) (by simp [hb]) (by simp [hb]) (by simp [hb]) (by simp) ?_
     refine RunQ.eval ?_
     simp [hb]
     apply hQ
     clear hQ hA
     repeat (first | apply WK.s | apply WK.b | apply WK.n | apply WK.k | apply WK.label | apply WK.scope | apply WK.inScope | refine WK.exit rfl ?_)
     refine WK.ghost (Ghost.frzSl 2 6 rfl rfl) ?_
     have e := oxmL_take (x :: l)
     simp only [List.length_cons] at e
     repeat (first | apply WK.s | apply WK.b | apply WK.n | apply WK.k | apply WK.label | apply WK.scope | apply WK.inScope | refine WK.exit rfl ?_)
     refine WK.t Tryz.func139 (by simp (maxDischargeDepth := 120) [Tryz.results139, oxmS, e]) (by simp [oxmS, e])
theorem clone_act (l : List Action) (hl : l.length ≤ 1000000) : FnP Tryz.prog 162 [actS l] (actS l) := by
 cases l with
 | nil =>
   refine FnP.i Tryz.func162 rfl rfl fun G w => ?_
   repeat apply WK.s
   refine WK.g 100 Tryz.ntmps162 (by kernel_rfl) ?_
   intro A hA Q hQ
   simp
   apply hQ
   clear hQ hA
   repeat apply WK.s
   refine WK.g 200 Tryz.ntmps162 (by kernel_rfl) ?_
   intro A hA Q hQ
   simp [actS]
   apply hQ
   clear hQ hA
   refine WK.condAny rfl ?_ ?_
   · repeat apply WK.s
     refine WK.g 300 Tryz.ntmps162 (by kernel_rfl) ?_
     intro A hA Q hQ
     simp
     apply hQ
     clear hQ hA
     refine WK.t Tryz.func162 (by simp (maxDischargeDepth := 120) [Tryz.results162, actS]) (by simp [actS])
   · repeat (first | apply WK.s | apply WK.k)
     refine WK.g 400 Tryz.ntmps162 (by kernel_rfl) ?_
     intro A hA Q hQ
     simp [actS]
     refine RunQ.append0 900 901 appAct rfl rfl rfl rfl rfl rfl rfl (by simp) (by simp) (by simp) (by simp) (by simp) (by simp) (by simp) ?_
     refine RunQ.eval ?_
     simp
     apply hQ
     clear hQ hA
     refine WK.ghost (Ghost.frzSl 2 11 rfl rfl) ?_
     refine WK.t Tryz.func162 (by simp (maxDischargeDepth := 120) [Tryz.results162, actS]) (by simp [actS])
 | cons x l =>
   have hb : (l.length + 1) * 88 ≤ 140737488355328 := by simp at hl; omega
   have h0 : ¬ (l.length + 1 = 0) := by omega
   refine FnP.i Tryz.func162 rfl rfl fun G w => ?_
   repeat apply WK.s
   refine WK.g 100 Tryz.ntmps162 (by kernel_rfl) ?_
   intro A hA Q hQ
   simp
   apply hQ
   clear hQ hA
   repeat apply WK.s
   refine WK.g 200 Tryz.ntmps162 (by kernel_rfl) ?_
   intro A hA Q hQ
   simp [actS]
   apply hQ
   clear hQ hA
   refine WK.c2 rfl (fun h => ?_) (fun h => ?_)
   · cases h
   · repeat (first | apply WK.s | apply WK.k)
     refine WK.g 300 Tryz.ntmps162 (by kernel_rfl) ?_
     intro A hA Q hQ
     simp [actS]
     refine RunQ.append0 900 901 appAct rfl rfl rfl rfl rfl rfl rfl (by simp [hb]) (by simp [hb]) (by simp [hb]) (by simp [hb]) (by simp [hb]) (by simp [hb]) (by simp) ?_
     refine RunQ.eval ?_
     simp [hb]
     apply hQ
     clear hQ hA
     refine WK.ghost (Ghost.frzSl 2 11 rfl rfl) ?_
     have e := actL_take (x :: l)
     simp only [List.length_cons] at e
     refine WK.t Tryz.func162 (by simp (maxDischargeDepth := 120) [Tryz.results162, actS, e]) (by simp [actS, e])
theorem clone_inst (l : List Inst) (hl : l.length ≤ 1000000) : FnO Tryz.prog 184 [instS l] l.length 7 (instL l) := by
 cases l with
 | nil =>
   refine FnO.intro Tryz.func184 rfl rfl fun G w => ?_
   repeat (first | apply WK.s | apply WK.b | apply WK.n | apply WK.k | apply WK.label | apply WK.scope | apply WK.inScope | refine WK.exit rfl ?_)
   first | refine WK.g 100 Tryz.ntmps184 (by kernel_rfl) ?_ | refine WK.regD 100 clsOf (by kernel_rfl) Tryz.ntmps184 (by kernel_rfl) (by kernel_rfl) ?_
   intro A hA Q hQ
   simp
   apply hQ
   clear hQ hA
   repeat (first | apply WK.s | apply WK.b | apply WK.n | apply WK.k | apply WK.label | apply WK.scope | apply WK.inScope | refine WK.exit rfl ?_)
   first | refine WK.g 200 Tryz.ntmps184 (by kernel_rfl) ?_ | refine WK.regD 200 clsOf (by kernel_rfl) Tryz.ntmps184 (by kernel_rfl) (by kernel_rfl) ?_
   intro A hA Q hQ
   simp [instS]
   apply hQ
   clear hQ hA
   repeat (first | apply WK.s | apply WK.b | apply WK.n | apply WK.k | apply WK.label | apply WK.scope | apply WK.inScope | refine WK.exit rfl ?_)
   refine WK.condAny rfl ?_ ?_
   · repeat (first | apply WK.s | apply WK.b | apply WK.n | apply WK.k | apply WK.label | apply WK.scope | apply WK.inScope | refine WK.exit rfl ?_)
     first | refine WK.g 300 Tryz.ntmps184 (by kernel_rfl) ?_ | refine WK.regD 300 clsOf (by kernel_rfl) Tryz.ntmps184 (by kernel_rfl) (by kernel_rfl) ?_
     intro A hA Q hQ
     simp
     apply hQ
     clear hQ hA
     repeat (first | apply WK.s | apply WK.b | apply WK.n | apply WK.k | apply WK.label | apply WK.scope | apply WK.inScope | refine WK.exit rfl ?_)
     refine WK.ghost (Ghost.own 2 900 7 rfl rfl) ?_
     repeat (first | apply WK.s | apply WK.b | apply WK.n | apply WK.k | apply WK.label | apply WK.scope | apply WK.inScope | refine WK.exit rfl ?_)
     refine WK.retO Tryz.func184 (by rfl) (by rfl) (by simp (maxDischargeDepth := 120)) (by simp)
   · repeat (first | apply WK.s | apply WK.b | apply WK.n | apply WK.k | apply WK.label | apply WK.scope | apply WK.inScope | refine WK.exit rfl ?_)
     first | refine WK.g 400 Tryz.ntmps184 (by kernel_rfl) ?_ | refine WK.regD 400 clsOf (by kernel_rfl) Tryz.ntmps184 (by kernel_rfl) (by kernel_rfl) ?_
     intro A hA Q hQ
     simp [instS]
     refine RunQ.append0 900 901 appInst rfl rfl rfl rfl rfl rfl rfl (by simp) (by simp) (by simp) (by simp) (by simp) (by simp) (by simp) ?_
     refine RunQ.eval ?_
     simp
     apply hQ
     clear hQ hA
     repeat (first | apply WK.s | apply WK.b | apply WK.n | apply WK.k | apply WK.label | apply WK.scope | apply WK.inScope | refine WK.exit rfl ?_)
     refine WK.retO Tryz.func184 (by rfl) (by rfl) (by simp (maxDischargeDepth := 120)) (by simp)
 | cons x l =>
   have hb : (l.length + 1) * 72 ≤ 140737488355328 := by simp at hl; omega
   have e := instL_take (x :: l)
   simp only [List.length_cons] at e
   refine FnO.intro Tryz.func184 rfl rfl fun G w => ?_
   repeat (first | apply WK.s | apply WK.b | apply WK.n | apply WK.k | apply WK.label | apply WK.scope | apply WK.inScope | refine WK.exit rfl ?_)
   first | refine WK.g 100 Tryz.ntmps184 (by kernel_rfl) ?_ | refine WK.regD 100 clsOf (by kernel_rfl) Tryz.ntmps184 (by kernel_rfl) (by kernel_rfl) ?_
   intro A hA Q hQ
   simp
   apply hQ
   clear hQ hA
   repeat (first | apply WK.s | apply WK.b | apply WK.n | apply WK.k | apply WK.label | apply WK.scope | apply WK.inScope | refine WK.exit rfl ?_)
   first | refine WK.g 200 Tryz.ntmps184 (by kernel_rfl) ?_ | refine WK.regD 200 clsOf (by kernel_rfl) Tryz.ntmps184 (by kernel_rfl) (by kernel_rfl) ?_
   intro A hA Q hQ
   simp [instS]
   apply hQ
   clear hQ hA
   repeat (first | apply WK.s | apply WK.b | apply WK.n | apply WK.k | apply WK.label | apply WK.scope | apply WK.inScope | refine WK.exit rfl ?_)
   refine WK.c2 rfl (fun h => ?_) (fun h => ?_)
   · cases h
   · repeat (first | apply WK.s | apply WK.b | apply WK.n | apply WK.k | apply WK.label | apply WK.scope | apply WK.inScope | refine WK.exit rfl ?_)
     first | refine WK.g 300 Tryz.ntmps184 (by kernel_rfl) ?_ | refine WK.regD 300 clsOf (by kernel_rfl) Tryz.ntmps184 (by kernel_rfl) (by kernel_rfl) ?_
     intro A hA Q hQ
     simp [instS]
     refine RunQ.append0 900 901 appInst rfl rfl rfl rfl rfl rfl rfl (by simp [hb]) (by simp [hb]) (by simp [hb]) (by simp [hb]) (by simp [hb]) (by simp [hb]) (by simp) ?_
     refine RunQ.eval ?_
     simp [hb]
     apply hQ
     clear hQ hA
     repeat (first | apply WK.s | apply WK.b | apply WK.n | apply WK.k | apply WK.label | apply WK.scope | apply WK.inScope | refine WK.exit rfl ?_)
     refine WK.retO Tryz.func184 (by rfl) (by rfl) (by simp (maxDischargeDepth := 120) [e]) (by simp [e])

structure IOk (l : List Inst) : Prop where
 len : l.length ≤ 1000
 acts : ∀ x, x ∈ l → x.acts.length ≤ 1000000
structure FOk (f : Flow) : Prop where
 mat : f.mat.length ≤ 1000000
 insts : IOk f.insts
def Flow.same (a b : Flow) : Bool := a.cookie == b.cookie && ((a.prio == b.prio && (a.idle == b.idle && (a.hard == b.hard && a.flags == b.flags))) && (eqBy (fun x y => x == y) a.mat b.mat && eqBy Inst.same a.insts b.insts))
@[simp] theorem eqK_place (p q : Int) (c d : Cube) : eqK (repl 97 false) (.int .i64 p :: encC c) (.int .i64 q :: encC d) = some (p == q && cubeEq c d) := by
 rw [show repl 97 false = false :: repl 96 false from rfl]
 simp only [eqK, eqK_cube, if_true]
def placeOf (f : Flow) : List AV := .int .i64 f.prio :: encC (Flow.cube f)
@[simp] theorem placeOf_cl (f : Flow) : ClL (placeOf f) = true := by simp [placeOf]
theorem drop97 (x : AV) (c : Cube) : List.drop 97 (x :: encC c) = [] := by rw [show (97 : Nat) = 96 + 1 from rfl, List.drop_succ_cons]; simp
theorem take97 (x : AV) (c : Cube) : List.take 97 (x :: encC c) = x :: encC c := by rw [show (97 : Nat) = 96 + 1 from rfl, List.take_succ_cons]; simp
theorem place_c (f : Flow) (h : FOk f) : FnP Tryz.prog 144 [.agg f.enc] (.agg (placeOf f)) := by
 refine FnP.i Tryz.func144 rfl rfl fun G w => ?_
 repeat (first | apply WK.s | apply WK.b | apply WK.n | apply WK.k | apply WK.label | apply WK.scope | apply WK.inScope | refine WK.exit rfl ?_)
 first | refine WK.g 100 Tryz.ntmps144 (by kernel_rfl) ?_ | refine WK.regD 100 clsOf (by kernel_rfl) Tryz.ntmps144 (by kernel_rfl) (by kernel_rfl) ?_
 intro A hA Q hQ
 simp
 apply hQ
 clear hQ hA
 repeat (first | apply WK.s | apply WK.b | apply WK.n | apply WK.k | apply WK.label | apply WK.scope | apply WK.inScope | refine WK.exit rfl ?_)
 first | refine WK.g 200 Tryz.ntmps144 (by kernel_rfl) ?_ | refine WK.regD 200 clsOf (by kernel_rfl) Tryz.ntmps144 (by kernel_rfl) (by kernel_rfl) ?_
 intro A hA Q hQ
 simp [Flow.enc]
 refine RunQ.call rfl rfl rfl rfl (by rfl) (by simp (maxDischargeDepth := 120) [Flow.enc, drop97, take97]) (fcube_c f h.mat) (by simp [Flow.enc, drop97, take97]) ?_
 refine RunQ.eval ?_
 simp [Flow.enc, drop97, take97]
 apply hQ
 clear hQ hA
 repeat (first | apply WK.s | apply WK.b | apply WK.n | apply WK.k | apply WK.label | apply WK.scope | apply WK.inScope | refine WK.exit rfl ?_)
 refine WK.t Tryz.func144 (by simp (maxDischargeDepth := 120) [Tryz.results144, placeOf, drop97, take97]) (by simp [placeOf, drop97, take97])
def Flow.alike (a b : Flow) : Bool := a.prio == b.prio && cubeEq (Flow.cube a) (Flow.cube b)
theorem alike_c (a b : Flow) (ha : FOk a) (hb : FOk b) : FnP Tryz.prog 84 [.agg a.enc, .agg b.enc] (.bool (Flow.alike a b)) := by
 refine FnP.i Tryz.func84 rfl rfl fun G w => ?_
 repeat (first | apply WK.s | apply WK.b | apply WK.n | apply WK.k | apply WK.label | apply WK.scope | apply WK.inScope | refine WK.exit rfl ?_)
 first | refine WK.g 100 Tryz.ntmps84 (by kernel_rfl) ?_ | refine WK.regD 100 clsOf (by kernel_rfl) Tryz.ntmps84 (by kernel_rfl) (by kernel_rfl) ?_
 intro A hA Q hQ
 simp
 apply hQ
 clear hQ hA
 repeat (first | apply WK.s | apply WK.b | apply WK.n | apply WK.k | apply WK.label | apply WK.scope | apply WK.inScope | refine WK.exit rfl ?_)
 first | refine WK.g 200 Tryz.ntmps84 (by kernel_rfl) ?_ | refine WK.regD 200 clsOf (by kernel_rfl) Tryz.ntmps84 (by kernel_rfl) (by kernel_rfl) ?_
 intro A hA Q hQ
 simp
 refine RunQ.call rfl rfl rfl rfl (by rfl) (by simp (maxDischargeDepth := 120)) (place_c a ha) (by simp) ?_
 refine RunQ.eval ?_
 simp
 refine RunQ.call rfl rfl rfl rfl (by rfl) (by simp (maxDischargeDepth := 120) [placeOf]) (place_c b hb) (by simp [placeOf]) ?_
 refine RunQ.eval ?_
 simp [placeOf]
 apply hQ
 clear hQ hA
 repeat (first | apply WK.s | apply WK.b | apply WK.n | apply WK.k | apply WK.label | apply WK.scope | apply WK.inScope | refine WK.exit rfl ?_)
 refine WK.t Tryz.func84 (by simp (maxDischargeDepth := 120) [Tryz.results84, Flow.alike]) (by simp [Flow.alike])
def Flow.overlap (a b : Flow) : Bool := a.prio == b.prio && cubeMeetOk (Flow.cube a) (Flow.cube b)
theorem overlap_c (a b : Flow) (ha : FOk a) (hb : FOk b) : FnP Tryz.prog 86 [.agg a.enc, .agg b.enc] (.bool (Flow.overlap a b)) := by
 refine FnP.i Tryz.func86 rfl rfl fun G w => ?_
 repeat (first | apply WK.s | apply WK.b | apply WK.n | apply WK.k | apply WK.label | apply WK.scope | apply WK.inScope | refine WK.exit rfl ?_)
 first | refine WK.g 100 Tryz.ntmps86 (by kernel_rfl) ?_ | refine WK.regD 100 clsOf (by kernel_rfl) Tryz.ntmps86 (by kernel_rfl) (by kernel_rfl) ?_
 intro A hA Q hQ
 simp
 apply hQ
 clear hQ hA
 repeat (first | apply WK.s | apply WK.b | apply WK.n | apply WK.k | apply WK.label | apply WK.scope | apply WK.inScope | refine WK.exit rfl ?_)
 first | refine WK.g 200 Tryz.ntmps86 (by kernel_rfl) ?_ | refine WK.regD 200 clsOf (by kernel_rfl) Tryz.ntmps86 (by kernel_rfl) (by kernel_rfl) ?_
 intro A hA Q hQ
 simp [Flow.enc]
 apply hQ
 clear hQ hA
 repeat (first | apply WK.s | apply WK.b | apply WK.n | apply WK.k | apply WK.label | apply WK.scope | apply WK.inScope | refine WK.exit rfl ?_)
 refine WK.c2 rfl (fun h => ?_) (fun h => ?_)
 · have k1 : (a.prio == b.prio) = false := by simpa using h
   repeat (first | apply WK.s | apply WK.b | apply WK.n | apply WK.k | apply WK.label | apply WK.scope | apply WK.inScope | refine WK.exit rfl ?_)
   first | refine WK.g 300 Tryz.ntmps86 (by kernel_rfl) ?_ | refine WK.regD 300 clsOf (by kernel_rfl) Tryz.ntmps86 (by kernel_rfl) (by kernel_rfl) ?_
   intro A hA Q hQ
   simp
   apply hQ
   clear hQ hA
   repeat (first | apply WK.s | apply WK.b | apply WK.n | apply WK.k | apply WK.label | apply WK.scope | apply WK.inScope | refine WK.exit rfl ?_)
   refine WK.t Tryz.func86 (by simp (maxDischargeDepth := 120) [Tryz.results86, Flow.overlap, k1]) (by simp [Flow.overlap, k1])
 · have k1 : (a.prio == b.prio) = true := by simpa using h
   repeat (first | apply WK.s | apply WK.b | apply WK.n | apply WK.k | apply WK.label | apply WK.scope | apply WK.inScope | refine WK.exit rfl ?_)
   first | refine WK.g 400 Tryz.ntmps86 (by kernel_rfl) ?_ | refine WK.regD 400 (clsM [(2, 0), (3, 1), (5, 208)]) (by kernel_rfl) Tryz.ntmps86 (by kernel_rfl) (by kernel_rfl) ?_
   intro A hA Q hQ
   simp [Flow.enc]
   refine RunQ.call rfl rfl rfl rfl (by rfl) (by simp (maxDischargeDepth := 120) [Flow.enc]) (fcube_c a ha.mat) (by simp [Flow.enc]) ?_
   refine RunQ.eval ?_
   simp [Flow.enc]
   refine RunQ.call rfl rfl rfl rfl (by rfl) (by simp (maxDischargeDepth := 120) [Flow.enc]) (fcube_c b hb.mat) (by simp [Flow.enc]) ?_
   refine RunQ.eval ?_
   simp [Flow.enc]
   refine RunQ.call rfl rfl rfl rfl (by rfl) (by simp (maxDischargeDepth := 120)) (cmeet_c (Flow.cube a) (Flow.cube b)) (by simp) ?_
   refine RunQ.eval ?_
   simp
   apply hQ
   clear hQ hA
   repeat (first | apply WK.s | apply WK.b | apply WK.n | apply WK.k | apply WK.label | apply WK.scope | apply WK.inScope | refine WK.exit rfl ?_)
   first | refine WK.g 500 Tryz.ntmps86 (by kernel_rfl) ?_ | refine WK.regD 500 clsOf (by kernel_rfl) Tryz.ntmps86 (by kernel_rfl) (by kernel_rfl) ?_
   intro A hA Q hQ
   simp
   apply hQ
   clear hQ hA
   repeat (first | apply WK.s | apply WK.b | apply WK.n | apply WK.k | apply WK.label | apply WK.scope | apply WK.inScope | refine WK.exit rfl ?_)
   refine WK.t Tryz.func86 (by simp (maxDischargeDepth := 120) [Tryz.results86, Flow.overlap, k1]) (by simp [Flow.overlap, k1])

theorem ofA_le (k : Int) (g : Action → Int) (l : List Action) : (ofA k g l).length ≤ l.length := by
 unfold ofA; rw [List.length_map]; exact List.length_filter_le _ _
def Flow.goPorts (f : Flow) : List Int := allI (ofA 0 Action.port) f.insts
def Flow.goGroups (f : Flow) : List Int := allI (ofA 22 Action.group) f.insts
theorem inst_same6 (l : List Inst) (i : Nat) (h : i < l.length) : (instL l).take (i * 7 + 6) ++ .sl false (nth l i).acts.length (actL (nth l i).acts) :: (instL l).drop (i * 7 + 6 + 1) = instL l := by
 have h' : i * 7 + 6 < (instL l).length := by simp; omega
 have e := inst_get6 l i h h'
 rw [← e, ← List.drop_eq_getElem_cons h', List.take_append_drop]
theorem copies_c (l : List Inst) (h : IOk l) : FnP Tryz.prog 140 [instS l] (instS l) := by
 have hl := h.len
 refine FnP.i Tryz.func140 rfl rfl fun G w => ?_
 repeat (first | apply WK.s | apply WK.b | apply WK.n | apply WK.k | apply WK.label | apply WK.scope | apply WK.inScope | refine WK.exit rfl ?_)
 first | refine WK.g 100 Tryz.ntmps140 (by kernel_rfl) ?_ | refine WK.regD 100 clsOf (by kernel_rfl) Tryz.ntmps140 (by kernel_rfl) (by kernel_rfl) ?_
 intro A hA Q hQ
 simp
 apply hQ
 clear hQ hA
 repeat (first | apply WK.s | apply WK.b | apply WK.n | apply WK.k | apply WK.label | apply WK.scope | apply WK.inScope | refine WK.exit rfl ?_)
 first | refine WK.g 200 Tryz.ntmps140 (by kernel_rfl) ?_ | refine WK.regD 200 clsOf (by kernel_rfl) Tryz.ntmps140 (by kernel_rfl) (by kernel_rfl) ?_
 intro A hA Q hQ
 simp
 refine RunQ.callO 900 rfl rfl rfl (by simp) (by rfl) (by simp (maxDischargeDepth := 120)) (clone_inst l (by omega)) (by simp) (by simp) (by simp) ?_
 refine RunQ.eval ?_
 simp
 apply hQ
 clear hQ hA
 repeat (first | apply WK.s | apply WK.b | apply WK.n | apply WK.k | apply WK.label | apply WK.scope | apply WK.inScope | refine WK.exit rfl ?_)
 first | refine WK.g 300 Tryz.ntmps140 (by kernel_rfl) ?_ | refine WK.regD 300 clsOf (by kernel_rfl) Tryz.ntmps140 (by kernel_rfl) (by kernel_rfl) ?_
 intro A hA Q hQ
 simp
 apply hQ
 clear hQ hA
 repeat (first | apply WK.s | apply WK.b | apply WK.n | apply WK.k | apply WK.label | apply WK.scope | apply WK.inScope | refine WK.exit rfl ?_)
 refine WK.lI (fun _ => 900) (fun i : Nat => (⟨(upd (upd (upd J 3 (.msl 1 0 l.length)) 8 (.int .i64 l.length)) 9 (.int .i64 i)), (upd B0 1 (.buf 7 (instL l))), 0⟩ : St)) (fun i => i ≤ l.length) (fun i => l.length - i) (0) (by repeat (first | exact TmW.nil | refine TmW.upd ?_ (by simp (maxDischargeDepth := 120)))) (by repeat (first | exact BxW.nil | refine BxW.upd ?_ (by simp (maxDischargeDepth := 120)))) (by first | exact InjW.id | exact InjW.nil | exact InjW.one | exact InjW.two (by simp) | exact InjW.three (by simp) (by simp) (by simp)) (by omega) (fun i hi IH => ?_)
 repeat (first | apply WK.s | apply WK.b | apply WK.n | apply WK.k | apply WK.label | apply WK.scope | apply WK.inScope | refine WK.exit rfl ?_)
 first | refine WK.g 400 Tryz.ntmps140 (by kernel_rfl) ?_ | refine WK.regD 400 clsOf (by kernel_rfl) Tryz.ntmps140 (by kernel_rfl) (by kernel_rfl) ?_
 intro A hA Q hQ
 simp
 apply hQ
 clear hQ hA
 repeat (first | apply WK.s | apply WK.b | apply WK.n | apply WK.k | apply WK.label | apply WK.scope | apply WK.inScope | refine WK.exit rfl ?_)
 refine WK.c2 rfl (fun h1 => ?_) (fun h1 => ?_)
 · simp at h1
   have h2 : i < l.length := by omega
   have h3 : i * 7 + 6 < l.length * 7 := by omega
   have h3' : i * 7 + 6 + 1 ≤ l.length * 7 := by omega
   have h4' := inst_get6 l i h2
   have h5 := inst_same6 l i h2
   have h6 : IntKind.i64.wrap ((i : Int) + 1) = i + 1 := wrap_i64 (by omega) (by omega)
   repeat (first | apply WK.s | apply WK.b | apply WK.n | apply WK.k | apply WK.label | apply WK.scope | apply WK.inScope | refine WK.exit rfl ?_)
   first | refine WK.g 500 Tryz.ntmps140 (by kernel_rfl) ?_ | refine WK.regD 500 clsOf (by kernel_rfl) Tryz.ntmps140 (by kernel_rfl) (by kernel_rfl) ?_
   intro A hA Q hQ
   simp
   apply hQ
   clear hQ hA
   repeat (first | apply WK.s | apply WK.b | apply WK.n | apply WK.k | apply WK.label | apply WK.scope | apply WK.inScope | refine WK.exit rfl ?_)
   first | refine WK.g 600 Tryz.ntmps140 (by kernel_rfl) ?_ | refine WK.regD 600 clsOf (by kernel_rfl) Tryz.ntmps140 (by kernel_rfl) (by kernel_rfl) ?_
   intro A hA Q hQ
   simp [h2, h3, h4']
   refine RunQ.call rfl rfl rfl rfl (by rfl) (by simp (maxDischargeDepth := 120) [actS, h2, h3, h3', h5]) (clone_act (nth l i).acts (h.acts _ (nth_mem h2))) (by simp [actS, h2, h3, h3', h5]) ?_
   refine RunQ.eval ?_
   simp [actS, h2, h3, h3', h5]
   apply hQ
   clear hQ hA
   repeat (first | apply WK.s | apply WK.b | apply WK.n | apply WK.k | apply WK.label | apply WK.scope | apply WK.inScope | refine WK.exit rfl ?_)
   first | refine WK.g 700 Tryz.ntmps140 (by kernel_rfl) ?_ | refine WK.regD 700 clsOf (by kernel_rfl) Tryz.ntmps140 (by kernel_rfl) (by kernel_rfl) ?_
   intro A hA Q hQ
   simp [h6]
   apply hQ
   clear hQ hA
   repeat (first | apply WK.s | apply WK.b | apply WK.n | apply WK.k | apply WK.label | apply WK.scope | apply WK.inScope | refine WK.exit rfl ?_)
   refine WK.next (fun n => n) (IH (i + 1) (by omega) (by first | omega | (dsimp only; omega))) (by repeat (first | exact TmW.nil | refine TmW.upd ?_ (by simp (maxDischargeDepth := 120) [h5]))) (by repeat (first | exact BxW.nil | refine BxW.upd ?_ (by simp (maxDischargeDepth := 120) [h5]))) InjW.id
 · simp at h1
   repeat (first | apply WK.s | apply WK.b | apply WK.n | apply WK.k | apply WK.label | apply WK.scope | apply WK.inScope | refine WK.exit rfl ?_)
   first | refine WK.g 800 Tryz.ntmps140 (by kernel_rfl) ?_ | refine WK.regD 800 clsOf (by kernel_rfl) Tryz.ntmps140 (by kernel_rfl) (by kernel_rfl) ?_
   intro A hA Q hQ
   simp
   apply hQ
   clear hQ hA
   repeat (first | apply WK.s | apply WK.b | apply WK.n | apply WK.k | apply WK.label | apply WK.scope | apply WK.inScope | refine WK.exit rfl ?_)
   refine WK.ghost (Ghost.frzSl 2 7 rfl rfl) ?_
   repeat (first | apply WK.s | apply WK.b | apply WK.n | apply WK.k | apply WK.label | apply WK.scope | apply WK.inScope | refine WK.exit rfl ?_)
   refine WK.t Tryz.func140 (by simp (maxDischargeDepth := 120) [Tryz.results140, instS]) (by simp [instS])
def FlowMod.flow (m : FlowMod) : Flow := ⟨m.cookie, m.prio, m.idle, m.hard, m.flags, m.mat, m.insts⟩
theorem of2_c (m : FlowMod) (h : FOk (FlowMod.flow m)) : FnP Tryz.prog 80 [.agg m.enc] (.agg (FlowMod.flow m).enc) := by
 refine FnP.i Tryz.func80 rfl rfl fun G w => ?_
 repeat (first | apply WK.s | apply WK.b | apply WK.n | apply WK.k | apply WK.label | apply WK.scope | apply WK.inScope | refine WK.exit rfl ?_)
 first | refine WK.g 100 Tryz.ntmps80 (by kernel_rfl) ?_ | refine WK.regD 100 clsOf (by kernel_rfl) Tryz.ntmps80 (by kernel_rfl) (by kernel_rfl) ?_
 intro A hA Q hQ
 simp
 apply hQ
 clear hQ hA
 repeat (first | apply WK.s | apply WK.b | apply WK.n | apply WK.k | apply WK.label | apply WK.scope | apply WK.inScope | refine WK.exit rfl ?_)
 first | refine WK.g 200 Tryz.ntmps80 (by kernel_rfl) ?_ | refine WK.regD 200 clsOf (by kernel_rfl) Tryz.ntmps80 (by kernel_rfl) (by kernel_rfl) ?_
 intro A hA Q hQ
 simp [FlowMod.enc]
 refine RunQ.call rfl rfl rfl rfl (by rfl) (by simp (maxDischargeDepth := 120) [oxmS, FlowMod.enc]) (clone_oxm m.mat h.mat) (by simp [oxmS, FlowMod.enc]) ?_
 refine RunQ.eval ?_
 simp [oxmS, FlowMod.enc]
 refine RunQ.call rfl rfl rfl rfl (by rfl) (by simp (maxDischargeDepth := 120) [instS, oxmS, FlowMod.enc]) (copies_c m.insts h.insts) (by simp [instS, oxmS, FlowMod.enc]) ?_
 refine RunQ.eval ?_
 simp [instS, oxmS, FlowMod.enc]
 apply hQ
 clear hQ hA
 repeat (first | apply WK.s | apply WK.b | apply WK.n | apply WK.k | apply WK.label | apply WK.scope | apply WK.inScope | refine WK.exit rfl ?_)
 refine WK.t Tryz.func80 (by simp (maxDischargeDepth := 120) [Tryz.results80, FlowMod.flow, Flow.enc]) (by simp [FlowMod.flow, Flow.enc])

structure FPl (f : Flow) : Prop where
 ok : FOk f
 acts : (allI id f.insts).length ≤ 1000000

def bI (b : BitVec 8) : Int := b.toNat
def byL (l : List (BitVec 8)) : List AV := l.map fun b => .int .u8 (bI b)
def byS (l : List (BitVec 8)) : AV := .sl false l.length (byL l)
@[simp] theorem byL_len (l : List (BitVec 8)) : (byL l).length = l.length := by simp [byL]
@[simp] theorem byL_cl (l : List (BitVec 8)) : ClL (byL l) = true := by
 induction l with
 | nil => rfl
 | cons x l ih => simp only [byL, List.map_cons, ClL, Cl, Bool.true_and]; exact ih
@[simp] theorem byS_cl (l : List (BitVec 8)) : Cl (byS l) = true := by simp [byS, Cl]
theorem byL_app (a b : List (BitVec 8)) : byL (a ++ b) = byL a ++ byL b := by simp [byL]
theorem b0_ : byL [] = [] := rfl
theorem byL_drop (l : List (BitVec 8)) (n : Nat) : (byL l).drop n = byL (l.drop n) := by simp [byL]
theorem byL_take (l : List (BitVec 8)) (n : Nat) : (byL l).take n = byL (l.take n) := by simp [byL]
theorem by_full (l : List (BitVec 8)) (n : Nat) (h : n = l.length) : (byL l).take n = byL l := List.take_of_length_le (by simp [h])
theorem appByte : AppOk Tryz.prog 68 5 1 1 := ⟨by simp, by simp, by simp, by simp, by simp, by simp, by omega, by omega⟩
theorem bI_lt (b : BitVec 8) : 0 ≤ bI b ∧ bI b < 256 := by unfold bI; have := b.isLt; omega
theorem bI_of (x : Int) : bI (BitVec.ofInt 8 x) = x % 256 := by
 unfold bI
 rw [BitVec.toNat_ofInt]
 have : 0 ≤ x % 256 := Int.emod_nonneg _ (by decide)
 omega
theorem wrap_u8 (x : Int) : IntKind.wrap .u8 x = bI (BitVec.ofInt 8 x) := by
 rw [bI_of]
 unfold IntKind.wrap
 show (if (false && decide (x % 256 ≥ 128)) = true then x % 256 - 256 else x % 256) = x % 256
 rw [Bool.false_and, if_neg Bool.false_ne_true]
def numOk (n : Int) (s : Nat) : Bool := decide (0 ≤ n) && decide (n < 256 ^ s)
def Sz (s : Nat) : Prop := s = 1 ∨ s = 2 ∨ s = 4
theorem sized_c (s : Nat) (hs : Sz s) : FnP Tryz.prog 130 [.int .i64 s] (.bool true) := by
 rcases hs with rfl | rfl | rfl <;>
 · refine FnP.i Tryz.func130 rfl rfl fun G w => ?_
   repeat apply WK.s
   refine WK.g 100 Tryz.ntmps130 (by kernel_rfl) ?_
   intro A hA Q hQ
   simp
   apply hQ
   clear hQ hA
   repeat apply WK.s
   refine WK.g 200 Tryz.ntmps130 (by kernel_rfl) ?_
   intro A hA Q hQ
   have hg2 : (A[2]?).bind (·.dst) = some 5 := by rw [hA]; rfl
   have hg6 : (A[6]?).bind (·.dst) = some 9 := by rw [hA]; rfl
   simp [hg2, hg6]
   apply hQ
   clear hQ hA
   refine WK.t Tryz.func130 (by simp (maxDischargeDepth := 120) [Tryz.results130]) (by simp)
theorem shr_i64 (n : Int) (k : Nat) (hk : k ≤ 64) : bShr .i64 n k = n / 2 ^ k := by
 unfold bShr
 have : min (Int.toNat (k : Int)) (IntKind.bits .i64) = k := by show min (Int.toNat (k : Int)) 64 = k; omega
 rw [this, Int.fdiv_eq_ediv_of_nonneg _ (by exact Int.le_of_lt (Int.pow_pos (by decide)))]
theorem shr_zero (n : Int) (s : Nat) (h0 : 0 ≤ n) : (n / 2 ^ (8 * s) == 0) = decide (n < 256 ^ s) := by
 have hp : (2 : Int) ^ (8 * s) = 256 ^ s := by rw [Int.pow_mul]; rfl
 rw [hp]
 have hpos : (0 : Int) < 256 ^ s := Int.pow_pos (by decide)
 rw [Bool.eq_iff_iff, beq_iff_eq, decide_eq_true_eq]
 constructor
 · intro h
   have := Int.lt_ediv_add_one_mul_self n hpos
   rw [h] at this; omega
 · intro h; exact Int.ediv_eq_zero_of_lt h0 h
theorem nright_c (n : Int) (s : Nat) (hs : Sz s) : FnP Tryz.prog 76 [.int .i64 n, .int .i64 s] (.bool (numOk n s)) := by
 have hsz := sized_c s hs
 have hs4 : s ≤ 4 := by rcases hs with rfl | rfl | rfl <;> omega
 have w8 : IntKind.i64.wrap (8 * (s : Int)) = 8 * (s : Int) := by
   rcases hs with rfl | rfl | rfl <;> rfl
 have hsh : bShr .i64 n (8 * (s : Int)) = n / 2 ^ (8 * s) := by
   have := shr_i64 n (8 * s) (by omega)
   rw [← this]; congr 1
 have hnn : ¬ (8 * (s : Int) < 0) := by omega
 cases k : decide (0 ≤ n)
 · refine FnP.i Tryz.func76 rfl rfl fun G w => ?_
   repeat apply WK.s
   refine WK.g 100 Tryz.ntmps76 (by kernel_rfl) ?_
   intro A hA Q hQ
   simp
   apply hQ
   clear hQ hA
   repeat apply WK.s
   refine WK.g 200 Tryz.ntmps76 (by kernel_rfl) ?_
   intro A hA Q hQ
   have hg2 : (A[2]?).bind (·.dst) = some 7 := by rw [hA]; rfl
   have hg6 : (A[6]?).bind (·.dst) = some 11 := by rw [hA]; rfl
   simp [hg2, hg6]
   refine RunQ.call rfl rfl rfl rfl (by rfl) (by simp (maxDischargeDepth := 120) [hg2, hg6, k]) (hsz) (by simp [hg2, hg6, k]) ?_
   refine RunQ.eval ?_
   simp [hg2, hg6, k]
   apply hQ
   clear hQ hA
   refine WK.t Tryz.func76 (by simp (maxDischargeDepth := 120) [Tryz.results76, numOk, k]) (by simp [numOk, k])
 · have h0 := shr_zero n s (of_decide_eq_true k)
   refine FnP.i Tryz.func76 rfl rfl fun G w => ?_
   repeat apply WK.s
   refine WK.g 100 Tryz.ntmps76 (by kernel_rfl) ?_
   intro A hA Q hQ
   simp
   apply hQ
   clear hQ hA
   repeat apply WK.s
   refine WK.g 200 Tryz.ntmps76 (by kernel_rfl) ?_
   intro A hA Q hQ
   have hg2 : (A[2]?).bind (·.dst) = some 7 := by rw [hA]; rfl
   have hg6 : (A[6]?).bind (·.dst) = some 11 := by rw [hA]; rfl
   simp [hg2, hg6]
   refine RunQ.call rfl rfl rfl rfl (by rfl) (by simp (maxDischargeDepth := 120) [hg2, hg6, k, w8, hsh, h0, hnn]) (hsz) (by simp [hg2, hg6, k, w8, hsh, h0, hnn]) ?_
   refine RunQ.eval ?_
   simp [hg2, hg6, k, w8, hsh, h0, hnn]
   apply hQ
   clear hQ hA
   refine WK.t Tryz.func76 (by simp (maxDischargeDepth := 120) [Tryz.results76, numOk, k]) (by simp [numOk, k])
def beN (n : Int) (s : Nat) : List (BitVec 8) := (List.range s).map fun i => BitVec.ofInt 8 (n / 2 ^ (8 * (s - 1 - i)))
theorem beN_len (n : Int) (s : Nat) : (beN n s).length = s := by simp [beN]
def putN (b : List (BitVec 8)) (n : Int) (s : Nat) : List (BitVec 8) := if numOk n s then b ++ beN n s else b
def fourAt (n : Int) (i : Nat) : List (BitVec 8) := (List.range 4).map fun j => if j < i then BitVec.ofInt 8 (n / 2 ^ (24 - 8 * j)) else 0#8
theorem fourAt_zero (n : Int) : byL (fourAt n 0) = [.int .u8 0, .int .u8 0, .int .u8 0, .int .u8 0] := rfl
theorem fourAt_set (n : Int) (i : Nat) (h : i < 4) : (byL (fourAt n i)).take i ++ .int .u8 (bI (BitVec.ofInt 8 (n / 2 ^ (24 - 8 * i)))) :: (byL (fourAt n i)).drop (i + 1) = byL (fourAt n (i + 1)) := by
 match i, h with
 | 0, _ => rfl
 | 1, _ => rfl
 | 2, _ => rfl
 | 3, _ => rfl
theorem fourAt_len (n : Int) (i : Nat) : (fourAt n i).length = 4 := by simp [fourAt]
theorem four_drop (n : Int) (s : Nat) (hs : Sz s) : (fourAt n 4).drop (4 - s) = beN n s := by
 rcases hs with rfl | rfl | rfl <;> rfl
set_option maxHeartbeats 2000000 in
theorem nput_c (b : List (BitVec 8)) (n : Int) (s : Nat) (hs : Sz s) (hb : b.length ≤ 1000000) : FnO Tryz.prog 68 [byS b, .int .i64 n, .int .i64 s] (putN b n s).length 1 (byL (putN b n s)) := by
 have hr := nright_c n s hs
 have hs4 : s ≤ 4 := by rcases hs with rfl | rfl | rfl <;> omega
 have hs1 : 1 ≤ s := by rcases hs with rfl | rfl | rfl <;> omega
 have hf := by_full b b.length rfl
 unfold byS
 cases k : numOk n s
 · have e : putN b n s = b := by unfold putN; rw [k]; rfl
   have hbd : b.length ≤ 140737488355328 := by omega
   rw [e]
   refine FnO.intro Tryz.func68 rfl rfl fun G w => ?_
   repeat apply WK.s
   refine WK.g 100 Tryz.ntmps68 (by kernel_rfl) ?_
   intro A hA Q hQ
   simp
   apply hQ
   clear hQ hA
   repeat apply WK.s
   refine WK.g 200 Tryz.ntmps68 (by kernel_rfl) ?_
   intro A hA Q hQ
   simp
   refine RunQ.call rfl rfl rfl rfl (by rfl) (by simp (maxDischargeDepth := 120) [k]) (hr) (by simp [k]) ?_
   refine RunQ.eval ?_
   simp [k]
   apply hQ
   clear hQ hA
   refine WK.c2 rfl (fun h => ?_) (fun h => ?_)
   · repeat apply WK.s
     refine WK.g 300 Tryz.ntmps68 (by kernel_rfl) ?_
     intro A hA Q hQ
     simp
     refine RunQ.append0 900 901 appByte rfl rfl rfl rfl rfl rfl rfl (by simp [hbd]) (by simp [hbd]) (by simp [hbd]) (by simp [hbd]) (by simp [hbd]) (by simp [hbd]) (by simp) ?_
     refine RunQ.eval ?_
     simp [hbd]
     apply hQ
     clear hQ hA
     refine WK.retO Tryz.func68 (by rfl) (by rfl) (by simp (maxDischargeDepth := 120) [hf]) (by simp [hf])
   · cases h
 · have e : putN b n s = b ++ beN n s := by unfold putN; rw [k]; rfl
   rw [e]
   refine FnO.intro Tryz.func68 rfl rfl fun G w => ?_
   repeat apply WK.s
   refine WK.g 100 Tryz.ntmps68 (by kernel_rfl) ?_
   intro A hA Q hQ
   simp
   apply hQ
   clear hQ hA
   repeat apply WK.s
   refine WK.g 200 Tryz.ntmps68 (by kernel_rfl) ?_
   intro A hA Q hQ
   simp
   refine RunQ.call rfl rfl rfl rfl (by rfl) (by simp (maxDischargeDepth := 120) [k]) (hr) (by simp [k]) ?_
   refine RunQ.eval ?_
   simp [k]
   apply hQ
   clear hQ hA
   refine WK.c2 rfl (fun h => ?_) (fun h => ?_)
   · cases h
   repeat (first | apply WK.s | apply WK.k)
   refine WK.g 300 Tryz.ntmps68 (by kernel_rfl) ?_
   intro A hA Q hQ
   simp
   apply hQ
   clear hQ hA
   repeat apply WK.s
   refine WK.g 400 Tryz.ntmps68 (by kernel_rfl) ?_
   intro A hA Q hQ
   simp
   apply hQ
   clear hQ hA
   repeat (apply WK.b)
   refine WK.lI (fun _ => 200) (fun i : Nat => (⟨(upd (upd (upd (upd (upd J 0 (.sl false b.length (byL b))) 1 (.int .i64 n)) 2 (.int .i64 s)) 7 (.ptr 1 0)) 15 (.int .i64 i)), (upd B0 1 (.var (byL (fourAt n i)))), 0⟩ : St)) (fun i => i ≤ 4) (fun i => 4 - i) (0) (by repeat (first | exact TmW.nil | refine TmW.upd ?_ (by simp (maxDischargeDepth := 120) [fourAt_zero]))) (by repeat (first | exact BxW.nil | refine BxW.upd ?_ (by simp (maxDischargeDepth := 120) [fourAt_zero]))) (by first | exact InjW.id | exact InjW.nil | exact InjW.one | exact InjW.two (by simp) | exact InjW.three (by simp) (by simp) (by simp)) (by omega) (fun i hi IH => ?_)
   repeat apply WK.s
   refine WK.g 500 Tryz.ntmps68 (by kernel_rfl) ?_
   intro A hA Q hQ
   simp
   apply hQ
   clear hQ hA
   repeat apply WK.s
   refine WK.c2 rfl (fun h1 => ?_) (fun h1 => ?_)
   · simp at h1
     have h2 : i < 4 := by omega
     have h6 : IntKind.i64.wrap ((i : Int) + 1) = i + 1 := wrap_i64 (by omega) (by omega)
     have m1 : IntKind.i64.wrap (8 * (i : Int)) = 8 * (i : Int) := wrap_i64 (by omega) (by omega)
     have m2 : IntKind.i64.wrap (24 - 8 * (i : Int)) = ((24 - 8 * i : Nat) : Int) := by rw [wrap_i64 (by omega) (by omega)]; omega
     have m3 := shr_i64 n (24 - 8 * i) (by omega)
     have m4 : ¬ ((24 - 8 * i : Nat) : Int) < 0 := by omega
     have m5 := wrap_u8 (n / 2 ^ (24 - 8 * i))
     have hset := fourAt_set n i h2
     have hfl := fourAt_len n i
     have b1 : (i : Int) < 4 := by omega
     have b2 : i + 1 ≤ 4 := by omega
     repeat (first | apply WK.s | apply WK.b | apply WK.k)
     refine WK.g 600 Tryz.ntmps68 (by kernel_rfl) ?_
     intro A hA Q hQ
     simp
     apply hQ
     clear hQ hA
     obtain ⟨q, hq⟩ : ∃ q, q = 24 - 8 * i := ⟨_, rfl⟩
     rw [← hq] at m2 m3 m4 m5 hset
     refine WK.g 700 Tryz.ntmps68 (by kernel_rfl) ?_
     intro A hA Q hQ
     simp [m1, m2, m3, m4, m5, h2, hset, hfl, b1, b2]
     apply hQ
     clear hQ hA
     repeat (apply WK.n)
     refine WK.g 800 Tryz.ntmps68 (by kernel_rfl) ?_
     intro A hA Q hQ
     simp [h6]
     apply hQ
     clear hQ hA
     refine WK.next (fun n => n) (IH (i + 1) (by omega) (by first | omega | (dsimp only; omega))) (by repeat (first | exact TmW.nil | refine TmW.upd ?_ (by simp (maxDischargeDepth := 120) [h6]))) (by repeat (first | exact BxW.nil | refine BxW.upd ?_ (by simp (maxDischargeDepth := 120) [h6]))) InjW.id
   · simp at h1
     have hi4 : i = 4 := by omega
     subst hi4
     repeat (first | apply WK.s | refine WK.exit rfl ?_)
     refine WK.ghost (Ghost.frzVar 7 rfl rfl) ?_
     have m1 : IntKind.i64.wrap (4 - (s : Int)) = ((4 - s : Nat) : Int) := by rw [wrap_i64 (by omega) (by omega)]; omega
     have m2 : (4 - s : Nat) ≤ 4 := by omega
     have m3 : 4 - (4 - s) = s := by omega
     have m4 := four_drop n s hs
     have m5 : (byL (fourAt n 4)).drop (4 - s) = byL (beN n s) := by rw [byL_drop, m4]
     have m6 : (byL (beN n s)).take s = byL (beN n s) := by_full _ _ (beN_len n s).symm
     obtain ⟨q, hq⟩ : ∃ q, q = 4 - s := ⟨_, rfl⟩
     rw [← hq] at m1 m2 m3 m5
     have hl1 : (beN n s).length = s := beN_len n s
     have hs63 : s ≤ 140737488355328 := by omega
     have c1 : (q : Int) ≤ 4 := by omega
     have hbd : (b.length + s) * 1 ≤ 140737488355328 := by omega
     by_cases hb0 : b = []
     · subst hb0
       rw [List.nil_append, hl1]
       refine WK.regD 900 clsOf (by kernel_rfl) Tryz.ntmps68 (by kernel_rfl) (by kernel_rfl) ?_
       intro A hA Q hQ
       simp [m1, m2, m3, m5, m6, c1, b0_]
       refine RunQ.append0 900 901 appByte rfl rfl rfl rfl rfl rfl rfl (by simp [hs63, hl1, m6]) (by simp [hs63, hl1, m6]) (by simp [hs63, hl1, m6]) (by simp [hs63, hl1, m6]) (by simp [hs63, hl1, m6]) (by simp [hs63, hl1, m6]) (by simp) ?_
       refine RunQ.eval ?_
       simp [hs63, hl1, m6]
       apply hQ
       clear hQ hA
       refine WK.retO Tryz.func68 (by rfl) (by rfl) (by simp (maxDischargeDepth := 120) [m6]) (by simp [m6])
     · have hbp : 0 < b.length := List.length_pos_iff.2 hb0
       rw [List.length_append, hl1]
       refine WK.regD 1000 clsOf (by kernel_rfl) Tryz.ntmps68 (by kernel_rfl) (by kernel_rfl) ?_
       intro A hA Q hQ
       simp [m1, m2, m3, m5, m6, c1, hf]
       refine RunQ.appendF 901 appByte rfl rfl rfl rfl rfl rfl (by simp [hbd, hl1, m6, hf]) rfl (by first | omega | simp [hbd, hl1, m6, hf]) (by first | omega | simp [hbd, hl1, m6, hf]) (by simp [hbd, hl1, m6, hf]) (by simp [hbd, hl1, m6, hf]) (by first | omega | simp [hbd, hl1, m6, hf]) (by simp) ?_
       refine RunQ.eval ?_
       simp [hbd, hl1, m6, hf]
       apply hQ
       clear hQ hA
       refine WK.retO Tryz.func68 (by rfl) (by rfl) (by simp (maxDischargeDepth := 120) [byL_app, hf, m6, hl1]) (by simp [byL_app, hf, m6, hl1])
end Go.Proofs.YtmhapglejjehbaaGreat

namespace Go.Proofs.YtmhapglejjehbaaGreat
open Go Go.AI Go.Proofs Go.Proofs.YtmhapglejjehbaaGreat
theorem allP4 {p q r s : AV → Prop} {xs : List AV} (h : AllP [p, q, r, s] xs) : ∃ x y z u, xs = [x, y, z, u] ∧ p x ∧ q y ∧ r z ∧ s u := by
 match xs, h with
 | [x, y, z, u], ⟨h0, h1, h2, h3, _⟩ => exact ⟨x, y, z, u, rfl, h0, h1, h2, h3⟩

theorem rdV_u8 {P : Program} {t : TypeId} (ht : P.underlying t = some (.int .u8)) : RdV P t (fun a => ∃ n : BitVec 8, a = .int .u8 (bI n)) := by
 intro H enc W base v d q hok h
 obtain ⟨fuel, h⟩ := h
 have hc : v.cells.toList = [v] := by
   unfold Value.okWide at hok
   rw [ht] at hok
   cases v <;> first | rfl | (simp [Cell.okWide, ht] at hok; done) | skip
   all_goals simp [Cell.okWide, Cell.ok, ht] at hok
 rw [hc] at h
 obtain ⟨n, e1⟩ := rd_u8 ht h
 simp only [List.cons.injEq, and_true] at e1
 subst e1
 exact ⟨_, ⟨n, rfl⟩, by simp [Rel, bI]⟩
theorem rdvByte : RdV Tryz.prog 5 (fun a => ∃ n : BitVec 8, a = .int .u8 (bI n)) := rdV_u8 Tryz.underlying5
end Go.Proofs.YtmhapglejjehbaaGreat

namespace Go.Proofs.YtmhapglejjehbaaGreat
open Go Go.AI Go.Proofs
def valN (l : List (BitVec 8)) : Nat := l.foldl (fun n x => n * 256 + x.toNat) 0
theorem valN_snoc (l : List (BitVec 8)) (x : BitVec 8) : valN (l ++ [x]) = valN l * 256 + x.toNat := by simp [valN]
theorem valN_lt : ∀ (k : Nat) (l : List (BitVec 8)), l.length = k → valN l < 256 ^ k
 | 0, l, h => by rw [List.eq_nil_of_length_eq_zero h]; decide
 | k + 1, l, h => by
   have hne : l ≠ [] := by intro e; subst e; simp at h
   rw [← List.dropLast_concat_getLast hne, valN_snoc]
   have := valN_lt k l.dropLast (by rw [List.length_dropLast]; omega)
   have := (l.getLast hne).isLt
   rw [Nat.pow_succ]
   omega
def getN (b : List (BitVec 8)) (p s : Nat) : Int × Int := if p + s ≤ b.length then (valN ((b.drop p).take s), 0) else (0, 3)

def fID (f : Int) : Int := (fRow f).1
def fMasks (f : Int) : Bool := (fRow f).2.2
def fSize (f : Int) : Nat := ((fBits f).toNat + 7) / 8
theorem fRow_ok (f : Int) : (-1 ≤ (fRow f).1 ∧ (fRow f).1 ≤ 34) ∧ 0 ≤ (fRow f).2.1 ∧ (fRow f).2.1 ≤ 128 := by
 unfold fRow
 split
 · have h : f.toNat < fRows.length := by show f.toNat < 24; omega
   have : ∀ r, r ∈ fRows → (-1 ≤ r.1 ∧ r.1 ≤ 34) ∧ 0 ≤ r.2.1 ∧ r.2.1 ≤ 128 := by decide
   exact this _ (nth_mem h)
 · decide
theorem fSize_le (f : Int) : fSize f ≤ 16 := by
 have := fRow_ok f
 unfold fSize fBits; omega
theorem fid_c (f : Int) : FnP Tryz.prog 181 [.int .i64 f] (.int .i64 (fID f)) := by
 refine FnP.i Tryz.func181 rfl rfl fun G w => ?_
 repeat apply WK.s
 refine WK.g 100 Tryz.ntmps181 (by kernel_rfl) ?_
 intro A hA Q hQ
 simp
 apply hQ
 clear hQ hA
 repeat apply WK.s
 refine WK.g 200 Tryz.ntmps181 (by kernel_rfl) ?_
 intro A hA Q hQ
 simp
 refine RunQ.call rfl rfl rfl rfl (by rfl) (by simp (maxDischargeDepth := 120) [rowEnc]) (fat_c f) (by simp [rowEnc]) ?_
 refine RunQ.eval ?_
 simp [rowEnc]
 apply hQ
 clear hQ hA
 refine WK.t Tryz.func181 (by simp (maxDischargeDepth := 120) [Tryz.results181, fID]) (by simp [fID])
theorem fmasks_c (f : Int) : FnP Tryz.prog 211 [.int .i64 f] (.bool (fMasks f)) := by
 refine FnP.i Tryz.func211 rfl rfl fun G w => ?_
 repeat apply WK.s
 refine WK.g 100 Tryz.ntmps211 (by kernel_rfl) ?_
 intro A hA Q hQ
 simp
 apply hQ
 clear hQ hA
 repeat apply WK.s
 refine WK.g 200 Tryz.ntmps211 (by kernel_rfl) ?_
 intro A hA Q hQ
 simp
 refine RunQ.call rfl rfl rfl rfl (by rfl) (by simp (maxDischargeDepth := 120) [rowEnc]) (fat_c f) (by simp [rowEnc]) ?_
 refine RunQ.eval ?_
 simp [rowEnc]
 apply hQ
 clear hQ hA
 refine WK.t Tryz.func211 (by simp (maxDischargeDepth := 120) [Tryz.results211, fMasks]) (by simp [fMasks])
theorem fsize_c (f : Int) : FnP Tryz.prog 179 [.int .i64 f] (.int .i64 (fSize f)) := by
 have h := (fRow_ok f).2
 have h1 : IntKind.i64.wrap ((fRow f).2.1 + 7) = (fRow f).2.1 + 7 := wrap_i64 (by omega) (by omega)
 have h2 : bShr .i64 ((fRow f).2.1 + 7) 3 = fSize f := by
   have := shr_i64 ((fRow f).2.1 + 7) 3 (by omega)
   rw [show ((3 : Nat) : Int) = 3 from rfl] at this
   rw [this, show (2 : Int) ^ 3 = 8 from rfl]
   unfold fSize fBits; omega
 refine FnP.i Tryz.func179 rfl rfl fun G w => ?_
 repeat apply WK.s
 refine WK.g 100 Tryz.ntmps179 (by kernel_rfl) ?_
 intro A hA Q hQ
 simp
 apply hQ
 clear hQ hA
 repeat apply WK.s
 refine WK.g 200 Tryz.ntmps179 (by kernel_rfl) ?_
 intro A hA Q hQ
 simp
 refine RunQ.call rfl rfl rfl rfl (by rfl) (by simp (maxDischargeDepth := 120) [rowEnc, h1, h2]) (fat_c f) (by simp [rowEnc, h1, h2]) ?_
 refine RunQ.eval ?_
 simp [rowEnc, h1, h2]
 apply hQ
 clear hQ hA
 refine WK.t Tryz.func179 (by simp (maxDischargeDepth := 120) [Tryz.results179]) (by simp)
def fIndexN (id : Int) (n : Nat) : Option Nat := (List.range n).find? fun f => (nth fRows f).1 == id
def fIndex (id : Int) : Int × Bool := match fIndexN id 24 with | some f => (f, true) | none => (0, false)
theorem fRow_nat (i : Nat) (h : i < 24) : fRow i = nth fRows i := by unfold fRow; rw [if_pos (by omega)]; rfl

def hb (x : BitVec 64) (k : Nat) : BitVec 8 := (x >>> k).setWidth 8
theorem wrap_u8u (x : BitVec 64) : IntKind.wrap .u8 (uI x) = bI (x.setWidth 8) := by
 rw [wrap_u8, bI_of]; unfold bI uI; rw [BitVec.toNat_setWidth]; omega
theorem shr_uI (x : BitVec 64) (k : Nat) (hk : k ≤ 64) : bShr .u64 (uI x) k = uI (x >>> k) := by
 unfold bShr
 have : min (Int.toNat (k : Int)) (IntKind.bits .u64) = k := by show min (Int.toNat (k : Int)) 64 = k; omega
 rw [this, Int.fdiv_eq_ediv_of_nonneg _ (by exact Int.le_of_lt (Int.pow_pos (by decide)))]
 unfold uI
 rw [BitVec.toNat_ushiftRight, Nat.shiftRight_eq_div_pow]
 simp
theorem by_set (l : List (BitVec 8)) (i : Nat) (v : BitVec 8) (h : i < l.length) : (byL l).take i ++ .int .u8 (bI v) :: (byL l).drop (i + 1) = byL (l.set i v) := by
 unfold byL
 rw [List.map_set, List.set_eq_take_append_cons_drop]
 simp [h]
def wBytes (a : Wide) : List (BitVec 8) := (List.range 16).map fun j => if j < 8 then hb a.hi (56 - 8 * j) else hb a.lo (56 - 8 * (j - 8))
def wAt (a : Wide) (i : Nat) : List (BitVec 8) := (List.range 16).map fun j => if j < 8 then (if j < i then hb a.hi (56 - 8 * j) else 0#8) else (if j - 8 < i then hb a.lo (56 - 8 * (j - 8)) else 0#8)
theorem wAt_len (a : Wide) (i : Nat) : (wAt a i).length = 16 := by simp [wAt]
theorem wAt_zero (a : Wide) : byL (wAt a 0) = List.replicate 16 (.int .u8 0) := rfl
theorem wAt_eight (a : Wide) : wAt a 8 = wBytes a := rfl
theorem wAt_succ (a : Wide) (i : Nat) (h : i < 8) : ((wAt a i).set i (hb a.hi (56 - 8 * i))).set (8 + i) (hb a.lo (56 - 8 * i)) = wAt a (i + 1) := by
 match i, h with
 | 0, _ => rfl
 | 1, _ => rfl
 | 2, _ => rfl
 | 3, _ => rfl
 | 4, _ => rfl
 | 5, _ => rfl
 | 6, _ => rfl
 | 7, _ => rfl
def wPut (b : List (BitVec 8)) (a : Wide) (s : Nat) : List (BitVec 8) := b ++ (wBytes a).drop (16 - s)
theorem wBytes_len (a : Wide) : (wBytes a).length = 16 := by simp [wBytes]
theorem wPut_len (b : List (BitVec 8)) (a : Wide) (s : Nat) (h : s ≤ 16) : (wPut b a s).length = b.length + s := by simp [wPut, wBytes_len]; omega
set_option maxHeartbeats 4000000 in
theorem wput_c (b : List (BitVec 8)) (a : Wide) (s : Nat) (hs : s ≤ 16) (hb' : b.length ≤ 1000000) : FnO Tryz.prog 180 [byS b, .agg a.enc, .int .i64 s] (wPut b a s).length 1 (byL (wPut b a s)) := by
 have hf := by_full b b.length rfl
 have hbd : b.length ≤ 140737488355328 := by omega
 have hz := wAt_zero a
 rw [wPut_len b a s hs]
 unfold byS
 refine FnO.intro Tryz.func180 rfl rfl fun G w => ?_
 repeat apply WK.s
 refine WK.g 100 Tryz.ntmps180 (by kernel_rfl) ?_
 intro A hA Q hQ
 simp
 apply hQ
 clear hQ hA
 repeat apply WK.s
 refine WK.ghost (Ghost.frzVar 4 rfl rfl) ?_
 refine WK.g 200 Tryz.ntmps180 (by kernel_rfl) ?_
 intro A hA Q hQ
 simp
 apply hQ
 clear hQ hA
 repeat apply WK.s
 refine WK.g 300 Tryz.ntmps180 (by kernel_rfl) ?_
 intro A hA Q hQ
 simp
 apply hQ
 clear hQ hA
 repeat (apply WK.b)
 refine WK.lI (fun _ => 100) (fun i : Nat => (⟨(upd (upd (upd (upd (upd J 0 (.sl false b.length (byL b))) 2 (.int .i64 s)) 4 (.iptr a.enc)) 7 (.ptr 1 0)) 10 (.int .i64 i)), (upd B0 1 (.var (byL (wAt a i)))), 0⟩ : St)) (fun i => i ≤ 8) (fun i => 8 - i) (0) (by repeat (first | exact TmW.nil | refine TmW.upd ?_ (by simp (maxDischargeDepth := 120) [hz]))) (by repeat (first | exact BxW.nil | refine BxW.upd ?_ (by simp (maxDischargeDepth := 120) [hz]))) (by first | exact InjW.id | exact InjW.nil | exact InjW.one | exact InjW.two (by simp) | exact InjW.three (by simp) (by simp) (by simp)) (by omega) (fun i hi IH => ?_)
 repeat apply WK.s
 refine WK.g 400 Tryz.ntmps180 (by kernel_rfl) ?_
 intro A hA Q hQ
 simp
 apply hQ
 clear hQ hA
 repeat apply WK.s
 refine WK.c2 rfl (fun h1 => ?_) (fun h1 => ?_)
 · simp at h1
   have h2 : i < 8 := by omega
   have h2' : (i : Int) < 16 := by omega
   have h6 : IntKind.i64.wrap ((i : Int) + 1) = i + 1 := wrap_i64 (by omega) (by omega)
   have m0 : IntKind.i64.wrap (8 + (i : Int)) = 8 + (i : Int) := wrap_i64 (by omega) (by omega)
   have m1 : IntKind.i64.wrap (8 * (i : Int)) = 8 * (i : Int) := wrap_i64 (by omega) (by omega)
   have m2 : IntKind.i64.wrap (56 - 8 * (i : Int)) = ((56 - 8 * i : Nat) : Int) := by rw [wrap_i64 (by omega) (by omega)]; omega
   have hsu := wAt_succ a i h2
   obtain ⟨q, hq⟩ : ∃ q, q = 56 - 8 * i := ⟨_, rfl⟩
   rw [← hq] at m2 hsu
   have m3 := shr_uI a.hi q (by omega)
   have m4 := shr_uI a.lo q (by omega)
   have m5 : IntKind.wrap .u8 (uI (a.hi >>> q)) = bI (hb a.hi q) := wrap_u8u _
   have m6 : IntKind.wrap .u8 (uI (a.lo >>> q)) = bI (hb a.lo q) := wrap_u8u _
   have hl := wAt_len a i
   have s1 := by_set (wAt a i) i (hb a.hi q) (by omega)
   have s2 := by_set ((wAt a i).set i (hb a.hi q)) (8 + i) (hb a.lo q) (by rw [List.length_set]; omega)
   rw [hsu] at s2
   have c1 : (8 : Int) + i < 16 := by omega
   have c2 : ((8 : Int) + i).toNat = 8 + i := by omega
   have c3 : (0 : Int) ≤ 8 + (i : Int) := by omega
   have m7 : ¬ (q : Int) < 0 := by omega
   have c4 : i + 1 ≤ 16 := by omega
   have c5 : 8 + i + 1 ≤ 16 := by omega
   repeat (first | apply WK.s | apply WK.b | apply WK.k)
   refine WK.g 500 Tryz.ntmps180 (by kernel_rfl) ?_
   intro A hA Q hQ
   simp
   apply hQ
   clear hQ hA
   refine WK.regD 600 (clsM [(16, 77), (23, 77), (30, 1), (31, 1)]) (by kernel_rfl) Tryz.ntmps180 (by kernel_rfl) (by kernel_rfl) ?_
   intro A hA Q hQ
   simp [Wide.enc, m0, m1, m2, m3, m4, m5, m6, m7, h2, h2', hl, s1, s2, c1, c2, c3, c4, c5]
   apply hQ
   clear hQ hA
   repeat (apply WK.n)
   refine WK.g 700 Tryz.ntmps180 (by kernel_rfl) ?_
   intro A hA Q hQ
   simp [h6]
   apply hQ
   clear hQ hA
   refine WK.next (fun n => n) (IH (i + 1) (by omega) (by first | omega | (dsimp only; omega))) (by repeat (first | exact TmW.nil | refine TmW.upd ?_ (by simp (maxDischargeDepth := 120) [h6, Wide.enc]))) (by repeat (first | exact BxW.nil | refine BxW.upd ?_ (by simp (maxDischargeDepth := 120) [h6, Wide.enc]))) InjW.id
 · simp at h1
   have hi8 : i = 8 := by omega
   subst hi8
   rw [wAt_eight]
   repeat (first | apply WK.s | refine WK.exit rfl ?_)
   refine WK.ghost (Ghost.frzVar 7 rfl rfl) ?_
   refine WK.g 800 Tryz.ntmps180 (by kernel_rfl) ?_
   intro A hA Q hQ
   simp
   refine RunQ.append0 900 901 appByte rfl rfl rfl rfl rfl rfl rfl (by simp [hbd]) (by simp [hbd]) (by simp [hbd]) (by simp [hbd]) (by simp [hbd]) (by simp [hbd]) (by simp) ?_
   refine RunQ.eval ?_
   simp [hbd]
   apply hQ
   clear hQ hA
   obtain ⟨q, hq⟩ : ∃ q, q = 16 - s := ⟨_, rfl⟩
   have mx : ¬ (s : Int) < 0 := by omega
   have mn : ¬ (16 : Int) < s := by omega
   have m1 : IntKind.i64.wrap (16 - (s : Int)) = (q : Int) := by rw [wrap_i64 (by omega) (by omega)]; omega
   have m2 : (q : Int) ≤ 16 := by omega
   have m3 : 16 - q = s := by omega
   have hwl := wBytes_len a
   have hdl : ((wBytes a).drop q).length = s := by rw [List.length_drop, hwl]; omega
   have m5 : (byL (wBytes a)).drop q = byL ((wBytes a).drop q) := byL_drop _ _
   have m6 : (byL ((wBytes a).drop q)).take s = byL ((wBytes a).drop q) := by_full _ _ hdl.symm
   have e : wPut b a s = b ++ (wBytes a).drop q := by unfold wPut; rw [hq]
   have hbd2 : b.length + s ≤ 140737488355328 := by omega
   rw [e, hf]
   repeat apply WK.s
   refine WK.g 900 Tryz.ntmps180 (by kernel_rfl) ?_
   intro A hA Q hQ
   simp [mx, mn, m1, m2, m3, m5, m6]
   refine RunQ.append 902 appByte rfl rfl rfl rfl rfl rfl rfl (by simp [hbd2, hdl, m6]) rfl (by simp [hbd2, hdl, m6]) (by simp [hbd2, hdl, m6]) (by simp [hbd2, hdl, m6]) (by simp [hbd2, hdl, m6]) ?_
   refine RunQ.eval ?_
   simp [hbd2, hdl, m6]
   apply hQ
   clear hQ hA
   refine WK.retO Tryz.func180 (by rfl) (by rfl) (by simp (maxDischargeDepth := 120) [byL_app, m6]) (by simp [byL_app, m6])

def wStep (a : Wide) (x : BitVec 8) : Wide := ⟨(a.hi <<< 8) ||| (a.lo >>> 56), (a.lo <<< 8) ||| x.setWidth 64⟩
def wVal (l : List (BitVec 8)) : Wide := l.foldl wStep wZ_
theorem wVal_snoc (l : List (BitVec 8)) (x : BitVec 8) : wVal (l ++ [x]) = wStep (wVal l) x := by simp [wVal]
def wGet (b : List (BitVec 8)) (s : Nat) : Wide × Bool := if s ≤ b.length then (wVal (b.take s), true) else (wZ_, false)

def Oxm.beyond (o : Oxm) (w : Wide) : Bool := !(w.less (lowW (fBits o.field))).zero
def Oxm.form (o : Oxm) : Int := if Oxm.beyond o o.value then 7 else if !o.masked then 0 else if Oxm.beyond o o.mask || o.mask.zero then 8 else if !(o.value.less o.mask).zero then 5 else 0
def Oxm.right (o : Oxm) : Bool := !(!fRight o.field || ((o.masked && !fMasks o.field) || (!o.masked && !o.mask.zero))) && (Oxm.form o) == 0
theorem obeyond_c (o : Oxm) (w0 : Wide) : FnP Tryz.prog 244 [.agg w0.enc, .iptr o.enc] (.bool (Oxm.beyond o w0)) := by
 refine FnP.i Tryz.func244 rfl rfl fun G w => ?_
 repeat apply WK.s
 refine WK.g 100 Tryz.ntmps244 (by kernel_rfl) ?_
 intro A hA Q hQ
 simp
 apply hQ
 clear hQ hA
 repeat apply WK.s
 refine WK.ghost (Ghost.frzVar 2 rfl rfl) ?_
 refine WK.regD 200 clsOf (by kernel_rfl) Tryz.ntmps244 (by kernel_rfl) (by kernel_rfl) ?_
 intro A hA Q hQ
 simp [Oxm.enc]
 refine RunQ.call rfl rfl rfl rfl (by rfl) (by simp (maxDischargeDepth := 120)) (fbits_c o.field) (by simp) ?_
 refine RunQ.eval ?_
 simp
 refine RunQ.call rfl rfl rfl rfl (by rfl) (by simp (maxDischargeDepth := 120)) (low_c (fBits o.field)) (by simp) ?_
 refine RunQ.eval ?_
 simp
 refine RunQ.call rfl rfl rfl rfl (by rfl) (by simp (maxDischargeDepth := 120)) (less_c w0 (lowW (fBits o.field))) (by simp) ?_
 refine RunQ.eval ?_
 simp
 refine RunQ.call rfl rfl rfl rfl (by rfl) (by simp (maxDischargeDepth := 120)) (zero_c (w0.less (lowW (fBits o.field)))) (by simp) ?_
 refine RunQ.eval ?_
 simp
 apply hQ
 clear hQ hA
 refine WK.t Tryz.func244 (by simp (maxDischargeDepth := 120) [Tryz.results244, Oxm.beyond]) (by simp [Oxm.beyond])
set_option maxHeartbeats 2000000 in
theorem oform_c (o : Oxm) : FnP Tryz.prog 213 [.agg o.enc] (.int .i64 (Oxm.form o)) := by
 have hb1 := obeyond_c o o.value
 have hb2 := obeyond_c o o.mask
 have hz := zero_c o.mask
 have hl := less_c o.value o.mask
 have hz2 := zero_c (o.value.less o.mask)
 simp only [Oxm.enc, Wide.enc] at hb1 hb2 hz hl hz2
 cases k1 : Oxm.beyond o o.value
 case true =>
   rw [k1] at hb1
   have e : (Oxm.form o) = 7 := by unfold Oxm.form; rw [k1]; rfl
   refine FnP.i Tryz.func213 rfl rfl fun G w => ?_
   repeat apply WK.s
   refine WK.g 100 Tryz.ntmps213 (by kernel_rfl) ?_
   intro A hA Q hQ
   simp [Oxm.enc]
   apply hQ
   clear hQ hA
   repeat apply WK.s
   refine WK.ghost (Ghost.frzVar 1 rfl rfl) ?_
   refine WK.g 200 Tryz.ntmps213 (by kernel_rfl) ?_
   intro A hA Q hQ
   simp
   apply hQ
   clear hQ hA
   repeat (first | apply WK.s | apply WK.b)
   refine WK.g 300 Tryz.ntmps213 (by kernel_rfl) ?_
   intro A hA Q hQ
   simp
   refine RunQ.call rfl rfl rfl rfl (by rfl) (by simp (maxDischargeDepth := 120)) (hb1) (by simp) ?_
   refine RunQ.eval ?_
   simp
   apply hQ
   clear hQ hA
   refine WK.c2 rfl (fun h => ?_) (fun h => ?_)
   · repeat apply WK.s
     refine WK.g 400 Tryz.ntmps213 (by kernel_rfl) ?_
     intro A hA Q hQ
     simp
     apply hQ
     clear hQ hA
     refine WK.t Tryz.func213 (by simp (maxDischargeDepth := 120) [Tryz.results213, e]) (by simp [e])
   · cases h
 rw [k1] at hb1
 cases k2 : o.masked
 case false =>
   have e : (Oxm.form o) = 0 := by unfold Oxm.form; rw [k1, k2]; rfl
   rw [k2] at hb1
   refine FnP.i Tryz.func213 rfl rfl fun G w => ?_
   repeat apply WK.s
   refine WK.g 100 Tryz.ntmps213 (by kernel_rfl) ?_
   intro A hA Q hQ
   simp [Oxm.enc, k2]
   apply hQ
   clear hQ hA
   repeat apply WK.s
   refine WK.ghost (Ghost.frzVar 1 rfl rfl) ?_
   refine WK.g 200 Tryz.ntmps213 (by kernel_rfl) ?_
   intro A hA Q hQ
   simp
   apply hQ
   clear hQ hA
   repeat (first | apply WK.s | apply WK.b)
   refine WK.g 300 Tryz.ntmps213 (by kernel_rfl) ?_
   intro A hA Q hQ
   simp
   refine RunQ.call rfl rfl rfl rfl (by rfl) (by simp (maxDischargeDepth := 120)) (hb1) (by simp) ?_
   refine RunQ.eval ?_
   simp
   apply hQ
   clear hQ hA
   refine WK.c2 rfl (fun h => ?_) (fun h => ?_)
   · cases h
   repeat apply WK.s
   refine WK.g 400 Tryz.ntmps213 (by kernel_rfl) ?_
   intro A hA Q hQ
   simp
   apply hQ
   clear hQ hA
   refine WK.c2 rfl (fun h => ?_) (fun h => ?_)
   · repeat apply WK.s
     refine WK.g 500 Tryz.ntmps213 (by kernel_rfl) ?_
     intro A hA Q hQ
     simp
     apply hQ
     clear hQ hA
     refine WK.t Tryz.func213 (by simp (maxDischargeDepth := 120) [Tryz.results213, e]) (by simp [e])
   · cases h
 rw [k2] at hb1 hb2
 cases k3 : Oxm.beyond o o.mask || o.mask.zero
 case true =>
   have e : (Oxm.form o) = 8 := by unfold Oxm.form; rw [k1, k2, k3]; rfl
   refine FnP.i Tryz.func213 rfl rfl fun G w => ?_
   repeat apply WK.s
   refine WK.g 100 Tryz.ntmps213 (by kernel_rfl) ?_
   intro A hA Q hQ
   simp [Oxm.enc, k2]
   apply hQ
   clear hQ hA
   repeat apply WK.s
   refine WK.ghost (Ghost.frzVar 1 rfl rfl) ?_
   refine WK.g 200 Tryz.ntmps213 (by kernel_rfl) ?_
   intro A hA Q hQ
   simp
   apply hQ
   clear hQ hA
   repeat (first | apply WK.s | apply WK.b)
   refine WK.g 300 Tryz.ntmps213 (by kernel_rfl) ?_
   intro A hA Q hQ
   simp
   refine RunQ.call rfl rfl rfl rfl (by rfl) (by simp (maxDischargeDepth := 120)) (hb1) (by simp) ?_
   refine RunQ.eval ?_
   simp
   apply hQ
   clear hQ hA
   refine WK.c2 rfl (fun h => ?_) (fun h => ?_)
   · cases h
   repeat apply WK.s
   refine WK.g 400 Tryz.ntmps213 (by kernel_rfl) ?_
   intro A hA Q hQ
   simp
   apply hQ
   clear hQ hA
   refine WK.c2 rfl (fun h => ?_) (fun h => ?_)
   · cases h
   cases k4 : Oxm.beyond o o.mask
   · rw [k4] at hb2 k3
     rw [Bool.false_or] at k3
     rw [k3] at hz
     repeat apply WK.s
     refine WK.g 500 Tryz.ntmps213 (by kernel_rfl) ?_
     intro A hA Q hQ
     have hg4 : (A[4]?).bind (·.dst) = some 19 := by rw [hA]; rfl
     simp [hg4]
     refine RunQ.call rfl rfl rfl rfl (by rfl) (by simp (maxDischargeDepth := 120) [hg4]) (hb2) (by simp [hg4]) ?_
     refine RunQ.eval ?_
     simp [hg4]
     refine RunQ.callG rfl rfl (by simp [hg4]) rfl (by rfl) (by simp (maxDischargeDepth := 120) [hg4]) (hz) (by simp [hg4]) ?_
     refine RunQ.eval ?_
     simp [hg4]
     apply hQ
     clear hQ hA
     refine WK.c2 rfl (fun h => ?_) (fun h => ?_)
     · repeat apply WK.s
       refine WK.g 600 Tryz.ntmps213 (by kernel_rfl) ?_
       intro A hA Q hQ
       simp
       apply hQ
       clear hQ hA
       refine WK.t Tryz.func213 (by simp (maxDischargeDepth := 120) [Tryz.results213, e]) (by simp [e])
     · cases h
   · rw [k4] at hb2
     repeat apply WK.s
     refine WK.g 700 Tryz.ntmps213 (by kernel_rfl) ?_
     intro A hA Q hQ
     have hg4 : (A[4]?).bind (·.dst) = some 19 := by rw [hA]; rfl
     simp [hg4]
     refine RunQ.call rfl rfl rfl rfl (by rfl) (by simp (maxDischargeDepth := 120) [hg4]) (hb2) (by simp [hg4]) ?_
     refine RunQ.eval ?_
     simp [hg4]
     apply hQ
     clear hQ hA
     refine WK.c2 rfl (fun h => ?_) (fun h => ?_)
     · repeat apply WK.s
       refine WK.g 800 Tryz.ntmps213 (by kernel_rfl) ?_
       intro A hA Q hQ
       simp
       apply hQ
       clear hQ hA
       refine WK.t Tryz.func213 (by simp (maxDischargeDepth := 120) [Tryz.results213, e]) (by simp [e])
     · cases h
 rw [Bool.or_eq_false_iff] at k3
 rw [k3.1] at hb2
 rw [k3.2] at hz
 cases k5 : (o.value.less o.mask).zero
 · have e : (Oxm.form o) = 5 := by unfold Oxm.form; rw [k1, k2, k3.1, k3.2, k5]; rfl
   rw [k5] at hz2
   refine FnP.i Tryz.func213 rfl rfl fun G w => ?_
   repeat apply WK.s
   refine WK.g 100 Tryz.ntmps213 (by kernel_rfl) ?_
   intro A hA Q hQ
   simp [Oxm.enc, k2]
   apply hQ
   clear hQ hA
   repeat apply WK.s
   refine WK.ghost (Ghost.frzVar 1 rfl rfl) ?_
   refine WK.g 200 Tryz.ntmps213 (by kernel_rfl) ?_
   intro A hA Q hQ
   simp
   apply hQ
   clear hQ hA
   repeat (first | apply WK.s | apply WK.b)
   refine WK.g 300 Tryz.ntmps213 (by kernel_rfl) ?_
   intro A hA Q hQ
   simp
   refine RunQ.call rfl rfl rfl rfl (by rfl) (by simp (maxDischargeDepth := 120)) (hb1) (by simp) ?_
   refine RunQ.eval ?_
   simp
   apply hQ
   clear hQ hA
   refine WK.c2 rfl (fun h => ?_) (fun h => ?_)
   · cases h
   repeat apply WK.s
   refine WK.g 400 Tryz.ntmps213 (by kernel_rfl) ?_
   intro A hA Q hQ
   simp
   apply hQ
   clear hQ hA
   refine WK.c2 rfl (fun h => ?_) (fun h => ?_)
   · cases h
   repeat apply WK.s
   refine WK.g 500 Tryz.ntmps213 (by kernel_rfl) ?_
   intro A hA Q hQ
   have hg4 : (A[4]?).bind (·.dst) = some 19 := by rw [hA]; rfl
   simp [hg4]
   refine RunQ.call rfl rfl rfl rfl (by rfl) (by simp (maxDischargeDepth := 120) [hg4]) (hb2) (by simp [hg4]) ?_
   refine RunQ.eval ?_
   simp [hg4]
   refine RunQ.callG rfl rfl (by simp [hg4]) rfl (by rfl) (by simp (maxDischargeDepth := 120) [hg4]) (hz) (by simp [hg4]) ?_
   refine RunQ.eval ?_
   simp [hg4]
   apply hQ
   clear hQ hA
   refine WK.c2 rfl (fun h => ?_) (fun h => ?_)
   · cases h
   repeat apply WK.s
   refine WK.g 600 Tryz.ntmps213 (by kernel_rfl) ?_
   intro A hA Q hQ
   simp
   refine RunQ.call rfl rfl rfl rfl (by rfl) (by simp (maxDischargeDepth := 120)) (hl) (by simp) ?_
   refine RunQ.eval ?_
   simp
   refine RunQ.call rfl rfl rfl rfl (by rfl) (by simp (maxDischargeDepth := 120)) (hz2) (by simp) ?_
   refine RunQ.eval ?_
   simp
   apply hQ
   clear hQ hA
   refine WK.c2 rfl (fun h => ?_) (fun h => ?_)
   · repeat apply WK.s
     refine WK.g 700 Tryz.ntmps213 (by kernel_rfl) ?_
     intro A hA Q hQ
     simp
     apply hQ
     clear hQ hA
     refine WK.t Tryz.func213 (by simp (maxDischargeDepth := 120) [Tryz.results213, e]) (by simp [e])
   · cases h
 · have e : (Oxm.form o) = 0 := by unfold Oxm.form; rw [k1, k2, k3.1, k3.2, k5]; rfl
   rw [k5] at hz2
   refine FnP.i Tryz.func213 rfl rfl fun G w => ?_
   repeat apply WK.s
   refine WK.g 100 Tryz.ntmps213 (by kernel_rfl) ?_
   intro A hA Q hQ
   simp [Oxm.enc, k2]
   apply hQ
   clear hQ hA
   repeat apply WK.s
   refine WK.ghost (Ghost.frzVar 1 rfl rfl) ?_
   refine WK.g 200 Tryz.ntmps213 (by kernel_rfl) ?_
   intro A hA Q hQ
   simp
   apply hQ
   clear hQ hA
   repeat (first | apply WK.s | apply WK.b)
   refine WK.g 300 Tryz.ntmps213 (by kernel_rfl) ?_
   intro A hA Q hQ
   simp
   refine RunQ.call rfl rfl rfl rfl (by rfl) (by simp (maxDischargeDepth := 120)) (hb1) (by simp) ?_
   refine RunQ.eval ?_
   simp
   apply hQ
   clear hQ hA
   refine WK.c2 rfl (fun h => ?_) (fun h => ?_)
   · cases h
   repeat apply WK.s
   refine WK.g 400 Tryz.ntmps213 (by kernel_rfl) ?_
   intro A hA Q hQ
   simp
   apply hQ
   clear hQ hA
   refine WK.c2 rfl (fun h => ?_) (fun h => ?_)
   · cases h
   repeat apply WK.s
   refine WK.g 500 Tryz.ntmps213 (by kernel_rfl) ?_
   intro A hA Q hQ
   have hg4 : (A[4]?).bind (·.dst) = some 19 := by rw [hA]; rfl
   simp [hg4]
   refine RunQ.call rfl rfl rfl rfl (by rfl) (by simp (maxDischargeDepth := 120) [hg4]) (hb2) (by simp [hg4]) ?_
   refine RunQ.eval ?_
   simp [hg4]
   refine RunQ.callG rfl rfl (by simp [hg4]) rfl (by rfl) (by simp (maxDischargeDepth := 120) [hg4]) (hz) (by simp [hg4]) ?_
   refine RunQ.eval ?_
   simp [hg4]
   apply hQ
   clear hQ hA
   refine WK.c2 rfl (fun h => ?_) (fun h => ?_)
   · cases h
   repeat apply WK.s
   refine WK.g 600 Tryz.ntmps213 (by kernel_rfl) ?_
   intro A hA Q hQ
   simp
   refine RunQ.call rfl rfl rfl rfl (by rfl) (by simp (maxDischargeDepth := 120)) (hl) (by simp) ?_
   refine RunQ.eval ?_
   simp
   refine RunQ.call rfl rfl rfl rfl (by rfl) (by simp (maxDischargeDepth := 120)) (hz2) (by simp) ?_
   refine RunQ.eval ?_
   simp
   apply hQ
   clear hQ hA
   refine WK.c2 rfl (fun h => ?_) (fun h => ?_)
   · cases h
   · repeat (first | apply WK.s | apply WK.n | apply WK.k)
     refine WK.g 700 Tryz.ntmps213 (by kernel_rfl) ?_
     intro A hA Q hQ
     simp
     apply hQ
     clear hQ hA
     refine WK.t Tryz.func213 (by simp (maxDischargeDepth := 120) [Tryz.results213, e]) (by simp [e])

set_option maxHeartbeats 4000000 in
theorem oright_c (o : Oxm) : FnP Tryz.prog 178 [.agg o.enc] (.bool (Oxm.right o)) := by
 have hf := oform_c o
 have hm := zero_c o.mask
 simp only [Oxm.enc, Wide.enc] at hf hm
 cases k1 : fRight o.field
 · have e : Oxm.right o = false := by unfold Oxm.right; rw [k1]; rfl
   refine FnP.i Tryz.func178 rfl rfl fun G w => ?_
   repeat apply WK.s
   refine WK.g 100 Tryz.ntmps178 (by kernel_rfl) ?_
   intro A hA Q hQ
   simp [Oxm.enc]
   apply hQ
   clear hQ hA
   repeat apply WK.s
   refine WK.ghost (Ghost.frzVar 1 rfl rfl) ?_
   refine WK.g 200 Tryz.ntmps178 (by kernel_rfl) ?_
   intro A hA Q hQ
   have hg4 : (A[4]?).bind (·.dst) = some 7 := by rw [hA]; rfl
   have hg7 : (A[7]?).bind (·.dst) = some 10 := by rw [hA]; rfl
   have hg14 : (A[14]?).bind (·.dst) = some 17 := by rw [hA]; rfl
   have hg18 : (A[18]?).bind (·.dst) = some 21 := by rw [hA]; rfl
   simp [hg4, hg7, hg14, hg18]
   refine RunQ.call rfl rfl rfl rfl (by rfl) (by simp (maxDischargeDepth := 120) [k1, hg4, hg7, hg14, hg18]) (fright_c o.field) (by simp [k1, hg4, hg7, hg14, hg18]) ?_
   refine RunQ.eval ?_
   simp [k1, hg4, hg7, hg14, hg18]
   apply hQ
   clear hQ hA
   refine WK.c2 rfl (fun h => ?_) (fun h => ?_)
   · repeat apply WK.s
     refine WK.g 300 Tryz.ntmps178 (by kernel_rfl) ?_
     intro A hA Q hQ
     simp
     apply hQ
     clear hQ hA
     refine WK.t Tryz.func178 (by simp (maxDischargeDepth := 120) [Tryz.results178, e]) (by simp [e])
   · cases h
 cases k2 : o.masked
 · rw [k2] at hf
   cases k3 : o.mask.zero
   · have e : Oxm.right o = false := by unfold Oxm.right; rw [k1, k2, k3]; rfl
     rw [k3] at hm
     refine FnP.i Tryz.func178 rfl rfl fun G w => ?_
     repeat apply WK.s
     refine WK.g 100 Tryz.ntmps178 (by kernel_rfl) ?_
     intro A hA Q hQ
     simp [Oxm.enc, k2]
     apply hQ
     clear hQ hA
     repeat apply WK.s
     refine WK.ghost (Ghost.frzVar 1 rfl rfl) ?_
     refine WK.g 200 Tryz.ntmps178 (by kernel_rfl) ?_
     intro A hA Q hQ
     have hg4 : (A[4]?).bind (·.dst) = some 7 := by rw [hA]; rfl
     have hg7 : (A[7]?).bind (·.dst) = some 10 := by rw [hA]; rfl
     have hg14 : (A[14]?).bind (·.dst) = some 17 := by rw [hA]; rfl
     have hg18 : (A[18]?).bind (·.dst) = some 21 := by rw [hA]; rfl
     simp [hg4, hg7, hg14, hg18]
     refine RunQ.call rfl rfl rfl rfl (by rfl) (by simp (maxDischargeDepth := 120) [k1, hg4, hg7, hg14, hg18]) (fright_c o.field) (by simp [k1, hg4, hg7, hg14, hg18]) ?_
     refine RunQ.eval ?_
     simp [k1, hg4, hg7, hg14, hg18]
     refine RunQ.callG rfl rfl (by simp [hg14, hg18]) rfl (by rfl) (by simp (maxDischargeDepth := 120) [hg14, hg18]) (hm) (by simp [hg14, hg18]) ?_
     refine RunQ.eval ?_
     simp [hg14, hg18]
     apply hQ
     clear hQ hA
     refine WK.c2 rfl (fun h => ?_) (fun h => ?_)
     · repeat apply WK.s
       refine WK.g 300 Tryz.ntmps178 (by kernel_rfl) ?_
       intro A hA Q hQ
       simp
       apply hQ
       clear hQ hA
       refine WK.t Tryz.func178 (by simp (maxDischargeDepth := 120) [Tryz.results178, e]) (by simp [e])
     · cases h
   · have e : Oxm.right o = (Oxm.form o == 0) := by unfold Oxm.right; rw [k1, k2, k3]; rfl
     rw [k3] at hm
     refine FnP.i Tryz.func178 rfl rfl fun G w => ?_
     repeat apply WK.s
     refine WK.g 100 Tryz.ntmps178 (by kernel_rfl) ?_
     intro A hA Q hQ
     simp [Oxm.enc, k2]
     apply hQ
     clear hQ hA
     repeat apply WK.s
     refine WK.ghost (Ghost.frzVar 1 rfl rfl) ?_
     refine WK.g 200 Tryz.ntmps178 (by kernel_rfl) ?_
     intro A hA Q hQ
     have hg4 : (A[4]?).bind (·.dst) = some 7 := by rw [hA]; rfl
     have hg7 : (A[7]?).bind (·.dst) = some 10 := by rw [hA]; rfl
     have hg14 : (A[14]?).bind (·.dst) = some 17 := by rw [hA]; rfl
     have hg18 : (A[18]?).bind (·.dst) = some 21 := by rw [hA]; rfl
     simp [hg4, hg7, hg14, hg18]
     refine RunQ.call rfl rfl rfl rfl (by rfl) (by simp (maxDischargeDepth := 120) [k1, hg4, hg7, hg14, hg18]) (fright_c o.field) (by simp [k1, hg4, hg7, hg14, hg18]) ?_
     refine RunQ.eval ?_
     simp [k1, hg4, hg7, hg14, hg18]
     refine RunQ.callG rfl rfl (by simp [hg14, hg18]) rfl (by rfl) (by simp (maxDischargeDepth := 120) [hg14, hg18]) (hm) (by simp [hg14, hg18]) ?_
     refine RunQ.eval ?_
     simp [hg14, hg18]
     apply hQ
     clear hQ hA
     refine WK.c2 rfl (fun h => ?_) (fun h => ?_)
     · cases h
     repeat (first | apply WK.s | apply WK.k)
     refine WK.g 300 Tryz.ntmps178 (by kernel_rfl) ?_
     intro A hA Q hQ
     simp
     refine RunQ.call rfl rfl rfl rfl (by rfl) (by simp (maxDischargeDepth := 120)) (hf) (by simp) ?_
     refine RunQ.eval ?_
     simp
     apply hQ
     clear hQ hA
     refine WK.t Tryz.func178 (by simp (maxDischargeDepth := 120) [Tryz.results178, e]) (by simp [e])
 · rw [k2] at hf
   cases k3 : fMasks o.field
   · have e : Oxm.right o = false := by unfold Oxm.right; rw [k1, k2, k3]; rfl
     refine FnP.i Tryz.func178 rfl rfl fun G w => ?_
     repeat apply WK.s
     refine WK.g 100 Tryz.ntmps178 (by kernel_rfl) ?_
     intro A hA Q hQ
     simp [Oxm.enc, k2]
     apply hQ
     clear hQ hA
     repeat apply WK.s
     refine WK.ghost (Ghost.frzVar 1 rfl rfl) ?_
     refine WK.g 200 Tryz.ntmps178 (by kernel_rfl) ?_
     intro A hA Q hQ
     have hg4 : (A[4]?).bind (·.dst) = some 7 := by rw [hA]; rfl
     have hg7 : (A[7]?).bind (·.dst) = some 10 := by rw [hA]; rfl
     have hg14 : (A[14]?).bind (·.dst) = some 17 := by rw [hA]; rfl
     have hg18 : (A[18]?).bind (·.dst) = some 21 := by rw [hA]; rfl
     simp [hg4, hg7, hg14, hg18]
     refine RunQ.call rfl rfl rfl rfl (by rfl) (by simp (maxDischargeDepth := 120) [k1, hg4, hg7, hg14, hg18]) (fright_c o.field) (by simp [k1, hg4, hg7, hg14, hg18]) ?_
     refine RunQ.eval ?_
     simp [k1, hg4, hg7, hg14, hg18]
     refine RunQ.callG rfl rfl (by simp [k3, hg4, hg7, hg14, hg18]) rfl (by rfl) (by simp (maxDischargeDepth := 120) [k3, hg4, hg7, hg14, hg18]) (fmasks_c o.field) (by simp [k3, hg4, hg7, hg14, hg18]) ?_
     refine RunQ.eval ?_
     simp [k3, hg4, hg7, hg14, hg18]
     apply hQ
     clear hQ hA
     refine WK.c2 rfl (fun h => ?_) (fun h => ?_)
     · repeat apply WK.s
       refine WK.g 300 Tryz.ntmps178 (by kernel_rfl) ?_
       intro A hA Q hQ
       simp
       apply hQ
       clear hQ hA
       refine WK.t Tryz.func178 (by simp (maxDischargeDepth := 120) [Tryz.results178, e]) (by simp [e])
     · cases h
   · have e : Oxm.right o = (Oxm.form o == 0) := by unfold Oxm.right; rw [k1, k2, k3]; rfl
     refine FnP.i Tryz.func178 rfl rfl fun G w => ?_
     repeat apply WK.s
     refine WK.g 100 Tryz.ntmps178 (by kernel_rfl) ?_
     intro A hA Q hQ
     simp [Oxm.enc, k2]
     apply hQ
     clear hQ hA
     repeat apply WK.s
     refine WK.ghost (Ghost.frzVar 1 rfl rfl) ?_
     refine WK.g 200 Tryz.ntmps178 (by kernel_rfl) ?_
     intro A hA Q hQ
     have hg4 : (A[4]?).bind (·.dst) = some 7 := by rw [hA]; rfl
     have hg7 : (A[7]?).bind (·.dst) = some 10 := by rw [hA]; rfl
     have hg14 : (A[14]?).bind (·.dst) = some 17 := by rw [hA]; rfl
     have hg18 : (A[18]?).bind (·.dst) = some 21 := by rw [hA]; rfl
     simp [hg4, hg7, hg14, hg18]
     refine RunQ.call rfl rfl rfl rfl (by rfl) (by simp (maxDischargeDepth := 120) [k1, hg4, hg7, hg14, hg18]) (fright_c o.field) (by simp [k1, hg4, hg7, hg14, hg18]) ?_
     refine RunQ.eval ?_
     simp [k1, hg4, hg7, hg14, hg18]
     refine RunQ.callG rfl rfl (by simp [k3, hg4, hg7, hg14, hg18]) rfl (by rfl) (by simp (maxDischargeDepth := 120) [k3, hg4, hg7, hg14, hg18]) (fmasks_c o.field) (by simp [k3, hg4, hg7, hg14, hg18]) ?_
     refine RunQ.eval ?_
     simp [k3, hg4, hg7, hg14, hg18]
     apply hQ
     clear hQ hA
     refine WK.c2 rfl (fun h => ?_) (fun h => ?_)
     · cases h
     repeat (first | apply WK.s | apply WK.k)
     refine WK.g 300 Tryz.ntmps178 (by kernel_rfl) ?_
     intro A hA Q hQ
     simp
     refine RunQ.call rfl rfl rfl rfl (by rfl) (by simp (maxDischargeDepth := 120)) (hf) (by simp) ?_
     refine RunQ.eval ?_
     simp
     apply hQ
     clear hQ hA
     refine WK.t Tryz.func178 (by simp (maxDischargeDepth := 120) [Tryz.results178, e]) (by simp [e])

theorem nputP_c (b : List (BitVec 8)) (n : Int) (s : Nat) (hs : Sz s) (hb0 : b.length ≤ 1000000) : FnP Tryz.prog 68 [byS b, .int .i64 n, .int .i64 s] (byS (putN b n s)) := by
 have h := (nput_c b n s hs hb0).toP (by simp [byL_take])
 rwa [Nat.mul_one, by_full _ _ rfl] at h
theorem wputP_c (b : List (BitVec 8)) (a : Wide) (s : Nat) (hs : s ≤ 16) (hb0 : b.length ≤ 1000000) : FnP Tryz.prog 180 [byS b, .agg a.enc, .int .i64 s] (byS (wPut b a s)) := by
 have h := (wput_c b a s hs hb0).toP (by simp [byL_take])
 rwa [Nat.mul_one, by_full _ _ rfl] at h
theorem putN_len (b : List (BitVec 8)) (n : Int) (s : Nat) : (putN b n s).length ≤ b.length + s := by
 unfold putN; split
 · rw [List.length_append, beN_len]; omega
 · omega
def oBody (o : Oxm) : List (BitVec 8) := if o.masked then wPut (wPut [] o.value (fSize o.field)) o.mask (fSize o.field) else wPut [] o.value (fSize o.field)
def oNum (o : Oxm) : Int := if o.masked then fID o.field * 2 + 1 else fID o.field * 2
def oHead (o : Oxm) : List (BitVec 8) := putN (putN (putN [] 32768 2) (oNum o) 1) (oBody o).length 1
def oEnc (o : Oxm) : List (BitVec 8) × Int := if Oxm.right o then (oHead o ++ oBody o, 0) else ([], 1)
theorem shl_one (f : Int) : bShl .i64 (fID f) 1 = fID f * 2 := by
 have := (fRow_ok f).1
 unfold bShl fID
 show IntKind.wrap .i64 ((fRow f).1 * 2 ^ 1) = _
 rw [Int.pow_one, wrap_i64 (by omega) (by omega)]
theorem or_one_all : ∀ n : Fin 35, bOr .i64 ((n.val : Int) * 2) 1 = (n.val : Int) * 2 + 1 := by decide +kernel
theorem or_one (f : Int) (h : fRight f = true) : bOr .i64 (fID f * 2) 1 = fID f * 2 + 1 := by
 unfold fRight at h
 rw [Bool.and_eq_true, decide_eq_true_eq, decide_eq_true_eq] at h
 have hp : 0 ≤ fID f ∧ fID f ≤ 34 := by
   unfold fID fRow
   rw [if_pos ⟨h.1, h.2⟩]
   have hl : f.toNat < fRows.length := by show f.toNat < 24; omega
   have : ∀ r, r ∈ fRows → 0 ≤ r.1 ∧ r.1 ≤ 34 := by decide
   exact this _ (nth_mem hl)
 have := or_one_all ⟨(fID f).toNat, by omega⟩
 rwa [show (((⟨(fID f).toNat, by omega⟩ : Fin 35).val : Nat) : Int) = fID f by show (((fID f).toNat : Nat) : Int) = _; omega] at this
theorem right_field {o : Oxm} (h : Oxm.right o = true) : fRight o.field = true := by
 unfold Oxm.right at h
 cases hf : fRight o.field
 · rw [hf] at h; simp at h
 · rfl
theorem oBody_len (o : Oxm) : (oBody o).length = if o.masked then fSize o.field + fSize o.field else fSize o.field := by
 have := fSize_le o.field
 unfold oBody
 split
 · rw [wPut_len _ _ _ this, wPut_len _ _ _ this]; simp
 · rw [wPut_len _ _ _ this]; simp
set_option maxHeartbeats 4000000 in
theorem oenc_c (o : Oxm) : FnP Tryz.prog 132 [.agg o.enc] (.tup [byS (oEnc o).1, .int .i64 (oEnc o).2]) := by
 have hr := oright_c o
 have hsz := fSize_le o.field
 have hid := (fRow_ok o.field).1
 have hbl := oBody_len o
 have hsh := shl_one o.field
 have p1 := nputP_c [] 32768 2 (by unfold Sz; omega) (by simp)
 rw [show byS [] = .sl false 0 [] from rfl] at p1
 have l1 := putN_len [] 32768 2
 have hbl2 : (oBody o).length ≤ 32 := by rw [hbl]; split <;> omega
 simp only [Oxm.enc] at hr
 cases k : Oxm.right o
 · have e : oEnc o = ([], 1) := by unfold oEnc; rw [k]; rfl
   rw [k] at hr
   refine FnP.i Tryz.func132 rfl rfl fun G w => ?_
   repeat apply WK.s
   refine WK.g 100 Tryz.ntmps132 (by kernel_rfl) ?_
   intro A hA Q hQ
   simp [Oxm.enc]
   apply hQ
   clear hQ hA
   repeat apply WK.s
   refine WK.ghost (Ghost.frzVar 1 rfl rfl) ?_
   refine WK.g 200 Tryz.ntmps132 (by kernel_rfl) ?_
   intro A hA Q hQ
   simp
   refine RunQ.call rfl rfl rfl rfl (by rfl) (by simp (maxDischargeDepth := 120)) (hr) (by simp) ?_
   refine RunQ.eval ?_
   simp
   apply hQ
   clear hQ hA
   refine WK.c2 rfl (fun h => ?_) (fun h => ?_)
   · repeat apply WK.s
     refine WK.g 300 Tryz.ntmps132 (by kernel_rfl) ?_
     intro A hA Q hQ
     simp
     apply hQ
     clear hQ hA
     refine WK.t Tryz.func132 (by simp (maxDischargeDepth := 120) [Tryz.results132, e, byS, b0_]) (by simp [e, byS, b0_])
   · cases h
 rw [k] at hr
 have e : oEnc o = (oHead o ++ oBody o, 0) := by unfold oEnc; rw [k]; rfl
 have hor := or_one o.field (right_field k)
 obtain ⟨b1, hb1⟩ : ∃ b1, b1 = putN [] 32768 2 := ⟨_, rfl⟩
 rw [← hb1] at p1 l1
 simp only [List.length_nil, Nat.zero_add] at l1
 have p2 := nputP_c b1 (oNum o) 1 (by unfold Sz; omega) (by omega)
 have l2 := putN_len b1 (oNum o) 1
 have p3 := nput_c (putN b1 (oNum o) 1) (oBody o).length 1 (by unfold Sz; omega) (by omega)
 have eh : oHead o = putN (putN b1 (oNum o) 1) (oBody o).length 1 := by unfold oHead; rw [hb1]
 have l3 := putN_len (putN b1 (oNum o) 1) (oBody o).length 1
 rw [← eh] at p3 l3
 obtain ⟨b2, hb2⟩ : ∃ b2, b2 = putN b1 (oNum o) 1 := ⟨_, rfl⟩
 rw [← hb2] at p2 p3
 have q1 := wputP_c [] o.value (fSize o.field) hsz (by simp)
 rw [show byS [] = .sl false 0 [] from rfl] at q1
 have hf := by_full (oBody o) _ rfl
 have hbd : (oHead o).length + (oBody o).length ≤ 140737488355328 := by omega
 have hT : (byL (oHead o) ++ byL (oBody o)).take ((oHead o).length + (oBody o).length) = byL (oHead o) ++ byL (oBody o) := List.take_of_length_le (by simp)
 refine FnP.i Tryz.func132 rfl rfl fun G w => ?_
 repeat apply WK.s
 refine WK.g 100 Tryz.ntmps132 (by kernel_rfl) ?_
 intro A hA Q hQ
 simp [Oxm.enc]
 apply hQ
 clear hQ hA
 repeat apply WK.s
 refine WK.ghost (Ghost.frzVar 1 rfl rfl) ?_
 refine WK.g 200 Tryz.ntmps132 (by kernel_rfl) ?_
 intro A hA Q hQ
 simp
 refine RunQ.call rfl rfl rfl rfl (by rfl) (by simp (maxDischargeDepth := 120)) (hr) (by simp) ?_
 refine RunQ.eval ?_
 simp
 apply hQ
 clear hQ hA
 refine WK.c2 rfl (fun h => ?_) (fun h => ?_)
 · cases h
 repeat (first | apply WK.s | apply WK.k)
 refine WK.g 300 Tryz.ntmps132 (by kernel_rfl) ?_
 intro A hA Q hQ
 simp
 refine RunQ.call rfl rfl rfl rfl (by rfl) (by simp (maxDischargeDepth := 120)) (fsize_c o.field) (by simp) ?_
 refine RunQ.eval ?_
 simp
 apply hQ
 clear hQ hA
 repeat apply WK.s
 apply WK.cut (⟨(upd (upd J 5 (.sl false (oBody o).length (byL (oBody o)))) 6 (.int .i64 (oNum o))), B0, 0⟩ : St)
 · intro hcut
   simp only [Wide.enc] at q1
   cases m : o.masked
   · have eb : oBody o = wPut [] o.value (fSize o.field) := by unfold oBody; rw [m]; rfl
     have en : oNum o = fID o.field * 2 := by unfold oNum; rw [m]; rfl
     rw [← eb] at q1
     refine WK.g 400 Tryz.ntmps132 (by kernel_rfl) ?_
     intro A hA Q hQ
     simp
     refine RunQ.call rfl rfl rfl rfl (by rfl) (by simp (maxDischargeDepth := 120)) (q1) (by simp) ?_
     refine RunQ.eval ?_
     simp
     apply hQ
     clear hQ hA
     repeat apply WK.s
     refine WK.g 500 Tryz.ntmps132 (by kernel_rfl) ?_
     intro A hA Q hQ
     simp
     refine RunQ.call rfl rfl rfl rfl (by rfl) (by simp (maxDischargeDepth := 120) [hsh]) (fid_c o.field) (by simp [hsh]) ?_
     refine RunQ.eval ?_
     simp [hsh]
     apply hQ
     clear hQ hA
     repeat apply WK.s
     refine WK.g 600 Tryz.ntmps132 (by kernel_rfl) ?_
     intro A hA Q hQ
     simp [m]
     apply hQ
     clear hQ hA
     refine WK.c2 rfl (fun h => ?_) (fun h => ?_)
     · cases h
     · repeat (first | apply WK.s | apply WK.k)
       refine WK.next (fun n => n) hcut (by repeat (first | exact TmW.nil | refine TmW.upd ?_ (by simp (maxDischargeDepth := 120) [en, byS]))) (by repeat (first | exact BxW.nil | refine BxW.upd ?_ (by simp (maxDischargeDepth := 120) [en, byS]))) InjW.id
   · have eb : oBody o = wPut (wPut [] o.value (fSize o.field)) o.mask (fSize o.field) := by unfold oBody; rw [m]; rfl
     have en : oNum o = fID o.field * 2 + 1 := by unfold oNum; rw [m]; rfl
     have l4 := wPut_len [] o.value (fSize o.field) hsz
     have q2 := wputP_c (wPut [] o.value (fSize o.field)) o.mask (fSize o.field) hsz (by rw [l4]; simp; omega)
     rw [← eb] at q2
     simp only [Wide.enc] at q2
     obtain ⟨b4, hb4⟩ : ∃ b4, b4 = wPut [] o.value (fSize o.field) := ⟨_, rfl⟩
     rw [← hb4] at q1 q2
     refine WK.g 700 Tryz.ntmps132 (by kernel_rfl) ?_
     intro A hA Q hQ
     simp
     refine RunQ.call rfl rfl rfl rfl (by rfl) (by simp (maxDischargeDepth := 120)) (q1) (by simp) ?_
     refine RunQ.eval ?_
     simp
     apply hQ
     clear hQ hA
     repeat apply WK.s
     refine WK.g 800 Tryz.ntmps132 (by kernel_rfl) ?_
     intro A hA Q hQ
     simp
     refine RunQ.call rfl rfl rfl rfl (by rfl) (by simp (maxDischargeDepth := 120) [hsh]) (fid_c o.field) (by simp [hsh]) ?_
     refine RunQ.eval ?_
     simp [hsh]
     apply hQ
     clear hQ hA
     repeat apply WK.s
     refine WK.g 900 Tryz.ntmps132 (by kernel_rfl) ?_
     intro A hA Q hQ
     simp [m]
     apply hQ
     clear hQ hA
     refine WK.c2 rfl (fun h => ?_) (fun h => ?_)
     · repeat apply WK.s
       refine WK.g 1000 Tryz.ntmps132 (by kernel_rfl) ?_
       intro A hA Q hQ
       simp
       refine RunQ.call rfl rfl rfl rfl (by rfl) (by simp (maxDischargeDepth := 120)) (q2) (by simp) ?_
       refine RunQ.eval ?_
       simp
       apply hQ
       clear hQ hA
       refine WK.g 1100 Tryz.ntmps132 (by kernel_rfl) ?_
       intro A hA Q hQ
       simp [hor]
       apply hQ
       clear hQ hA
       repeat apply WK.s
       refine WK.next (fun n => n) hcut (by repeat (first | exact TmW.nil | refine TmW.upd ?_ (by simp (maxDischargeDepth := 120) [en, byS]))) (by repeat (first | exact BxW.nil | refine BxW.upd ?_ (by simp (maxDischargeDepth := 120) [en, byS]))) InjW.id
     · cases h
 refine WK.g 1200 Tryz.ntmps132 (by kernel_rfl) ?_
 intro A hA Q hQ
 simp
 refine RunQ.call rfl rfl rfl rfl (by rfl) (by simp (maxDischargeDepth := 120)) (p1) (by simp) ?_
 refine RunQ.eval ?_
 simp
 refine RunQ.call rfl rfl rfl rfl (by rfl) (by simp (maxDischargeDepth := 120)) (p2) (by simp) ?_
 refine RunQ.eval ?_
 simp
 refine RunQ.callO 900 rfl rfl rfl (by simp) (by rfl) (by simp (maxDischargeDepth := 120)) (p3) (by simp) (by simp) (by simp) ?_
 refine RunQ.eval ?_
 simp
 apply hQ
 clear hQ hA
 repeat apply WK.s
 refine WK.g 1300 Tryz.ntmps132 (by kernel_rfl) ?_
 intro A hA Q hQ
 simp
 refine RunQ.append 901 appByte rfl rfl rfl rfl rfl rfl rfl (by simp [hbd, hf]) rfl (by simp [hbd, hf]) (by simp [hbd, hf]) (by simp [hbd, hf]) (by simp [hbd, hf]) ?_
 refine RunQ.eval ?_
 simp [hbd, hf]
 apply hQ
 clear hQ hA
 refine WK.ghost (Ghost.frzSl 2 1 rfl rfl) ?_
 refine WK.t Tryz.func132 (by simp (maxDischargeDepth := 120) [Tryz.results132, e, byS, byL_app, hT]) (by simp [e, byS, byL_app, hT])
end Go.Proofs.YtmhapglejjehbaaGreat
