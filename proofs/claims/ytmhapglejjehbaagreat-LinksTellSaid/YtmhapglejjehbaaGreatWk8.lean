/- Changes of flows: what is wrong with one, what may be, the same: the program. -/
import Derived.Test.YtmhapglejjehbaaGreatAf
import Derived.Test.YtmhapglejjehbaaGreatWk7
import Derived.Test.YtmhapglejjehbaaGreatWk4
import Derived.Test.YtmhapglejjehbaaGreatWk5
import Derived.Laws.BytesArg
import Derived.Laws.Strings
set_option linter.all false
set_option linter.unnecessarySimpa false
namespace Go.Proofs.YtmhapglejjehbaaGreat
open Go Go.AI Go.Proofs
attribute [local irreducible] FnP FnO FnB FnT WK RunQ RunQW RunX RunXW
theorem mencP_c (l : List Oxm) (hl : l.length ≤ 10000) : FnP Tryz.prog 77 [oxmS l] (.tup [byS (mEnc l).1, .int .i64 (mEnc l).2]) := by
 have h := (menc_c l hl).toP (by simp [byL_take]) (by rfl)
 rwa [Nat.mul_one, by_full _ _ rfl] at h
theorem rmencP_c (l : List Oxm) (hl : l.length ≤ 10000) : FnP Tryz.prog 97 [oxmS l] (.tup [byS (mEnc l).1, .int .i64 (mEnc l).2]) := by
 have h := (rmenc_c l hl).toP (by simp [byL_take]) (by rfl)
 rwa [Nat.mul_one, by_full _ _ rfl] at h
structure FmB (m : FlowMod) : Prop where
 mat : m.mat.length ≤ 10000
 insts : m.insts.length ≤ 100
 acts : ∀ x, x ∈ m.insts → x.acts.length ≤ 1000000
def fmSizesI : List Int := [1, 1, 2, 2, 2, 4, 4, 4, 2]
theorem fsizes_c : FnP Tryz.prog 74 [] (.agg (intL fmSizesI)) := by
 refine FnP.i Tryz.func74 rfl rfl fun G w => ?_
 repeat' (first | apply WK.s | (apply hQ.h; clear hQ hA) | (refine WK.R Tryz.ntmps74 ?_; intro A hA Q hQ; simp [*]) | (refine WK.t Tryz.func74 ?_ ?_ <;> simp (config := zd) [Tryz.results74, fmSizesI, intL, *]))
theorem fnumbers_c (m : FlowMod) : FnP Tryz.prog 75 [.iptr m.enc] (.agg (intL (fmNums m))) := by
 unfold FlowMod.enc
 refine FnP.i Tryz.func75 rfl rfl fun G w => ?_
 repeat' (first | apply WK.s | (refine hQ.h _ _ ?_; clear hQ hA) | (refine WK.R Tryz.ntmps75 ?_; intro A hA Q hQ; simp [*]) | (refine WK.X Tryz.ntmps75 ?_; intro A hA Q hQ; simp [*]) | (refine hQ.h _ _ _ (by decide +kernel) ?_; clear hQ hA) | (refine WK.t Tryz.func75 ?_ ?_ <;> simp (config := zd) [Tryz.results75, fmNums, intL, *]))
theorem fmakes_c (m : FlowMod) : FnP Tryz.prog 137 [.iptr m.enc] (.bool (decide (0 ≤ m.command) && decide (m.command ≤ 2))) := by
 unfold FlowMod.enc
 by_cases h1 : 0 ≤ m.command
 · refine FnP.i Tryz.func137 rfl rfl fun G w => ?_
   repeat' (first | apply WK.s | (apply hQ.h; clear hQ hA) | (refine WK.R Tryz.ntmps137 ?_; intro A hA Q hQ; simp [*]) | (refine RunQ.g rfl (by rw [hA.h]; rfl) ?_; simp [*]) | (refine WK.t Tryz.func137 ?_ ?_ <;> simp (config := zd) [Tryz.results137, *]))
 · refine FnP.i Tryz.func137 rfl rfl fun G w => ?_
   repeat' (first | apply WK.s | (apply hQ.h; clear hQ hA) | (refine WK.R Tryz.ntmps137 ?_; intro A hA Q hQ; simp [*]) | (refine RunQ.g rfl (by rw [hA.h]; rfl) ?_; simp [*]) | (refine WK.t Tryz.func137 ?_ ?_ <;> simp (config := zd) [Tryz.results137, *]))
def actOff (mat : List Oxm) (a : Action) : Bool := a.kind == 25 && !mMet mat a.oxm.field
theorem fmeets_c (m : FlowMod) (l : List Action) (hl : l.length ≤ 1000000) (hm : m.mat.length ≤ 1000000) : FnP Tryz.prog 138 [.iptr m.enc, actS l] (.bool (!l.any (actOff m.mat))) := by
 have mc : ∀ f, FnP Tryz.prog 177 [oxmS m.mat, .int .i64 f] (.bool (mMet m.mat f)) := fun f => met_c m.mat f hm
 unfold actS FlowMod.enc
 refine FnP.i Tryz.func138 rfl rfl fun G w => ?_
 repeat' (first | apply WK.s | apply WK.b | (apply hQ.h; clear hQ hA) | (refine WK.R Tryz.ntmps138 ?_; intro A hA Q hQ; simp [*]))
 refine WK.L (fun n => n) (fun i : Nat => (⟨(upd (upd (upd (upd J 0 (.iptr m.enc)) 7 (.sl false l.length (actL l))) 8 (.int .i64 l.length)) 9 (.int .i64 i)), B0, 0⟩ : St)) (fun i => i ≤ l.length ∧ ∀ j, j < i → actOff m.mat (nth l j) = false) (fun i => l.length - i) (0) (by repeat (first | exact TmW.nil | refine TmW.upd ?_ (by simp (config := zd) [FlowMod.enc]))) (by repeat (first | exact BxW.nil | refine BxW.upd ?_ (by simp (config := zd) [FlowMod.enc]))) (⟨by omega, by simp⟩) (fun i hi IH => ?_)
 by_cases h1 : i < l.length
 · obtain ⟨h4, h3⟩ := act_load l i h1
   have h6 : IntKind.i64.wrap ((i : Int) + 1) = i + 1 := wrap_i64 (by omega) (by omega)
   have c := mc (nth l i).oxm.field
   have hF : actOff m.mat (nth l i) = true → l.any (actOff m.mat) = true := fun h => any_true' h1 h
   have hN : actOff m.mat (nth l i) = false → ∀ j, j < i + 1 → actOff m.mat (nth l j) = false := fun h j hj => by
     by_cases h7 : j = i
     · subst h7; exact h
     · exact hi.2 j (by omega)
   obtain ⟨a, ha⟩ : ∃ a, nth l i = a := ⟨_, rfl⟩
   rw [ha] at h4 c hF hN
   have e : actOff m.mat a = (a.kind == 25 && !mMet m.mat a.oxm.field) := rfl
   unfold Action.enc at h4
   unfold FlowMod.enc oxmS at *
   clear ha hi mc
   cases k1 : a.kind == 25
   · rw [k1] at e
     have hn := hN e
     clear hF hN e c
     repeat' (first | apply WK.s | apply WK.b | apply WK.n | apply WK.k | refine WK.cT rfl ?_ | refine WK.cF rfl ?_ | (refine hQ.h _ _ ?_; clear hQ hA) | (refine WK.R Tryz.ntmps138 ?_; intro A hA Q hQ; simp [*]) | (refine WK.X Tryz.ntmps138 ?_; intro A hA Q hQ; simp [*]) | (refine hQ.h _ _ _ (by decide +kernel) ?_; clear hQ hA) | (refine RunX.gd rfl (by rw [hA.h]; rfl) ?_; simp [*]))
     refine WK.N (fun n => n) (IH (i + 1) (⟨by omega, hn⟩) (by first | omega | (dsimp only; omega)))
   cases k2 : mMet m.mat a.oxm.field
   · rw [k1, k2] at e
     rw [k2] at c
     have hf := hF e
     clear hF hN e
     repeat' (first | apply WK.s | apply WK.b | apply WK.k | refine WK.cT rfl ?_ | (refine hQ.h _ _ ?_; clear hQ hA) | (refine WK.R Tryz.ntmps138 ?_; intro A hA Q hQ; simp [*]) | (refine WK.X Tryz.ntmps138 ?_; intro A hA Q hQ; simp [*]) | (refine hQ.h _ _ _ (by decide +kernel) ?_; clear hQ hA) | (refine RunX.gd rfl (by rw [hA.h]; rfl) ?_; simp [*]) | (refine RunXW.call rfl rfl rfl ?_ (c) ?_ ?_; (focus simp (config := zd) [*]; done); (focus simp [*]; done); refine RunX.e ?_; simp [*]) | (refine WK.t Tryz.func138 ?_ ?_ <;> simp (config := zd) [Tryz.results138, *]))
   · rw [k1, k2] at e
     rw [k2] at c
     have hn := hN e
     clear hF hN e
     repeat' (first | apply WK.s | apply WK.b | apply WK.n | apply WK.k | refine WK.cT rfl ?_ | refine WK.cF rfl ?_ | (refine hQ.h _ _ ?_; clear hQ hA) | (refine WK.R Tryz.ntmps138 ?_; intro A hA Q hQ; simp [*]) | (refine WK.X Tryz.ntmps138 ?_; intro A hA Q hQ; simp [*]) | (refine hQ.h _ _ _ (by decide +kernel) ?_; clear hQ hA) | (refine RunX.gd rfl (by rw [hA.h]; rfl) ?_; simp [*]) | (refine RunXW.call rfl rfl rfl ?_ (c) ?_ ?_; (focus simp (config := zd) [*]; done); (focus simp [*]; done); refine RunX.e ?_; simp [*]))
     refine WK.N (fun n => n) (IH (i + 1) (⟨by omega, hn⟩) (by first | omega | (dsimp only; omega)))
 · have e := any_false' (p := actOff m.mat) (l := l) fun j hj => hi.2 j (by omega)
   unfold FlowMod.enc
   repeat' (first | apply WK.s | refine WK.exit rfl ?_ | refine WK.cF rfl ?_ | (apply hQ.h; clear hQ hA) | (refine WK.R Tryz.ntmps138 ?_; intro A hA Q hQ; simp [*]) | (refine WK.t Tryz.func138 ?_ ?_ <;> simp (config := zd) [Tryz.results138, *]))
theorem fmbad_c (k n : Int) : FnP Tryz.prog 136 [.int .i64 k, .int .i64 n] (.agg (gF (some (k, n)))) := by
 refine FnP.i Tryz.func136 rfl rfl fun G w => ?_
 repeat' (first | apply WK.s | (apply hQ.h; clear hQ hA) | (refine WK.R Tryz.ntmps136 ?_; intro A hA Q hQ; simp [*]) | (refine WK.t Tryz.func136 ?_ ?_ <;> simp (config := zd) [Tryz.results136, gF, *]))
theorem fmWrong_eq (m : FlowMod) : fmWrong m = m.insts.any fun i => i.acts.any (actOff m.mat) := rfl
set_option maxHeartbeats 4000000 in
theorem fmcheck_c (m : FlowMod) (hm : FmB m) : FnP Tryz.prog 79 [.agg m.enc] (.agg (gF (fmCheck m))) := by
 have b6 := fmbad_c 5 6
 have b7 := fmbad_c 5 7
 have b10 := fmbad_c 2 10
 have mk := fmakes_c m
 have me : ∀ l : List Action, l.length ≤ 1000000 → FnP Tryz.prog 138 [.iptr m.enc, actS l] (.bool (!l.any (actOff m.mat))) := fun l hl => fmeets_c m l hl (by have := hm.mat; omega)
 have e : fmCheck m = if m.command < 0 ∨ 4 < m.command then some (5, 6) else if 31 < m.flags then some (5, 7) else if 2 < m.command then none else if fmWrong m = true then some (2, 10) else none := rfl
 have hl := hm.insts
 unfold FlowMod.enc at *
 refine FnP.i Tryz.func79 rfl rfl fun G w => ?_
 repeat' (first | apply WK.s | apply WK.b | (apply hQ.h; clear hQ hA) | (refine WK.R (id := 0) Tryz.ntmps79 ?_; intro A hA Q hQ; simp [*]) | (refine WK.R (id := 1) Tryz.ntmps79 ?_; intro A hA Q hQ; simp [*]))
 refine WK.ghost (Ghost.frzVar 3 rfl rfl) ?_
 by_cases c1 : m.command < 0
 · rw [if_pos (.inl c1)] at e
   rw [e]
   clear e b7 b10 mk me
   repeat' (first | apply WK.s | refine WK.cT rfl ?_ | (apply hQ.h; clear hQ hA) | (refine WK.R Tryz.ntmps79 ?_; intro A hA Q hQ; simp [gF, *]) | (refine RunQ.g rfl (by rw [hA.h]; rfl) ?_; simp [gF, *]) | (refine RunQ.k rfl rfl rfl rfl rfl ?_ (b6) ?_ ?_ <;> simp (config := zd) [gF, *] <;> refine ⟨?_⟩) | (refine WK.t Tryz.func79 ?_ ?_ <;> simp (config := zd) [Tryz.results79, gF, *]))
 by_cases c2 : 4 < m.command
 · rw [if_pos (.inr c2)] at e
   rw [e]
   clear e b7 b10 mk me
   repeat' (first | apply WK.s | refine WK.cT rfl ?_ | (apply hQ.h; clear hQ hA) | (refine WK.R Tryz.ntmps79 ?_; intro A hA Q hQ; simp [gF, *]) | (refine RunQ.g rfl (by rw [hA.h]; rfl) ?_; simp [gF, *]) | (refine RunQ.k rfl rfl rfl rfl rfl ?_ (b6) ?_ ?_ <;> simp (config := zd) [gF, *] <;> refine ⟨?_⟩) | (refine WK.t Tryz.func79 ?_ ?_ <;> simp (config := zd) [Tryz.results79, gF, *]))
 rw [if_neg (by omega)] at e
 by_cases c3 : 31 < m.flags
 · rw [if_pos c3] at e
   rw [e]
   clear e b6 b10 mk me
   repeat' (first | apply WK.s | refine WK.cT rfl ?_ | refine WK.cF rfl ?_ | (apply hQ.h; clear hQ hA) | (refine WK.R Tryz.ntmps79 ?_; intro A hA Q hQ; simp [gF, *]) | (refine RunQ.g rfl (by rw [hA.h]; rfl) ?_; simp [gF, *]) | (refine RunQ.k rfl rfl rfl rfl rfl ?_ (b7) ?_ ?_ <;> simp (config := zd) [gF, *] <;> refine ⟨?_⟩) | (refine WK.t Tryz.func79 ?_ ?_ <;> simp (config := zd) [Tryz.results79, gF, *]))
 rw [if_neg c3] at e
 by_cases c4 : 2 < m.command
 · rw [if_pos c4] at e
   rw [e]
   have d : (decide (0 ≤ m.command) && decide (m.command ≤ 2)) = false := by rw [Bool.and_eq_false_iff, decide_eq_false_iff_not, decide_eq_false_iff_not]; omega
   rw [d] at mk
   clear e b6 b7 b10 me d
   repeat' (first | apply WK.s | refine WK.cT rfl ?_ | refine WK.cF rfl ?_ | (apply hQ.h; clear hQ hA) | (refine WK.R Tryz.ntmps79 ?_; intro A hA Q hQ; simp [gF, *]) | (refine RunQ.g rfl (by rw [hA.h]; rfl) ?_; simp [gF, *]) | (refine RunQ.k rfl rfl rfl rfl rfl ?_ (mk) ?_ ?_ <;> simp (config := zd) [gF, *] <;> refine ⟨?_⟩) | (refine WK.t Tryz.func79 ?_ ?_ <;> simp (config := zd) [Tryz.results79, gF, *]))
 rw [if_neg c4] at e
 have d : (decide (0 ≤ m.command) && decide (m.command ≤ 2)) = true := by rw [Bool.and_eq_true, decide_eq_true_eq, decide_eq_true_eq]; omega
 rw [d] at mk
 rw [fmWrong_eq] at e
 clear b6 b7 d
 repeat' (first | apply WK.s | apply WK.b | apply WK.n | apply WK.k | refine WK.cF rfl ?_ | (apply hQ.h; clear hQ hA) | (refine WK.R Tryz.ntmps79 ?_; intro A hA Q hQ; simp [*]) | (refine RunQ.g rfl (by rw [hA.h]; rfl) ?_; simp [*]) | (refine RunQ.k rfl rfl rfl rfl rfl ?_ (mk) ?_ ?_ <;> simp (config := zd) [*] <;> refine ⟨?_⟩))
 refine WK.L (fun n => if n = 0 then 1 else n) (fun i : Nat => (⟨(upd (upd (upd (upd (upd J 2 (.ptr 0 0)) 3 (.iptr m.enc)) 42 (.sl false m.insts.length (instL m.insts))) 43 (.int .i64 m.insts.length)) 44 (.int .i64 i)), (upd B0 0 (.var [.junk, .junk, .junk])), 0⟩ : St)) (fun i => i ≤ m.insts.length ∧ ∀ j, j < i → (nth m.insts j).acts.any (actOff m.mat) = false) (fun i => m.insts.length - i) (0) (by repeat (first | exact TmW.nil | refine TmW.upd ?_ (by simp (config := zd) [FlowMod.enc]))) (by repeat (first | exact BxW.nil | refine BxW.upd ?_ (by simp (config := zd) [FlowMod.enc]))) (⟨by omega, by simp⟩) (fun i hi IH => ?_)
 clear mk c1 c2 c3 c4
 by_cases h1 : i < m.insts.length
 · have h4 := inst_sub m.insts i h1
   have h3 : 7 ≤ m.insts.length * 7 - i * 7 := by omega
   have h6 : IntKind.i64.wrap ((i : Int) + 1) = i + 1 := wrap_i64 (by omega) (by omega)
   have c := me (nth m.insts i).acts (hm.acts _ (nth_mem h1))
   have hF : (nth m.insts i).acts.any (actOff m.mat) = true → (m.insts.any fun i => i.acts.any (actOff m.mat)) = true := fun h => any_true' (p := fun i : Inst => i.acts.any (actOff m.mat)) h1 h
   have hN : (nth m.insts i).acts.any (actOff m.mat) = false → ∀ j, j < i + 1 → (nth m.insts j).acts.any (actOff m.mat) = false := fun h j hj => by
     by_cases h7 : j = i
     · subst h7; exact h
     · exact hi.2 j (by omega)
   obtain ⟨a, ha⟩ : ∃ a, nth m.insts i = a := ⟨_, rfl⟩
   rw [ha] at h4 c hF hN
   obtain ⟨z, hz⟩ : ∃ z, a.acts.any (actOff m.mat) = z := ⟨_, rfl⟩
   rw [hz] at c hF hN
   unfold Inst.enc at h4
   unfold actS at c
   unfold FlowMod.enc at *
   clear ha hi me hz hm
   cases z
   · have hn := hN rfl
     clear hF hN e b10
     repeat' (first | apply WK.s | apply WK.b | apply WK.n | apply WK.k | refine WK.cT rfl ?_ | refine WK.cF rfl ?_ | (apply hQ.h; clear hQ hA) | (refine WK.R Tryz.ntmps79 ?_; intro A hA Q hQ; simp [*]) | (refine RunQ.k rfl rfl rfl rfl rfl ?_ (c) ?_ ?_ <;> simp (config := zd) [*] <;> refine ⟨?_⟩))
     refine WK.N (fun n => n) (IH (i + 1) (⟨by omega, hn⟩) (by first | omega | (dsimp only; omega)))
   · rw [if_pos (hF rfl)] at e
     rw [e]
     clear hF hN e
     repeat' (first | apply WK.s | apply WK.b | apply WK.k | refine WK.cT rfl ?_ | (apply hQ.h; clear hQ hA) | (refine WK.R Tryz.ntmps79 ?_; intro A hA Q hQ; simp [gF, *]) | (refine RunQ.k rfl rfl rfl rfl rfl ?_ (c) ?_ ?_ <;> simp (config := zd) [gF, *] <;> refine ⟨?_⟩) | (refine RunQ.k rfl rfl rfl rfl rfl ?_ (b10) ?_ ?_ <;> simp (config := zd) [gF, *] <;> refine ⟨?_⟩) | (refine WK.t Tryz.func79 ?_ ?_ <;> simp (config := zd) [Tryz.results79, gF, *]))
 · have ef := any_false' (p := fun i : Inst => i.acts.any (actOff m.mat)) (l := m.insts) fun j hj => hi.2 j (by omega)
   rw [if_neg (by rw [ef]; simp)] at e
   rw [e]
   clear e me b10 ef
   unfold FlowMod.enc at *
   repeat' (first | apply WK.s | refine WK.exit rfl ?_ | refine WK.cF rfl ?_ | (apply hQ.h; clear hQ hA) | (refine WK.R Tryz.ntmps79 ?_; intro A hA Q hQ; simp [gF, *]) | (refine WK.t Tryz.func79 ?_ ?_ <;> simp (config := zd) [Tryz.results79, gF, *]))
theorem fmNums_len (m : FlowMod) : (fmNums m).length = 9 := rfl
theorem fmSize_at : ∀ i : Nat, i < 9 → nth fmSizesI i = ((nth fmSizes i : Nat) : Int) ∧ Sz (nth fmSizes i) ∧ nth fmSizes i ≤ 4 := by
 intro i hi
 have : i = 0 ∨ i = 1 ∨ i = 2 ∨ i = 3 ∨ i = 4 ∨ i = 5 ∨ i = 6 ∨ i = 7 ∨ i = 8 := by omega
 rcases this with rfl | rfl | rfl | rfl | rfl | rfl | rfl | rfl | rfl <;> refine ⟨by rfl, ?_, by decide⟩ <;> unfold Sz <;> decide
theorem nth_zip {α β : Type} [Inhabited α] [Inhabited β] {l : List α} {k : List β} {i : Nat} (h1 : i < l.length) (h2 : i < k.length) : nth (l.zip k) i = (nth l i, nth k i) := by
 rw [nth_eq (l := l.zip k) (i := i) (by rw [List.length_zip]; omega), List.getElem_zip, nth_eq h1, nth_eq h2]
theorem fmZip_at (m : FlowMod) {i : Nat} (h : i < 9) : nth (fmZip m) i = (nth (fmNums m) i, nth fmSizes i) := nth_zip (by rw [fmNums_len]; exact h) h
theorem fmAll_false {m : FlowMod} {i : Nat} (h : i < 9) (hp : numOk (nth (fmNums m) i) (nth fmSizes i) = false) : fmRight m = false := by
 have : (fmZip m).all (fun x => numOk x.1 x.2) = false := all_false (i := i) h (by rw [fmZip_at m h]; exact hp)
 unfold fmRight
 rw [this]; rfl
theorem fmAll_true {m : FlowMod} (h : ∀ j, j < 9 → numOk (nth (fmNums m) j) (nth fmSizes j) = true) : fmRight m = ((mEnc m.mat).2 == 0 && ((inEnc m.insts).2 == 0 && (fmCheck m).isNone)) := by
 have : (fmZip m).all (fun x => numOk x.1 x.2) = true := all_true fun j hj => by rw [fmZip_at m hj]; exact h j hj
 unfold fmRight
 rw [this]; rfl
set_option maxHeartbeats 4000000 in
theorem fmright_c (m : FlowMod) (hm : FmB m) : FnP Tryz.prog 44 [.agg m.enc] (.bool (fmRight m)) := by
 have sz := fsizes_c
 have nm := fnumbers_c m
 have me := mencP_c m.mat hm.mat
 have ie := iencP_c m.insts hm.insts hm.acts
 have ck := fmcheck_c m hm
 have hF : ∀ i, i < 9 → numOk (nth (fmNums m) i) (nth fmSizes i) = false → fmRight m = false := fun i h hp => fmAll_false h hp
 have hT : (∀ j, j < 9 → numOk (nth (fmNums m) j) (nth fmSizes j) = true) → fmRight m = ((mEnc m.mat).2 == 0 && ((inEnc m.insts).2 == 0 && (fmCheck m).isNone)) := fmAll_true
 obtain ⟨N, hN⟩ : ∃ N, fmNums m = N := ⟨_, rfl⟩
 have hNl : N.length = 9 := by rw [← hN]; rfl
 rw [hN] at nm hF hT
 obtain ⟨M, hM⟩ : ∃ M, mEnc m.mat = M := ⟨_, rfl⟩
 obtain ⟨I, hI⟩ : ∃ I, inEnc m.insts = I := ⟨_, rfl⟩
 obtain ⟨C, hC⟩ : ∃ C, fmCheck m = C := ⟨_, rfl⟩
 rw [hM] at me hT
 rw [hI] at ie hT
 rw [hC] at ck hT
 simp only [byS, oxmS, instS] at me ie
 have hnl : (intL N).length = 9 := by rw [intL_len, hNl]
 have hsl : (intL fmSizesI).length = 9 := rfl
 clear hN hM hI hC hm
 unfold FlowMod.enc at *
 refine FnP.i Tryz.func44 rfl rfl fun G w => ?_
 repeat' (first | apply WK.s | (apply hQ.h; clear hQ hA) | (refine WK.R (id := 0) Tryz.ntmps44 ?_; intro A hA Q hQ; simp [*]) | (refine WK.R (id := 1) Tryz.ntmps44 ?_; intro A hA Q hQ; simp [*]))
 refine WK.ghost (Ghost.frzVar 3 rfl rfl) ?_
 repeat' (first | apply WK.s | apply WK.b | (apply hQ.h; clear hQ hA) | (refine WK.R Tryz.ntmps44 ?_; intro A hA Q hQ; simp [*]) | (refine RunQ.k rfl rfl rfl rfl rfl ?_ (sz) ?_ ?_ <;> simp (config := zd) [*] <;> refine ⟨?_⟩) | (refine RunQ.k rfl rfl rfl rfl rfl ?_ (nm) ?_ ?_ <;> simp (config := zd) [*] <;> refine ⟨?_⟩))
 refine WK.L (fun n => if n = 1 then 201 else n) (fun i : Nat => (⟨(upd (upd (upd (upd (upd J 1 (.ptr 0 0)) 3 (.iptr m.enc)) 4 (.ptr 1 0)) 16 (.agg (intL N))) 17 (.int .i64 i)), (upd (upd B0 0 (.var m.enc)) 1 (.var (intL fmSizesI))), 0⟩ : St)) (fun i => i ≤ 9 ∧ ∀ j, j < i → numOk (nth N j) (nth fmSizes j) = true) (fun i => 9 - i) (0) (by repeat (first | exact TmW.nil | refine TmW.upd ?_ (by simp (config := zd) [FlowMod.enc]))) (by repeat (first | exact BxW.nil | refine BxW.upd ?_ (by simp (config := zd) [FlowMod.enc]))) (⟨by omega, by simp⟩) (fun i hi IH => ?_)
 clear sz nm
 unfold FlowMod.enc
 by_cases h1 : i < 9
 · obtain ⟨s1, s2, s3⟩ := fmSize_at i h1
   have h1' : (i : Int) < 9 := by omega
   have h6 : IntKind.i64.wrap ((i : Int) + 1) = i + 1 := wrap_i64 (by omega) (by omega)
   have c := nright_c (nth N i) (nth fmSizes i) s2
   have g1 := intL_get' N i (by omega)
   have g2 := intL_get' fmSizesI i h1
   rw [s1] at g2
   have hFi := hF i h1
   have hNi : numOk (nth N i) (nth fmSizes i) = true → ∀ j, j < i + 1 → numOk (nth N j) (nth fmSizes j) = true := fun h j hj => by
     by_cases h7 : j = i
     · subst h7; exact h
     · exact hi.2 j (by omega)
   obtain ⟨x, hx⟩ : ∃ x, nth N i = x := ⟨_, rfl⟩
   obtain ⟨s, hs⟩ : ∃ x, nth fmSizes i = x := ⟨_, rfl⟩
   rw [hx, hs] at c hFi hNi
   rw [hx] at g1
   rw [hs] at g2
   obtain ⟨z, hz⟩ : ∃ z, numOk x s = z := ⟨_, rfl⟩
   rw [hz] at c hFi hNi
   clear hx hs hz hi hF hT me ie ck s1 s2 s3
   cases z
   · have e := hFi rfl
     clear hNi hFi
     repeat' (first | apply WK.s | apply WK.b | apply WK.k | refine WK.cT rfl ?_ | (apply hQ.h; clear hQ hA) | (refine WK.R Tryz.ntmps44 ?_; intro A hA Q hQ; simp [*]) | (refine RunQ.k rfl rfl rfl rfl rfl ?_ (c) ?_ ?_ <;> simp (config := zd) [*] <;> refine ⟨?_⟩) | (refine WK.t Tryz.func44 ?_ ?_ <;> simp (config := zd) [Tryz.results44, *]))
   · have hn := hNi rfl
     clear hNi hFi
     repeat' (first | apply WK.s | apply WK.b | apply WK.n | apply WK.k | refine WK.cT rfl ?_ | refine WK.cF rfl ?_ | (apply hQ.h; clear hQ hA) | (refine WK.R Tryz.ntmps44 ?_; intro A hA Q hQ; simp [*]) | (refine RunQ.k rfl rfl rfl rfl rfl ?_ (c) ?_ ?_ <;> simp (config := zd) [*] <;> refine ⟨?_⟩))
     refine WK.N (fun n => n) (IH (i + 1) (⟨by omega, hn⟩) (by first | omega | (dsimp only; omega))) (by repeat (first | exact TmW.nil | refine TmW.upd ?_ (by simp (config := zd) [FlowMod.enc]))) (by repeat (first | exact BxW.nil | refine BxW.upd ?_ (by simp (config := zd) [FlowMod.enc])))
 · have e := hT fun j hj => hi.2 j (by omega)
   have h1' : ¬ (i : Int) < 9 := by omega
   clear hF hT hi
   obtain ⟨M1, M2⟩ := M
   obtain ⟨I1, I2⟩ := I
   simp only at me ie e
   cases k1 : M2 == 0
   · rw [k1] at e
     repeat' (first | apply WK.s | refine WK.exit rfl ?_ | refine WK.cF rfl ?_ | (apply hQ.h; clear hQ hA) | (refine WK.R Tryz.ntmps44 ?_; intro A hA Q hQ; simp [*]) | (refine RunQ.g rfl (by rw [hA.h]; rfl) ?_; simp [*]) | (refine RunQ.k rfl rfl rfl rfl rfl ?_ (me) ?_ ?_ <;> simp (config := zd) [*] <;> refine ⟨?_⟩) | (refine RunQ.k rfl rfl rfl rfl rfl ?_ (ie) ?_ ?_ <;> simp (config := zd) [*] <;> refine ⟨?_⟩) | (refine WK.t Tryz.func44 ?_ ?_ <;> simp (config := zd) [Tryz.results44, *]))
   cases k2 : I2 == 0
   · rw [k1, k2] at e
     repeat' (first | apply WK.s | refine WK.exit rfl ?_ | refine WK.cF rfl ?_ | (apply hQ.h; clear hQ hA) | (refine WK.R Tryz.ntmps44 ?_; intro A hA Q hQ; simp [*]) | (refine RunQ.g rfl (by rw [hA.h]; rfl) ?_; simp [*]) | (refine RunQ.k rfl rfl rfl rfl rfl ?_ (me) ?_ ?_ <;> simp (config := zd) [*] <;> refine ⟨?_⟩) | (refine RunQ.k rfl rfl rfl rfl rfl ?_ (ie) ?_ ?_ <;> simp (config := zd) [*] <;> refine ⟨?_⟩) | (refine WK.t Tryz.func44 ?_ ?_ <;> simp (config := zd) [Tryz.results44, *]))
   rw [k1, k2] at e
   cases C <;>
   · repeat' (first | apply WK.s | refine WK.exit rfl ?_ | refine WK.cF rfl ?_ | (apply hQ.h; clear hQ hA) | (refine WK.R Tryz.ntmps44 ?_; intro A hA Q hQ; simp [gF, *]) | (refine RunQ.g rfl (by rw [hA.h]; rfl) ?_; simp [gF, *]) | (refine RunQ.k rfl rfl rfl rfl rfl ?_ (me) ?_ ?_ <;> simp (config := zd) [gF, *] <;> refine ⟨?_⟩) | (refine RunQ.k rfl rfl rfl rfl rfl ?_ (ie) ?_ ?_ <;> simp (config := zd) [gF, *] <;> refine ⟨?_⟩) | (refine RunQW.k rfl rfl rfl rfl ?_ (ck) ?_ ?_ <;> simp (config := zd) [gF, *] <;> refine ⟨?_⟩) | (refine WK.t Tryz.func44 ?_ ?_ <;> simp (config := zd) [Tryz.results44, gF, *]))

set_option maxHeartbeats 4000000 in
theorem rfmcheck_c (m : FlowMod) (hm : FmB m) : FnP Tryz.prog 100 [.agg m.enc] (.agg (gF (fmCheck m))) := by
 have mc : ∀ f, FnP Tryz.prog 159 [oxmS m.mat, .int .i64 f] (.bool (mMet m.mat f)) := fun f => rmet_c m.mat f (by have := hm.mat; omega)
 have e : fmCheck m = if m.command < 0 ∨ 4 < m.command then some (5, 6) else if 31 < m.flags then some (5, 7) else if 2 < m.command then none else if fmWrong m = true then some (2, 10) else none := rfl
 have hl := hm.insts
 have ha := hm.acts
 unfold FlowMod.enc at *
 by_cases c1 : m.command < 0
 · rw [if_pos (.inl c1)] at e
   rw [e]
   clear e mc
   refine FnP.i Tryz.func100 rfl rfl fun G w => ?_
   repeat' (first | apply WK.s | refine WK.cT rfl ?_ | (apply hQ.h; clear hQ hA) | (refine WK.R Tryz.ntmps100 ?_; intro A hA Q hQ; simp [gF, *]) | (refine RunQ.g rfl (by rw [hA.h]; rfl) ?_; simp [gF, *]) | (refine WK.t Tryz.func100 ?_ ?_ <;> simp (config := zd) [Tryz.results100, gF, *]))
 by_cases c2 : 4 < m.command
 · rw [if_pos (.inr c2)] at e
   rw [e]
   clear e mc
   refine FnP.i Tryz.func100 rfl rfl fun G w => ?_
   repeat' (first | apply WK.s | refine WK.cT rfl ?_ | (apply hQ.h; clear hQ hA) | (refine WK.R Tryz.ntmps100 ?_; intro A hA Q hQ; simp [gF, *]) | (refine RunQ.g rfl (by rw [hA.h]; rfl) ?_; simp [gF, *]) | (refine WK.t Tryz.func100 ?_ ?_ <;> simp (config := zd) [Tryz.results100, gF, *]))
 rw [if_neg (by omega)] at e
 by_cases c3 : 31 < m.flags
 · rw [if_pos c3] at e
   rw [e]
   clear e mc
   refine FnP.i Tryz.func100 rfl rfl fun G w => ?_
   repeat' (first | apply WK.s | apply WK.k | refine WK.cT rfl ?_ | refine WK.cF rfl ?_ | (apply hQ.h; clear hQ hA) | (refine WK.R Tryz.ntmps100 ?_; intro A hA Q hQ; simp [gF, *]) | (refine RunQ.g rfl (by rw [hA.h]; rfl) ?_; simp [gF, *]) | (refine WK.t Tryz.func100 ?_ ?_ <;> simp (config := zd) [Tryz.results100, gF, *]))
 rw [if_neg c3] at e
 by_cases c4 : 2 < m.command
 · rw [if_pos c4] at e
   rw [e]
   clear e mc
   refine FnP.i Tryz.func100 rfl rfl fun G w => ?_
   repeat' (first | apply WK.s | apply WK.k | refine WK.cT rfl ?_ | refine WK.cF rfl ?_ | (apply hQ.h; clear hQ hA) | (refine WK.R Tryz.ntmps100 ?_; intro A hA Q hQ; simp [gF, *]) | (refine RunQ.g rfl (by rw [hA.h]; rfl) ?_; simp [gF, *]) | (refine WK.t Tryz.func100 ?_ ?_ <;> simp (config := zd) [Tryz.results100, gF, *]))
 rw [if_neg c4] at e
 rw [fmWrong_eq] at e
 clear hm
 refine FnP.i Tryz.func100 rfl rfl fun G w => ?_
 repeat' (first | apply WK.s | apply WK.b | apply WK.k | refine WK.cF rfl ?_ | (apply hQ.h; clear hQ hA) | (refine WK.R Tryz.ntmps100 ?_; intro A hA Q hQ; simp [*]) | (refine RunQ.g rfl (by rw [hA.h]; rfl) ?_; simp [*]))
 refine WK.L (fun n => n) (fun i : Nat => (⟨(upd (upd (upd J 1 (.ptr 0 0)) 2 (.ptr 1 0)) 3 (.int .i64 i)), (upd (upd B0 0 (.var m.enc)) 1 (.var [.junk, .junk, .junk])), 0⟩ : St)) (fun i => i ≤ m.insts.length ∧ ∀ j, j < i → (nth m.insts j).acts.any (actOff m.mat) = false) (fun i => m.insts.length - i) (0) (by repeat (first | exact TmW.nil | refine TmW.upd ?_ (by simp (config := zd) [FlowMod.enc]))) (by repeat (first | exact BxW.nil | refine BxW.upd ?_ (by simp (config := zd) [FlowMod.enc]))) (⟨by omega, by simp⟩) (fun i hi IH => ?_)
 clear c1 c2 c3 c4
 unfold FlowMod.enc at *
 by_cases h1 : i < m.insts.length
 · have k6 := inst_get6 m.insts i h1
   have h6 : IntKind.i64.wrap ((i : Int) + 1) = i + 1 := wrap_i64 (by omega) (by omega)
   have v6 : i * 7 + 6 < m.insts.length * 7 := by omega
   have hF : (nth m.insts i).acts.any (actOff m.mat) = true → (m.insts.any fun i => i.acts.any (actOff m.mat)) = true := fun h => any_true' (p := fun i : Inst => i.acts.any (actOff m.mat)) h1 h
   have hN : (nth m.insts i).acts.any (actOff m.mat) = false → ∀ j, j < i + 1 → (nth m.insts j).acts.any (actOff m.mat) = false := fun h j hj => by
     by_cases h7 : j = i
     · subst h7; exact h
     · exact hi.2 j (by omega)
   have hal := ha _ (nth_mem h1)
   obtain ⟨Ac, hAc⟩ : ∃ a, (nth m.insts i).acts = a := ⟨_, rfl⟩
   rw [hAc] at k6 hF hN hal
   clear hAc hi ha
   repeat' (first | apply WK.s | apply WK.b | apply WK.k | refine WK.cT rfl ?_ | (apply hQ.h; clear hQ hA) | (refine WK.R Tryz.ntmps100 ?_; intro A hA Q hQ; simp [*]))
   refine WK.L (fun n => n) (fun j : Nat => (⟨(upd (upd (upd (upd J 1 (.ptr 0 0)) 2 (.ptr 1 0)) 3 (.int .i64 i)) 4 (.int .i64 j)), (upd (upd B0 0 (.var m.enc)) 1 (.var [.junk, .junk, .junk])), 0⟩ : St)) (fun j => j ≤ Ac.length ∧ ∀ k, k < j → actOff m.mat (nth Ac k) = false) (fun j => Ac.length - j) (0) (by repeat (first | exact TmW.nil | refine TmW.upd ?_ (by simp (config := zd) [FlowMod.enc]))) (by repeat (first | exact BxW.nil | refine BxW.upd ?_ (by simp (config := zd) [FlowMod.enc]))) (⟨by omega, by simp⟩) (fun j hj IHj => ?_)
   unfold FlowMod.enc
   by_cases g1 : j < Ac.length
   · obtain ⟨g4, g3⟩ := act_load Ac j g1
     have g6 : IntKind.i64.wrap ((j : Int) + 1) = j + 1 := wrap_i64 (by omega) (by omega)
     have c := mc (nth Ac j).oxm.field
     have hFa : actOff m.mat (nth Ac j) = true → Ac.any (actOff m.mat) = true := fun h => any_true' g1 h
     have hNa : actOff m.mat (nth Ac j) = false → ∀ k, k < j + 1 → actOff m.mat (nth Ac k) = false := fun h k hk => by
       by_cases h7 : k = j
       · subst h7; exact h
       · exact hj.2 k (by omega)
     obtain ⟨a, hae⟩ : ∃ a, nth Ac j = a := ⟨_, rfl⟩
     rw [hae] at g4 c hFa hNa
     have ea : actOff m.mat a = (a.kind == 25 && !mMet m.mat a.oxm.field) := rfl
     unfold Action.enc at g4
     unfold oxmS at c
     clear hae hj hN mc
     cases k1 : a.kind == 25
     · rw [k1] at ea
       have hn := hNa ea
       clear hFa hNa ea hF c e
       repeat' (first | apply WK.s | apply WK.b | apply WK.n | apply WK.k | refine WK.cT rfl ?_ | refine WK.cF rfl ?_ | (apply hQ.h; clear hQ hA) | (refine WK.R Tryz.ntmps100 ?_; intro A hA Q hQ; simp [*]) | (refine RunQ.g rfl (by rw [hA.h]; rfl) ?_; simp [*]))
       refine WK.N (fun n => n) (IHj (j + 1) (⟨by omega, hn⟩) (by first | omega | (dsimp only; omega))) (by repeat (first | exact TmW.nil | refine TmW.upd ?_ (by simp (config := zd) [FlowMod.enc]))) (by repeat (first | exact BxW.nil | refine BxW.upd ?_ (by simp (config := zd) [FlowMod.enc])))
     cases k2 : mMet m.mat a.oxm.field
     · rw [k1, k2] at ea
       rw [k2] at c
       rw [if_pos (hF (hFa ea))] at e
       rw [e]
       clear hFa hNa ea hF e
       repeat' (first | apply WK.s | apply WK.b | apply WK.k | refine WK.cT rfl ?_ | (apply hQ.h; clear hQ hA) | (refine WK.R Tryz.ntmps100 ?_; intro A hA Q hQ; simp [gF, *]) | (refine RunQ.g rfl (by rw [hA.h]; rfl) ?_; simp [gF, *]) | (refine RunQW.k rfl rfl rfl rfl ?_ (c) ?_ ?_ <;> simp (config := zd) [gF, *] <;> refine ⟨?_⟩) | (refine WK.t Tryz.func100 ?_ ?_ <;> simp (config := zd) [Tryz.results100, gF, *]))
     · rw [k1, k2] at ea
       rw [k2] at c
       have hn := hNa ea
       clear hFa hNa ea hF e
       repeat' (first | apply WK.s | apply WK.b | apply WK.n | apply WK.k | refine WK.cT rfl ?_ | refine WK.cF rfl ?_ | (apply hQ.h; clear hQ hA) | (refine WK.R Tryz.ntmps100 ?_; intro A hA Q hQ; simp [*]) | (refine RunQ.g rfl (by rw [hA.h]; rfl) ?_; simp [*]) | (refine RunQW.k rfl rfl rfl rfl ?_ (c) ?_ ?_ <;> simp (config := zd) [*] <;> refine ⟨?_⟩))
       refine WK.N (fun n => n) (IHj (j + 1) (⟨by omega, hn⟩) (by first | omega | (dsimp only; omega))) (by repeat (first | exact TmW.nil | refine TmW.upd ?_ (by simp (config := zd) [FlowMod.enc]))) (by repeat (first | exact BxW.nil | refine BxW.upd ?_ (by simp (config := zd) [FlowMod.enc])))
   · have hn := hN (any_false' fun k hk => hj.2 k (by omega))
     clear hN hF hj e mc
     repeat' (first | apply WK.s | apply WK.n | refine WK.exit rfl ?_ | refine WK.cF rfl ?_ | (apply hQ.h; clear hQ hA) | (refine WK.R Tryz.ntmps100 ?_; intro A hA Q hQ; simp [*]))
     refine WK.N (fun n => n) (IH (i + 1) (⟨by omega, hn⟩) (by first | omega | (dsimp only; omega))) (by repeat (first | exact TmW.nil | refine TmW.upd ?_ (by simp (config := zd) [FlowMod.enc]))) (by repeat (first | exact BxW.nil | refine BxW.upd ?_ (by simp (config := zd) [FlowMod.enc])))
 · have ef := any_false' (p := fun i : Inst => i.acts.any (actOff m.mat)) (l := m.insts) fun j hj => hi.2 j (by omega)
   rw [if_neg (by rw [ef]; simp)] at e
   rw [e]
   clear e mc ef
   repeat' (first | apply WK.s | refine WK.exit rfl ?_ | refine WK.cF rfl ?_ | (apply hQ.h; clear hQ hA) | (refine WK.R Tryz.ntmps100 ?_; intro A hA Q hQ; simp [gF, *]) | (refine WK.t Tryz.func100 ?_ ?_ <;> simp (config := zd) [Tryz.results100, gF, *]))
theorem fmRight_ref (m : FlowMod) : fmRight m = (((numOk m.table 1 && numOk m.command 1) && (numOk m.idle 2 && (numOk m.hard 2 && (numOk m.prio 2 && numOk m.flags 2)))) && ((numOk m.buffer 4 && (numOk m.outPort 4 && numOk m.outGroup 4)) && ((mEnc m.mat).2 == 0 && ((inEnc m.insts).2 == 0 && (fmCheck m).isNone)))) := by
 have e : (fmZip m).all (fun x => numOk x.1 x.2) = (numOk m.table 1 && (numOk m.command 1 && (numOk m.idle 2 && (numOk m.hard 2 && (numOk m.prio 2 && (numOk m.buffer 4 && (numOk m.outPort 4 && (numOk m.outGroup 4 && numOk m.flags 2)))))))) := by
   simp only [fmZip, fmNums, fmSizes, List.zip_cons_cons, List.zip_nil_left, List.all_cons, List.all_nil, Bool.and_true]
 unfold fmRight
 rw [e]
 ac_rfl
set_option maxHeartbeats 8000000 in
theorem rfmright_c (m : FlowMod) (hm : FmB m) : FnP Tryz.prog 52 [.agg m.enc] (.bool (fmRight m)) := by
 have me := rmencP_c m.mat hm.mat
 have ie := riencP_c m.insts hm.insts hm.acts
 have ck := rfmcheck_c m hm
 have t1 := rright_c m.table 1 Sz1
 have t2 := rright_c m.command 1 Sz1
 have t3 := rright_c m.idle 2 Sz2
 have t4 := rright_c m.hard 2 Sz2
 have t5 := rright_c m.prio 2 Sz2
 have t6 := rright_c m.flags 2 Sz2
 have t7 := rright_c m.buffer 4 Sz4
 have t8 := rright_c m.outPort 4 Sz4
 have t9 := rright_c m.outGroup 4 Sz4
 have e := fmRight_ref m
 obtain ⟨z1, hz1⟩ : ∃ z, numOk m.table 1 = z := ⟨_, rfl⟩
 obtain ⟨z2, hz2⟩ : ∃ z, numOk m.command 1 = z := ⟨_, rfl⟩
 obtain ⟨z3, hz3⟩ : ∃ z, numOk m.idle 2 = z := ⟨_, rfl⟩
 obtain ⟨z4, hz4⟩ : ∃ z, numOk m.hard 2 = z := ⟨_, rfl⟩
 obtain ⟨z5, hz5⟩ : ∃ z, numOk m.prio 2 = z := ⟨_, rfl⟩
 obtain ⟨z6, hz6⟩ : ∃ z, numOk m.flags 2 = z := ⟨_, rfl⟩
 obtain ⟨z7, hz7⟩ : ∃ z, numOk m.buffer 4 = z := ⟨_, rfl⟩
 obtain ⟨z8, hz8⟩ : ∃ z, numOk m.outPort 4 = z := ⟨_, rfl⟩
 obtain ⟨z9, hz9⟩ : ∃ z, numOk m.outGroup 4 = z := ⟨_, rfl⟩
 rw [hz1] at t1 e
 rw [hz2] at t2 e
 rw [hz3] at t3 e
 rw [hz4] at t4 e
 rw [hz5] at t5 e
 rw [hz6] at t6 e
 rw [hz7] at t7 e
 rw [hz8] at t8 e
 rw [hz9] at t9 e
 obtain ⟨M, hM⟩ : ∃ M, mEnc m.mat = M := ⟨_, rfl⟩
 obtain ⟨I, hI⟩ : ∃ I, inEnc m.insts = I := ⟨_, rfl⟩
 obtain ⟨C, hC⟩ : ∃ C, fmCheck m = C := ⟨_, rfl⟩
 rw [hM] at me e
 rw [hI] at ie e
 rw [hC] at ck e
 simp only [byS, oxmS, instS] at me ie
 clear hz1 hz2 hz3 hz4 hz5 hz6 hz7 hz8 hz9 hM hI hC hm
 unfold FlowMod.enc at *
 obtain ⟨M1, M2⟩ := M
 obtain ⟨I1, I2⟩ := I
 simp only at me ie e
 obtain ⟨p, q, hg⟩ : ∃ p q : Int, gF C = [.bool C.isSome, .int .i64 p, .int .i64 q] := by cases C <;> exact ⟨_, _, rfl⟩
 have hC : C.isNone = !C.isSome := by cases C <;> rfl
 rw [hg] at ck
 rw [hC] at e
 obtain ⟨y, hy⟩ : ∃ y, C.isSome = y := ⟨_, rfl⟩
 rw [hy] at ck e
 clear hg hC hy
 refine FnP.i Tryz.func52 rfl rfl fun G w => ?_
 repeat' (first | apply WK.s | (apply hQ.h; clear hQ hA) | (refine Fork.mk (fun h => ?_) (fun h => ?_) <;> (first | (simp [*] at h; done) | (have h2 := h; simp at h2; exfalso; omega) | (have h2 := h; simp at h2; try simp only [Bool.not_eq_true', Bool.not_eq_false'] at h) | skip)) | (refine WK.R Tryz.ntmps52 ?_; intro A hA Q hQ; simp [*]) | (refine RunQ.g rfl (by rw [hA.h]; rfl) ?_; simp [*]) | (refine RunQ.k rfl rfl rfl rfl rfl ?_ (me) ?_ ?_ <;> simp (config := zd) [*] <;> refine ⟨?_⟩) | (refine RunQ.k rfl rfl rfl rfl rfl ?_ (ie) ?_ ?_ <;> simp (config := zd) [*] <;> refine ⟨?_⟩) | (refine RunQ.k rfl rfl rfl rfl rfl ?_ (t1) ?_ ?_ <;> simp (config := zd) [*] <;> refine ⟨?_⟩) | (refine RunQ.k rfl rfl rfl rfl rfl ?_ (t2) ?_ ?_ <;> simp (config := zd) [*] <;> refine ⟨?_⟩) | (refine RunQ.k rfl rfl rfl rfl rfl ?_ (t3) ?_ ?_ <;> simp (config := zd) [*] <;> refine ⟨?_⟩) | (refine RunQ.k rfl rfl rfl rfl rfl ?_ (t4) ?_ ?_ <;> simp (config := zd) [*] <;> refine ⟨?_⟩) | (refine RunQ.k rfl rfl rfl rfl rfl ?_ (t5) ?_ ?_ <;> simp (config := zd) [*] <;> refine ⟨?_⟩) | (refine RunQ.k rfl rfl rfl rfl rfl ?_ (t6) ?_ ?_ <;> simp (config := zd) [*] <;> refine ⟨?_⟩) | (refine RunQ.k rfl rfl rfl rfl rfl ?_ (t7) ?_ ?_ <;> simp (config := zd) [*] <;> refine ⟨?_⟩) | (refine RunQ.k rfl rfl rfl rfl rfl ?_ (t8) ?_ ?_ <;> simp (config := zd) [*] <;> refine ⟨?_⟩) | (refine RunQ.k rfl rfl rfl rfl rfl ?_ (t9) ?_ ?_ <;> simp (config := zd) [*] <;> refine ⟨?_⟩) | (refine RunQW.k rfl rfl rfl rfl ?_ (t1) ?_ ?_ <;> simp (config := zd) [*] <;> refine ⟨?_⟩) | (refine RunQW.k rfl rfl rfl rfl ?_ (t2) ?_ ?_ <;> simp (config := zd) [*] <;> refine ⟨?_⟩) | (refine RunQW.k rfl rfl rfl rfl ?_ (t3) ?_ ?_ <;> simp (config := zd) [*] <;> refine ⟨?_⟩) | (refine RunQW.k rfl rfl rfl rfl ?_ (t4) ?_ ?_ <;> simp (config := zd) [*] <;> refine ⟨?_⟩) | (refine RunQW.k rfl rfl rfl rfl ?_ (t5) ?_ ?_ <;> simp (config := zd) [*] <;> refine ⟨?_⟩) | (refine RunQW.k rfl rfl rfl rfl ?_ (t6) ?_ ?_ <;> simp (config := zd) [*] <;> refine ⟨?_⟩) | (refine RunQW.k rfl rfl rfl rfl ?_ (t7) ?_ ?_ <;> simp (config := zd) [*] <;> refine ⟨?_⟩) | (refine RunQW.k rfl rfl rfl rfl ?_ (t8) ?_ ?_ <;> simp (config := zd) [*] <;> refine ⟨?_⟩) | (refine RunQW.k rfl rfl rfl rfl ?_ (t9) ?_ ?_ <;> simp (config := zd) [*] <;> refine ⟨?_⟩) | (refine RunQW.k rfl rfl rfl rfl ?_ (ck) ?_ ?_ <;> simp (config := zd) [*] <;> refine ⟨?_⟩) | (refine WK.t Tryz.func52 ?_ ?_ <;> simp (config := zd) [Tryz.results52, *]))
end Go.Proofs.YtmhapglejjehbaaGreat

namespace Go.Proofs.YtmhapglejjehbaaGreat
open Go Go.AI Go.Proofs
inductive Reach (succ : Nat → List Nat) (a : Nat) : Nat → Prop
 | one {x : Nat} (h : x ∈ succ a) : Reach succ a x
 | more {x y : Nat} (h : Reach succ a x) (h' : y ∈ succ x) : Reach succ a y
theorem Reach.first {succ : Nat → List Nat} {a b x : Nat} (h : b ∈ succ a) (h' : Reach succ b x) : Reach succ a x := by
 induction h' with
 | one hx => exact .more (.one h) hx
 | more _ hy ih => exact .more ih hy
def dfs (succ : Nat → List Nat) : Nat → List Nat → Nat → List Nat
 | 0, s, _ => s
 | f + 1, s, a => (succ a).foldl (fun s i => if i ∈ s then s else dfs succ f (s ++ [i]) i) s
structure Seen (succ : Nat → List Nat) (N : Nat) (s : List Nat) (a : Nat) (todo : List Nat) (t : List Nat) : Prop where
 sub : ∀ x, x ∈ s → x ∈ t
 len : s.length ≤ t.length
 nodup : t.Nodup
 small : ∀ x, x ∈ t → x < N
 done : ∀ x, x ∈ todo → x ∈ t
 new : ∀ x, x ∈ t → x ∈ s ∨ (Reach succ a x ∧ ∀ y, y ∈ succ x → y ∈ t)
theorem nodup_lt_length : ∀ (N : Nat) (l : List Nat), l.Nodup → (∀ x, x ∈ l → x < N) → l.length ≤ N
 | 0, l, _, h => by
   cases l with
   | nil => exact Nat.le_refl _
   | cons x l => exact absurd (h x (by simp)) (by omega)
 | N + 1, l, hn, h => by
   by_cases hN : N ∈ l
   · have h1 := nodup_lt_length N (l.erase N) (hn.erase N) (fun x hx => by
       have h2 := h x (List.mem_of_mem_erase hx)
       have h3 : x ≠ N := fun e => by subst e; exact (List.Nodup.not_mem_erase hn) hx
       omega)
     rw [List.length_erase_of_mem hN] at h1
     omega
   · have := nodup_lt_length N l hn (fun x hx => by
       have h2 := h x hx
       have h3 : x ≠ N := fun e => by subst e; exact hN hx
       omega)
     omega
theorem dfs_seen (succ : Nat → List Nat) (N : Nat) (hs : ∀ a x, x ∈ succ a → x < N) : ∀ (f : Nat) (s : List Nat) (a : Nat), s.Nodup → (∀ x, x ∈ s → x < N) → N < f + s.length → Seen succ N s a (succ a) (dfs succ f s a)
 | 0, s, a, hn, hb, hf => by have := nodup_lt_length N s hn hb; omega
 | f + 1, s, a, hn, hb, hf => by
   have key : ∀ (todo s1 : List Nat), (∀ x, x ∈ todo → x ∈ succ a) → Seen succ N s a (List.nil) s1 →
       Seen succ N s a todo (todo.foldl (fun s i => if i ∈ s then s else dfs succ f (s ++ [i]) i) s1) := by
     intro todo
     induction todo with
     | nil => intro s1 _ h; exact h
     | cons i todo ih =>
       intro s1 hsub h
       rw [List.foldl_cons]
       have hia := hsub i (by simp)
       -- behind this one
       obtain ⟨s2, hs2, h2, hi2⟩ : ∃ s2, (if i ∈ s1 then s1 else dfs succ f (s1 ++ [i]) i) = s2 ∧ Seen succ N s a [] s2 ∧ (i ∈ s2 ∧ ∀ x, x ∈ s1 → x ∈ s2) := by
         by_cases hi : i ∈ s1
         · exact ⟨s1, by rw [if_pos hi], h, hi, fun _ h => h⟩
         · refine ⟨_, by rw [if_neg hi], ?_⟩
           have hn1 : (s1 ++ [i]).Nodup := by
             rw [List.nodup_append]
             refine ⟨h.nodup, by simp, ?_⟩
             intro x hx y hy e
             simp only [List.mem_singleton] at hy
             subst hy; subst e; exact hi hx
           have hb1 : ∀ x, x ∈ s1 ++ [i] → x < N := fun x hx => by
             rcases List.mem_append.1 hx with hx | hx
             · exact h.small x hx
             · simp only [List.mem_singleton] at hx; subst hx; exact hs a x hia
           have hr := dfs_seen succ N hs f (s1 ++ [i]) i hn1 hb1 (by have := h.len; simp; omega)
           have hmem : ∀ x, x ∈ s1 → x ∈ dfs succ f (s1 ++ [i]) i := fun x hx => hr.sub x (List.mem_append_left _ hx)
           have himem : i ∈ dfs succ f (s1 ++ [i]) i := hr.sub i (by simp)
           refine ⟨⟨fun x hx => hmem x (h.sub x hx), by have := hr.len; have := h.len; simp at *; omega, hr.nodup, hr.small, fun x hx => by simp at hx, fun x hx => ?_⟩, himem, hmem⟩
           rcases hr.new x hx with h3 | ⟨h3, h4⟩
           · rcases List.mem_append.1 h3 with h3 | h3
             · rcases h.new x h3 with h5 | ⟨h5, h6⟩
               · exact .inl h5
               · exact .inr ⟨h5, fun y hy => hmem y (h6 y hy)⟩
             · simp only [List.mem_singleton] at h3; subst h3
               exact .inr ⟨.one hia, fun y hy => hr.done y hy⟩
           · exact .inr ⟨.first hia h3, h4⟩
       rw [hs2]
       have h3 := ih s2 (fun x hx => hsub x (List.mem_cons_of_mem _ hx)) h2
       -- what was seen stays seen
       have mono : ∀ (todo s1 : List Nat), (∀ x, x ∈ todo → x ∈ succ a) → Seen succ N s a [] s1 → ∀ x, x ∈ s1 → x ∈ todo.foldl (fun s i => if i ∈ s then s else dfs succ f (s ++ [i]) i) s1 := by
         intro todo
         induction todo with
         | nil => intro s1 _ _ x hx; exact hx
         | cons j todo ih2 =>
           intro s1 hsub2 hse x hx
           rw [List.foldl_cons]
           have hja := hsub2 j (by simp)
           by_cases hj : j ∈ s1
           · rw [if_pos hj]; exact ih2 s1 (fun x hx => hsub2 x (List.mem_cons_of_mem _ hx)) hse x hx
           · rw [if_neg hj]
             have hn1 : (s1 ++ [j]).Nodup := by
               rw [List.nodup_append]
               refine ⟨hse.nodup, by simp, ?_⟩
               intro x hx y hy e
               simp only [List.mem_singleton] at hy
               subst hy; subst e; exact hj hx
             have hb1 : ∀ x, x ∈ s1 ++ [j] → x < N := fun x hx => by
               rcases List.mem_append.1 hx with hx | hx
               · exact hse.small x hx
               · simp only [List.mem_singleton] at hx; subst hx; exact hs a x hja
             have hr := dfs_seen succ N hs f (s1 ++ [j]) j hn1 hb1 (by have := hse.len; simp; omega)
             have hmem : ∀ x, x ∈ s1 → x ∈ dfs succ f (s1 ++ [j]) j := fun x hx => hr.sub x (List.mem_append_left _ hx)
             refine ih2 _ (fun x hx => hsub2 x (List.mem_cons_of_mem _ hx)) ⟨fun x hx => hmem x (hse.sub x hx), by have := hr.len; have := hse.len; simp at *; omega, hr.nodup, hr.small, fun x hx => by simp at hx, fun x hx => ?_⟩ x (hmem x hx)
             rcases hr.new x hx with h3 | ⟨h3, h4⟩
             · rcases List.mem_append.1 h3 with h3 | h3
               · rcases hse.new x h3 with h5 | ⟨h5, h6⟩
                 · exact .inl h5
                 · exact .inr ⟨h5, fun y hy => hmem y (h6 y hy)⟩
               · simp only [List.mem_singleton] at h3; subst h3
                 exact .inr ⟨.one hja, fun y hy => hr.done y hy⟩
             · exact .inr ⟨.first hja h3, h4⟩
       refine ⟨h3.sub, h3.len, h3.nodup, h3.small, fun x hx => ?_, h3.new⟩
       rcases List.mem_cons.1 hx with rfl | hx
       · exact mono todo s2 (fun x hx => hsub x (List.mem_cons_of_mem _ hx)) h2 x hi2.1
       · exact h3.done x hx
   exact key (succ a) s (fun _ h => h) ⟨fun _ h => h, Nat.le_refl _, hn, hb, fun x hx => by simp at hx, fun x hx => .inl hx⟩
theorem dfs_reach (succ : Nat → List Nat) (N : Nat) (hs : ∀ a x, x ∈ succ a → x < N) (a : Nat) (f : Nat) (hf : N < f) (x : Nat) : x ∈ dfs succ f [] a ↔ Reach succ a x := by
 have h := dfs_seen succ N hs f [] a (by simp) (by simp) (by simpa using hf)
 constructor
 · intro hx
   rcases h.new x hx with h1 | h1
   · simp at h1
   · exact h1.1
 · intro hr
   induction hr with
   | one hx => exact h.done _ hx
   | more _ hy ih =>
     rcases h.new _ ih with h1 | h1
     · simp at h1
     · exact h1.2 _ hy
def bfsOne (p : List Nat × List Nat) (i : Nat) : List Nat × List Nat := if i ∈ p.1 then p else (p.1 ++ [i], p.2 ++ [i])
def bfs (succ : Nat → List Nat) : Nat → List Nat → List Nat → List Nat
 | 0, _, s => s
 | _ + 1, [], s => s
 | f + 1, a :: t, s => bfs succ f ((succ a).foldl bfsOne (s, t)).2 ((succ a).foldl bfsOne (s, t)).1
structure Bf (succ : Nat → List Nat) (N from_ : Nat) (s t : List Nat) : Prop where
 nodup : s.Nodup
 small : ∀ x, x ∈ s → x < N
 todo : ∀ x, x ∈ t → x = from_ ∨ Reach succ from_ x
 reach : ∀ x, x ∈ s → Reach succ from_ x
 closed : ∀ x, (x = from_ ∨ x ∈ s) → x ∈ t ∨ ∀ y, y ∈ succ x → y ∈ s
theorem bfs_fold (succ : Nat → List Nat) (N r a : Nat) (hs : ∀ x, x ∈ succ a → x < N) (hr : ∀ x, x ∈ succ a → Reach succ r x) : ∀ (l s t : List Nat), (∀ x, x ∈ l → x ∈ succ a) → s.Nodup → (∀ x, x ∈ s → x < N) → (∀ x, x ∈ t → x = r ∨ Reach succ r x) → (∀ x, x ∈ s → Reach succ r x) →
   ∃ n : List Nat, l.foldl bfsOne (s, t) = (s ++ n, t ++ n) ∧ (s ++ n).Nodup ∧ (∀ x, x ∈ n → x < N ∧ Reach succ r x) ∧ ∀ x, x ∈ l → x ∈ s ++ n
 | [], s, t, _, hn, hb, ht, hre => ⟨[], by simp, by simpa using hn, by simp, by simp⟩
 | i :: l, s, t, hl, hn, hb, ht, hre => by
   have hia := hl i (by simp)
   rw [List.foldl_cons]
   by_cases hi : i ∈ s
   · rw [show bfsOne (s, t) i = (s, t) from if_pos hi]
     obtain ⟨n, h1, h2, h3, h4⟩ := bfs_fold succ N r a hs hr l s t (fun x hx => hl x (List.mem_cons_of_mem _ hx)) hn hb ht hre
     refine ⟨n, h1, h2, h3, fun x hx => ?_⟩
     rcases List.mem_cons.1 hx with rfl | hx
     · exact List.mem_append_left _ hi
     · exact h4 x hx
   · rw [show bfsOne (s, t) i = (s ++ [i], t ++ [i]) from if_neg hi]
     obtain ⟨n, h1, h2, h3, h4⟩ := bfs_fold succ N r a hs hr l (s ++ [i]) (t ++ [i]) (fun x hx => hl x (List.mem_cons_of_mem _ hx)) (by
         rw [List.nodup_append]
         refine ⟨hn, by simp, ?_⟩
         intro x hx y hy e
         simp only [List.mem_singleton] at hy
         subst hy; subst e; exact hi hx)
       (fun x hx => by
         rcases List.mem_append.1 hx with hx | hx
         · exact hb x hx
         · simp only [List.mem_singleton] at hx; subst hx; exact hs x hia)
       (fun x hx => by
         rcases List.mem_append.1 hx with hx | hx
         · exact ht x hx
         · simp only [List.mem_singleton] at hx; subst hx; exact .inr (hr x hia))
       (fun x hx => by
         rcases List.mem_append.1 hx with hx | hx
         · exact hre x hx
         · simp only [List.mem_singleton] at hx; subst hx; exact hr x hia)
     refine ⟨i :: n, by rw [h1]; simp, by simpa using h2, fun x hx => ?_, fun x hx => ?_⟩
     · rcases List.mem_cons.1 hx with rfl | hx
       · exact ⟨hs x hia, hr x hia⟩
       · exact h3 x hx
     · rcases List.mem_cons.1 hx with rfl | hx
       · simp
       · have := h4 x hx; simpa using this
theorem Bf.next {succ : Nat → List Nat} {N r a : Nat} {s t : List Nat} (hs : ∀ a x, x ∈ succ a → x < N) (h : Bf succ N r s (a :: t)) :
   ∃ n : List Nat, (succ a).foldl bfsOne (s, t) = (s ++ n, t ++ n) ∧ Bf succ N r (s ++ n) (t ++ n) := by
 have hra : ∀ x, x ∈ succ a → Reach succ r x := fun x hx => by
   rcases h.todo a (by simp) with e | e
   · subst e; exact .one hx
   · exact .more e hx
 obtain ⟨n, h1, h2, h3, h4⟩ := bfs_fold succ N r a (hs a) hra (succ a) s t (fun _ h => h) h.nodup h.small (fun x hx => h.todo x (List.mem_cons_of_mem _ hx)) h.reach
 refine ⟨n, h1, h2, fun x hx => ?_, fun x hx => ?_, fun x hx => ?_, fun x hx => ?_⟩
 · rcases List.mem_append.1 hx with hx | hx
   · exact h.small x hx
   · exact (h3 x hx).1
 · rcases List.mem_append.1 hx with hx | hx
   · exact h.todo x (List.mem_cons_of_mem _ hx)
   · exact .inr (h3 x hx).2
 · rcases List.mem_append.1 hx with hx | hx
   · exact h.reach x hx
   · exact (h3 x hx).2
 · have old : (x = r ∨ x ∈ s) → x ∈ t ++ n ∨ ∀ y, y ∈ succ x → y ∈ s ++ n := fun hx => by
     rcases h.closed x hx with h5 | h5
     · rcases List.mem_cons.1 h5 with h6 | h6
       · subst h6; exact .inr h4
       · exact .inl (List.mem_append_left _ h6)
     · exact .inr fun y hy => List.mem_append_left _ (h5 y hy)
   rcases hx with hx | hx
   · exact old (.inl hx)
   · rcases List.mem_append.1 hx with hx | hx
     · exact old (.inr hx)
     · exact .inl (List.mem_append_right _ hx)
theorem Bf.stop {succ : Nat → List Nat} {N r : Nat} {s : List Nat} (h : Bf succ N r s []) (x : Nat) : x ∈ s ↔ Reach succ r x := by
 refine ⟨h.reach x, fun hr => ?_⟩
 have hc : ∀ x, (x = r ∨ x ∈ s) → ∀ y, y ∈ succ x → y ∈ s := fun x hx => by
   rcases h.closed x hx with h1 | h1
   · simp at h1
   · exact h1
 induction hr with
 | one hx => exact hc r (.inl rfl) _ hx
 | more _ hy ih => exact hc _ (.inr ih) _ hy
theorem Bf.start (succ : Nat → List Nat) (N r : Nat) : Bf succ N r [] [r] :=
 ⟨by simp, by simp, fun x hx => by simp at hx; exact .inl hx, by simp, fun x hx => by
   rcases hx with rfl | hx
   · exact .inl (by simp)
   · simp at hx⟩
theorem Bf.less {succ : Nat → List Nat} {N r : Nat} {s t : List Nat} (h : Bf succ N r s t) : s.length ≤ N := nodup_lt_length N s h.nodup h.small
theorem bfs_reach (succ : Nat → List Nat) (N : Nat) (hs : ∀ a x, x ∈ succ a → x < N) (r : Nat) : ∀ (f : Nat) (s t : List Nat), Bf succ N r s t → t.length + N < f + s.length → ∀ x, x ∈ bfs succ f t s ↔ Reach succ r x
 | 0, s, t, h, hf, x => by have := h.less; omega
 | f + 1, s, [], h, _, x => h.stop x
 | f + 1, s, a :: t, h, hf, x => by
   obtain ⟨n, h1, h2⟩ := h.next hs
   rw [bfs, h1]
   exact bfs_reach succ N hs r f _ _ h2 (by simp at hf ⊢; omega) x

structure Group where
 id : Int
 kind : Int
 buckets : List Bucket
 deriving DecidableEq, Inhabited
def Group.enc (g : Group) : List AV := [.int .i64 g.id, .int .i64 g.kind, .sl false g.buckets.length (bukL g.buckets)]
theorem Group.len (g : Group) : g.enc.length = 3 := rfl
@[simp] theorem Group.cl (g : Group) : ClL g.enc = true := by simp [Group.enc, ClL, Cl]
def gNames (bs : List Bucket) : List Int := bs.flatMap fun b => ofA 22 Action.group b.acts
def gAt (l : List Group) (id : Int) : Option Nat := l.findIdx? fun g => g.id == id
def gPlace (l : List Group) (id : Int) : Int := idxI (fun g => g.id == id) l
theorem gPlace_at (l : List Group) (id : Int) : gPlace l id = match gAt l id with | some i => (i : Int) | none => -1 := rfl
def gSucc (l : List Group) (a : Nat) : List Nat := (gNames (nth l a).buckets).filterMap (gAt l)
theorem gAt_small {l : List Group} {id : Int} {i : Nat} (h : gAt l id = some i) : i < l.length ∧ (nth l i).id = id := by
 unfold gAt at h
 rw [List.findIdx?_eq_some_iff_getElem] at h
 obtain ⟨h1, h2, _⟩ := h
 exact ⟨h1, by rw [nth_eq h1]; simpa using h2⟩
theorem gAt_none {l : List Group} {id : Int} : gAt l id = none ↔ ∀ g, g ∈ l → g.id ≠ id := by
 unfold gAt
 rw [List.findIdx?_eq_none_iff]
 constructor
 · intro h g hg e; have := h g hg; simp [e] at this
 · intro h g hg; simpa using h g hg
theorem gSucc_small (l : List Group) (a x : Nat) (h : x ∈ gSucc l a) : x < l.length := by
 unfold gSucc at h
 rw [List.mem_filterMap] at h
 obtain ⟨id, _, h⟩ := h
 exact (gAt_small h).1
def gSeen (l : List Group) (i : Nat) : List Nat := dfs (gSucc l) (l.length + 1) [] i
def gComes (l : List Group) (i : Nat) : List Nat := bfs (gSucc l) (l.length + 2) [i] []
theorem gSeen_reach (l : List Group) (i x : Nat) : x ∈ gSeen l i ↔ Reach (gSucc l) i x := dfs_reach (gSucc l) l.length (gSucc_small l) i (l.length + 1) (by omega) x
theorem gComes_reach (l : List Group) (i x : Nat) : x ∈ gComes l i ↔ Reach (gSucc l) i x := bfs_reach (gSucc l) l.length (gSucc_small l) i (l.length + 2) [] [i] (Bf.start _ _ _) (by simp; omega) x
def gSelf (l : List Group) (i : Nat) : Bool := (gSeen l i).any fun j => (nth l j).id == (nth l i).id
def gLoop (l : List Group) : Bool := (List.range l.length).any (gSelf l)
theorem gSelf_iff (l : List Group) (i : Nat) : gSelf l i = true ↔ ∃ j, Reach (gSucc l) i j ∧ (nth l j).id = (nth l i).id := by
 unfold gSelf
 rw [List.any_eq_true]
 constructor
 · rintro ⟨j, hj, e⟩; exact ⟨j, (gSeen_reach l i j).1 hj, by simpa using e⟩
 · rintro ⟨j, hj, e⟩; exact ⟨j, (gSeen_reach l i j).2 hj, by simpa using e⟩
theorem gSelf_comes (l : List Group) (i : Nat) : gSelf l i = (List.range l.length).any fun j => decide (j ∈ gComes l i) && (nth l j).id == (nth l i).id := by
 rw [Bool.eq_iff_iff, gSelf_iff, List.any_eq_true]
 constructor
 · rintro ⟨j, hj, e⟩
   have hlt : j < l.length := by
     cases hj with
     | one h => exact gSucc_small l _ _ h
     | more _ h => exact gSucc_small l _ _ h
   exact ⟨j, by simpa using hlt, by simp [(gComes_reach l i j).2 hj, e]⟩
 · rintro ⟨j, hj, e⟩
   rw [Bool.and_eq_true, decide_eq_true_eq, beq_iff_eq] at e
   exact ⟨j, (gComes_reach l i j).1 e.1, e.2⟩
def gWeigh (kind : Int) : Int × Int := if kind = 1 then (1, 2) else (0, 1)
def gWatch (kind port : Int) : Bool := if kind = 3 then decide (1 ≤ port) && decide (port ≤ 6) else port == 4294967295
def gOne (kind : Int) (x : Bucket) : Option Int :=
 if ¬ x.wgroup = 4294967295 then some 6 else if ¬ x.weight = (gWeigh kind).1 then some (gWeigh kind).2 else if gWatch kind x.watch = false then some 13 else none
def gCheckF (kind : Int) : List Bucket → Option Int
 | [] => none
 | x :: r => match gOne kind x with | some c => some c | none => gCheckF kind r
def gCheck (kind : Int) (l : List Bucket) : Option (Int × Int) :=
 if kind < 0 ∨ 3 < kind then some (6, 10) else if 4 < l.length then some (6, 4) else if kind = 2 ∧ ¬ l.length = 1 then some (6, 1) else (gCheckF kind l).map fun c => (6, c)
theorem gCheckF_at {kind : Int} {l : List Bucket} {i : Nat} (h : i < l.length) : gCheckF kind (l.drop i) = match gOne kind (nth l i) with | some c => some c | none => gCheckF kind (l.drop (i + 1)) := by
 rw [List.drop_eq_getElem_cons h, gCheckF, nth_eq h]
def gThere (l : List Group) (bs : List Bucket) : Bool := (gNames bs).all fun id => (gAt l id).isSome
def gNum (id : Int) : Bool := decide (0 ≤ id) && decide (id ≤ 4294967040)
def gOk (l : List Group) (i : Nat) : Bool := gNum (nth l i).id && (gAt l (nth l i).id == some i && ((gCheck (nth l i).kind (nth l i).buckets).isNone && gThere l (nth l i).buckets))
def gRightL (l : List Group) : Bool := decide (l.length ≤ 8) && (!gLoop l && (List.range l.length).all (gOk l))
def Group.same (a b : Group) : Bool := a.id == b.id && (a.kind == b.kind && eqBy Bucket.same a.buckets b.buckets)

theorem gAt_first {l : List Group} {id : Int} {i : Nat} (hi : i < l.length) (h : (nth l i).id = id) (hn : ∀ j, j < i → (nth l j).id ≠ id) : gAt l id = some i := by
 unfold gAt
 rw [List.findIdx?_eq_some_iff_getElem]
 refine ⟨hi, by rw [← nth_eq hi]; simpa using h, fun j hj => ?_⟩
 have hjl : j < l.length := by omega
 have := hn j hj
 rw [← nth_eq hjl]; simpa using this

@[simp] theorem FlowMod.cl (m : FlowMod) : ClL m.enc = true := by simp [FlowMod.enc, ClL, Cl]

structure Switch where
 tab : Nat → List Flow
 groups : List Group
def sw0 : Switch := ⟨fun _ => [], []⟩
def grpL (l : List Group) : List AV := l.flatMap Group.enc
def grpS (l : List Group) : AV := .sl false l.length (grpL l)
@[simp] theorem grpL_len (l : List Group) : (grpL l).length = l.length * 3 := fm_length Group.len l
@[simp] theorem grpL_cl (l : List Group) : ClL (grpL l) = true := ClL_flatMap _ Group.cl l
theorem grp_sub (l : List Group) (i : Nat) (h : i < l.length) : ((grpL l).drop (i * 3)).take 3 = (nth l i).enc := fm_nth Group.len l i h
theorem grp_load (l : List Group) (i : Nat) (h : i < l.length) : ((grpL l).drop (i * 3)).take 3 = (nth l i).enc ∧ 3 ≤ l.length * 3 - i * 3 := ⟨grp_sub l i h, by omega⟩
@[simp] theorem grpS_cl (l : List Group) : Cl (grpS l) = true := by simp [grpS, Cl]
@[simp] theorem grpL_take (l : List Group) : (grpL l).take (l.length * 3) = grpL l := List.take_of_length_le (by simp)
@[simp] theorem grpL_nil : grpL [] = [] := rfl
theorem grpL_app (l m : List Group) : grpL (l ++ m) = grpL l ++ grpL m := List.flatMap_append
@[simp] theorem Group.take (x : Group) : x.enc.take 3 = x.enc := rfl
@[simp] theorem Group.drop (x : Group) : x.enc.drop 3 = [] := rfl
theorem grpL_one (x : Group) : grpL [x] = x.enc := by simp [grpL]
theorem grpL_snoc (l : List Group) (x : Group) : grpL l ++ x.enc = grpL (l ++ [x]) := by rw [grpL_app, grpL_one]
theorem grp_get (l : List Group) (i k : Nat) (h : i < l.length) (hk : k < 3) (h' : i * 3 + k < (grpL l).length) : (grpL l)[i * 3 + k] = ((nth l i).enc)[k]'(by rw [Group.len]; exact hk) := fm_get Group.len l i k h hk h'
def Switch.enc (s : Switch) : List AV := [flowS (s.tab 0), flowS (s.tab 1), flowS (s.tab 2), flowS (s.tab 3), grpS s.groups]
def stGone (gs : List Group) (ids : List Int) : Bool := ids.any fun id => !(gAt gs id).isSome
def stOne (gs : List Group) (at_ : Int) (i : Inst) : Option (Int × Int) :=
 if i.kind = 1 ∧ (i.table ≤ at_ ∨ 4 ≤ i.table) then some (3, 2) else if (i.kind = 3 ∨ i.kind = 4) ∧ stGone gs (ofA 22 Action.group i.acts) = true then some (2, 9) else none
def stMay (gs : List Group) (at_ : Int) : List Inst → Option (Int × Int)
 | [] => none
 | i :: r => match stOne gs at_ i with | some c => some c | none => stMay gs at_ r
theorem stMay_at {gs : List Group} {t : Int} {l : List Inst} {i : Nat} (h : i < l.length) : stMay gs t (l.drop i) = match stOne gs t (nth l i) with | some c => some c | none => stMay gs t (l.drop (i + 1)) := by
 rw [List.drop_eq_getElem_cons h, stMay, nth_eq h]
def stMod (f : Flow) (t : Int) : FlowMod := ⟨f.cookie, 0#64, t, 0, f.idle, f.hard, f.prio, 4294967295, 4294967295, 4294967295, f.flags, f.mat, f.insts⟩
def stFine (gs : List Group) (t : Nat) (f : Flow) : Bool := fmRight (stMod f t) && (stMay gs t f.insts).isNone
def stRight (s : Switch) : Bool := gRightL s.groups && ((s.groups.all fun g => (bkEnc g.buckets).2 == 0) && (List.range 4).all fun t => tRight (s.tab t) && (s.tab t).all (stFine s.groups t))
def Switch.same (a b : Switch) : Bool := ((List.range 4).all fun t => eqBy Flow.same (a.tab t) (b.tab t)) && eqBy Group.same a.groups b.groups
end Go.Proofs.YtmhapglejjehbaaGreat

namespace Go.Proofs.YtmhapglejjehbaaGreat
open Go Go.AI Go.Proofs
attribute [local irreducible] FnP FnO FnB FnT WK RunQ RunQW RunX RunXW
theorem app_grp : AppOk Tryz.prog 31 55 3 40 := ⟨by simp, by simp, by simp, by simp, by simp, by simp, by omega, by omega⟩
theorem indexf_grp (fid : Nat) (caps : List AV) (p : Group → Bool) (l : List Group) (hcl : ClL caps = true) (hl : l.length ≤ 1000000)
   (hf : ∀ x, x ∈ l → FnP Tryz.prog fid (.agg x.enc :: caps) (.bool (p x))) :
   FnP Tryz.prog 73 [grpS l, .fn fid caps] (.int .i64 (idxI p l)) := by
 unfold grpS
 refine FnP.i Tryz.func73 rfl rfl fun G w => ?_
 repeat apply WK.s
 refine WK.G 100 Tryz.ntmps73 ?_
 intro A hA Q hQ
 simp
 apply hQ
 clear hQ hA
 repeat apply WK.s
 refine WK.G 200 Tryz.ntmps73 ?_
 intro A hA Q hQ
 simp
 apply hQ
 clear hQ hA
 repeat (apply WK.b)
 refine WK.L (fun n => n) (fun i : Nat => (⟨(upd (upd (upd (upd J 0 (.sl false l.length (grpL l))) 1 (.fn fid caps)) 7 (.int .i64 l.length)) 8 (.int .i64 i)), B0, 0⟩ : St)) (fun i => i ≤ l.length ∧ ∀ j, j < i → p (nth l j) = false) (fun i => l.length - i) (0) (by repeat (first | exact TmW.nil | refine TmW.upd ?_ (by simp (config := zd) [hcl]))) (by repeat (first | exact BxW.nil | refine BxW.upd ?_ (by simp (config := zd) [hcl]))) (⟨by omega, by simp⟩) (fun i hi IH => ?_)
 repeat apply WK.s
 refine WK.G 300 Tryz.ntmps73 ?_
 intro A hA Q hQ
 simp
 apply hQ
 clear hQ hA
 repeat apply WK.s
 refine WK.c2 rfl (fun h1 => ?_) (fun h1 => ?_)
 · simp at h1
   have h2 : i < l.length := by omega
   have h3 : 3 ≤ l.length * 3 - i * 3 := by omega
   have h4 := grp_sub l i h2
   have h6 : IntKind.i64.wrap ((i : Int) + 1) = i + 1 := wrap_i64 (by omega) (by omega)
   repeat (first | apply WK.s | apply WK.b | apply WK.k)
   refine WK.G 400 Tryz.ntmps73 ?_
   intro A hA Q hQ
   simp
   apply hQ
   clear hQ hA
   repeat apply WK.s
   refine WK.G 500 Tryz.ntmps73 ?_
   intro A hA Q hQ
   simp [h2, h3, h4]
   refine RunQ.call rfl rfl rfl rfl (by rfl) (by simp (config := zd) [hcl]) (hf (nth l i) (nth_mem h2)) (by simp [hcl]) ?_
   refine RunQ.eval ?_
   simp [hcl]
   apply hQ
   clear hQ hA
   refine WK.c2 rfl (fun h5 => ?_) (fun h5 => ?_)
   · have e := idxI_some h2 h5 hi.2
     repeat apply WK.s
     refine WK.G 600 Tryz.ntmps73 ?_
     intro A hA Q hQ
     simp
     apply hQ
     clear hQ hA
     refine WK.t Tryz.func73 (by simp (config := zd) [Tryz.results73, e]) (by simp [e])
   · repeat (first | apply WK.n | apply WK.k)
     refine WK.G 700 Tryz.ntmps73 ?_
     intro A hA Q hQ
     simp [h6]
     apply hQ
     clear hQ hA
     refine WK.N (fun n => n) (IH (i + 1) (⟨by omega, fun j hj => by by_cases h7 : j = i; (subst h7; exact h5); exact hi.2 j (by omega)⟩) (by first | omega | (dsimp only; omega))) (by repeat (first | exact TmW.nil | refine TmW.upd ?_ (by simp (config := zd) [hcl]))) (by repeat (first | exact BxW.nil | refine BxW.upd ?_ (by simp (config := zd) [hcl])))
 · simp at h1
   have e := idxI_none (p := p) (l := l) (fun j hj => hi.2 j (by omega))
   repeat (first | apply WK.s | refine WK.exit rfl ?_)
   refine WK.G 800 Tryz.ntmps73 ?_
   intro A hA Q hQ
   simp
   apply hQ
   clear hQ hA
   refine WK.t Tryz.func73 (by simp (config := zd) [Tryz.results73, e]) (by simp [e])
theorem clone_grpO (l : List Group) (hl : l.length ≤ 1000000) : FnO Tryz.prog 105 [grpS l] l.length 3 (grpL l) := by
 have hb : l.length * 40 ≤ 140737488355328 := by omega
 unfold grpS
 cases l with
 | nil =>
   refine FnO.intro Tryz.func105 rfl rfl fun G w => ?_
   repeat' (first | apply WK.s | apply WK.k | (apply hQ.h; clear hQ hA) | refine WK.condAny rfl ?_ ?_ | (refine WK.R Tryz.ntmps105 ?_; intro A hA Q hQ; simp [*]))
   · refine WK.ghost (Ghost.own 2 900 3 rfl rfl) ?_
     refine WK.retO Tryz.func105 (by rfl) (by rfl) (by simp (config := zd) [grpL_nil]) (by simp [grpL_nil])
   · repeat' (first | (apply hQ.h; clear hQ hA) | (refine RunQ.append0 900 901 app_grp rfl rfl rfl rfl rfl rfl rfl ?_ rfl ?_ ?_ ?_ ?_ ?_ ?_; (focus simp [*]; done); (focus first | omega | simp [*]; done); (focus first | omega | simp [*]; done); (focus simp [*]; done); (focus simp [*]; done); (focus simp [*]; done); refine RunQ.evalH ?_; simp [*]) | (refine WK.retO Tryz.func105 rfl rfl ?_ ?_ <;> simp (config := zd) [grpL_nil, *]))
 | cons x l =>
   have e : (grpL (x :: l)).take ((l.length + 1) * 3) = grpL (x :: l) := List.take_of_length_le (by simp)
   simp only [List.length_cons] at hl hb ⊢
   refine FnO.intro Tryz.func105 rfl rfl fun G w => ?_
   repeat' (first | apply WK.s | apply WK.k | refine WK.cF rfl ?_ | (apply hQ.h; clear hQ hA) | (refine WK.R Tryz.ntmps105 ?_; intro A hA Q hQ; simp [*]) | (refine RunQ.append0 900 901 app_grp rfl rfl rfl rfl rfl rfl rfl ?_ rfl ?_ ?_ ?_ ?_ ?_ ?_; (focus simp [*]; done); (focus first | omega | simp [*]; done); (focus first | omega | simp [*]; done); (focus simp [*]; done); (focus simp [*]; done); (focus simp [*]; done); refine RunQ.evalH ?_; simp [*]) | (refine WK.retO Tryz.func105 rfl rfl ?_ ?_ <;> simp (config := zd) [*]))
theorem grpbad_c (k : Int) : FnP Tryz.prog 124 [.int .i64 k] (.agg (gF (some (6, k)))) := by
 refine FnP.i Tryz.func124 rfl rfl fun G w => ?_
 repeat' (first | apply WK.s | (apply hQ.h; clear hQ hA) | (refine WK.R Tryz.ntmps124 ?_; intro A hA Q hQ; simp [*]) | (refine WK.t Tryz.func124 ?_ ?_ <;> simp (config := zd) [Tryz.results124, gF, *]))
theorem gnum_c (id : Int) : FnP Tryz.prog 70 [.int .i64 id] (.bool (gNum id)) := by
 unfold gNum
 by_cases h1 : 0 ≤ id
 · by_cases h2 : id ≤ 4294967040
   · rw [decide_eq_true h1, decide_eq_true h2]
     refine FnP.i Tryz.func70 rfl rfl fun G w => ?_
     repeat' (first | apply WK.s | (apply hQ.h; clear hQ hA) | (refine WK.R Tryz.ntmps70 ?_; intro A hA Q hQ; simp [*]) | (refine RunQ.g rfl (by rw [hA.h]; rfl) ?_; simp [*]) | (refine WK.t Tryz.func70 ?_ ?_ <;> simp (config := zd) [Tryz.results70, *]))
   · rw [decide_eq_true h1, decide_eq_false h2]
     refine FnP.i Tryz.func70 rfl rfl fun G w => ?_
     repeat' (first | apply WK.s | (apply hQ.h; clear hQ hA) | (refine WK.R Tryz.ntmps70 ?_; intro A hA Q hQ; simp [*]) | (refine RunQ.g rfl (by rw [hA.h]; rfl) ?_; simp [*]) | (refine WK.t Tryz.func70 ?_ ?_ <;> simp (config := zd) [Tryz.results70, *]))
 · rw [decide_eq_false h1]
   refine FnP.i Tryz.func70 rfl rfl fun G w => ?_
   repeat' (first | apply WK.s | (apply hQ.h; clear hQ hA) | (refine WK.R Tryz.ntmps70 ?_; intro A hA Q hQ; simp [*]) | (refine RunQ.g rfl (by rw [hA.h]; rfl) ?_; simp [*]) | (refine WK.t Tryz.func70 ?_ ?_ <;> simp (config := zd) [Tryz.results70, *]))
theorem gwatch_c (kind port : Int) : FnP Tryz.prog 126 [.int .i64 kind, .int .i64 port] (.bool (gWatch kind port)) := by
 unfold gWatch
 by_cases h0 : kind = 3
 · rw [if_pos h0]
   by_cases h1 : 1 ≤ port
   · by_cases h2 : port ≤ 6
     · rw [decide_eq_true h1, decide_eq_true h2]
       refine FnP.i Tryz.func126 rfl rfl fun G w => ?_
       repeat' (first | apply WK.s | refine WK.cT rfl ?_ | (apply hQ.h; clear hQ hA) | (refine WK.R Tryz.ntmps126 ?_; intro A hA Q hQ; simp [*]) | (refine RunQ.g rfl (by rw [hA.h]; rfl) ?_; simp [*]) | (refine WK.t Tryz.func126 ?_ ?_ <;> simp (config := zd) [Tryz.results126, *]))
     · rw [decide_eq_true h1, decide_eq_false h2]
       refine FnP.i Tryz.func126 rfl rfl fun G w => ?_
       repeat' (first | apply WK.s | refine WK.cT rfl ?_ | (apply hQ.h; clear hQ hA) | (refine WK.R Tryz.ntmps126 ?_; intro A hA Q hQ; simp [*]) | (refine RunQ.g rfl (by rw [hA.h]; rfl) ?_; simp [*]) | (refine WK.t Tryz.func126 ?_ ?_ <;> simp (config := zd) [Tryz.results126, *]))
   · rw [decide_eq_false h1]
     refine FnP.i Tryz.func126 rfl rfl fun G w => ?_
     repeat' (first | apply WK.s | refine WK.cT rfl ?_ | (apply hQ.h; clear hQ hA) | (refine WK.R Tryz.ntmps126 ?_; intro A hA Q hQ; simp [*]) | (refine RunQ.g rfl (by rw [hA.h]; rfl) ?_; simp [*]) | (refine WK.t Tryz.func126 ?_ ?_ <;> simp (config := zd) [Tryz.results126, *]))
 · rw [if_neg h0]
   have h0' : (kind == 3) = false := by simpa using h0
   refine FnP.i Tryz.func126 rfl rfl fun G w => ?_
   repeat' (first | apply WK.s | apply WK.k | refine WK.cF rfl ?_ | (apply hQ.h; clear hQ hA) | (refine WK.R Tryz.ntmps126 ?_; intro A hA Q hQ; simp [*]) | (refine WK.t Tryz.func126 ?_ ?_ <;> simp (config := zd) [Tryz.results126, *]))
theorem gplace1_c (g : Group) (id : Int) : FnP Tryz.prog 104 [.agg g.enc, .iptr [.int .i64 id]] (.bool (g.id == id)) := by
 unfold Group.enc
 refine FnP.i Tryz.func104 rfl rfl fun G w => ?_
 repeat' (first | apply WK.s | (apply hQ.h; clear hQ hA) | (refine WK.R Tryz.ntmps104 ?_; intro A hA Q hQ; simp [*]) | (refine WK.t Tryz.func104 ?_ ?_ <;> simp (config := zd) [Tryz.results104, *]))
theorem gplace_c (l : List Group) (id : Int) (hl : l.length ≤ 1000000) : FnP Tryz.prog 56 [grpS l, .int .i64 id] (.int .i64 (gPlace l id)) := by
 have h := indexf_grp 104 [.iptr [.int .i64 id]] (fun g => g.id == id) l (by simp) hl (fun x _ => gplace1_c x id)
 unfold gPlace
 unfold grpS at *
 refine FnP.i Tryz.func56 rfl rfl fun G w => ?_
 repeat apply WK.s
 refine WK.G 100 Tryz.ntmps56 ?_
 intro A hA Q hQ
 simp
 apply hQ
 clear hQ hA
 repeat apply WK.s
 refine WK.ghost (Ghost.frzVar 3 rfl rfl) ?_
 repeat' (first | (apply hQ.h; clear hQ hA) | (refine WK.R Tryz.ntmps56 ?_; intro A hA Q hQ; simp [*]) | (refine RunQ.k rfl rfl rfl rfl rfl ?_ (h) ?_ ?_ <;> simp (config := zd) [*] <;> refine ⟨?_⟩) | (refine WK.t Tryz.func56 ?_ ?_ <;> simp (config := zd) [Tryz.results56, *]))

theorem gNames_succ {l : List Bucket} {i : Nat} (h : i < l.length) : gNames (l.take (i + 1)) = gNames (l.take i) ++ ofA 22 Action.group (nth l i).acts := by
 unfold gNames; rw [take_nth h, List.flatMap_append]; simp
theorem gNames_le (l : List Bucket) (n : Nat) (ha : ∀ x, x ∈ l → x.acts.length ≤ n) : (gNames l).length ≤ l.length * n := by
 induction l with
 | nil => simp [gNames]
 | cons x l ih =>
   have h1 := ofA_le 22 Action.group x.acts
   have h2 := ha x (by simp)
   have h3 := ih (fun y hy => ha y (List.mem_cons_of_mem _ hy))
   have e : gNames (x :: l) = ofA 22 Action.group x.acts ++ gNames l := rfl
   rw [e, List.length_append, List.length_cons, Nat.add_mul]
   omega
theorem gnames_c (l : List Bucket) (hl : l.length ≤ 1000) (ha : ∀ x, x ∈ l → x.acts.length ≤ 1000000) : FnP Tryz.prog 128 [bukS l] (intS (gNames l)) := by
 have hi0 : gNames (l.take 0) = [] := rfl
 unfold bukS intS
 refine FnP.i Tryz.func128 rfl rfl fun G w => ?_
 repeat apply WK.s
 refine WK.G 100 Tryz.ntmps128 ?_
 intro A hA Q hQ
 simp
 apply hQ
 clear hQ hA
 repeat apply WK.s
 refine WK.G 200 Tryz.ntmps128 ?_
 intro A hA Q hQ
 simp
 apply hQ
 clear hQ hA
 repeat apply WK.s
 refine WK.ghost (Ghost.own 3 900 1 rfl rfl) ?_
 refine WK.G 300 Tryz.ntmps128 ?_
 intro A hA Q hQ
 simp
 apply hQ
 clear hQ hA
 repeat (apply WK.b)
 refine WK.L (fun n => if n = 1 then 900 else n) (fun i : Nat => (⟨(upd (upd (upd (upd J 3 (.msl 1 0 (gNames (l.take i)).length)) 6 (.sl false l.length (bukL l))) 7 (.int .i64 l.length)) 8 (.int .i64 i)), (upd B0 1 (.buf 1 (intL (gNames (l.take i))))), 0⟩ : St)) (fun i => i ≤ l.length) (fun i => l.length - i) (0) (by repeat (first | exact TmW.nil | refine TmW.upd ?_ (by simp (config := zd) [gNames, intL]))) (by repeat (first | exact BxW.nil | refine BxW.upd ?_ (by simp (config := zd) [gNames, intL]))) (by omega) (fun i hi IH => ?_)
 by_cases h1 : i < l.length
 · have h1' : (i : Int) < l.length := by omega
   obtain ⟨h4, h3⟩ := buk_load l i h1
   have h6 : IntKind.i64.wrap ((i : Int) + 1) = i + 1 := wrap_i64 (by omega) (by omega)
   have hx := nth_mem h1
   have c := aGroups_c (nth l i).acts (ha _ hx)
   have hs := gNames_succ h1
   obtain ⟨N, hN⟩ : ∃ N, gNames (l.take i) = N := ⟨_, rfl⟩
   obtain ⟨M, hM⟩ : ∃ N, gNames (l.take (i + 1)) = N := ⟨_, rfl⟩
   obtain ⟨K, hK⟩ : ∃ K, ofA 22 Action.group (nth l i).acts = K := ⟨_, rfl⟩
   have hb : (N.length + K.length) * 8 ≤ 140737488355328 := by
     have a1 := gNames_le (l.take i) 1000000 (fun x hx => ha x (List.mem_of_mem_take hx))
     have a2 : (l.take i).length ≤ 1000 := by rw [List.length_take]; omega
     have a3 := ofA_le 22 Action.group (nth l i).acts
     have a4 := ha _ hx
     have a5 : (l.take i).length * 1000000 ≤ 1000 * 1000000 := Nat.mul_le_mul_right _ a2
     rw [hN] at a1
     rw [hK] at a3
     omega
   have hMl : M.length = N.length + K.length := by rw [← hM, hs, List.length_append, hN, hK]
   have hMi : intL M = intL N ++ intL K := by rw [← hM, hs, hN, hK]; simp [intL]
   rw [hK] at c
   rw [hN]
   unfold actS intS at c
   clear hs hK hl ha hi0 hx
   repeat' (first | apply WK.s | apply WK.b | apply WK.n | apply WK.k | refine WK.cT rfl ?_ | (apply hQ.h; clear hQ hA) | (refine WK.R Tryz.ntmps128 ?_; intro A hA Q hQ; simp [Bucket.enc, *]) | (refine RunQ.append 901 appInt rfl rfl rfl rfl rfl rfl rfl rfl rfl ?_ ?_ ?_ ?_ ?_; (focus first | omega | simp [Bucket.enc, *]; done); (focus first | omega | simp [Bucket.enc, *]; done); (focus first | omega | simp [Bucket.enc, *]; done); (focus first | omega | simp [Bucket.enc, *]; done); refine RunQ.evalH ?_; simp [Bucket.enc, *]) | (refine RunQ.k rfl rfl rfl rfl rfl ?_ (c) ?_ ?_ <;> simp (config := zd) [Bucket.enc, *] <;> refine ⟨?_⟩))
   rw [← hM] at hMl hMi
   refine WK.N (fun n => if n = 1 then 901 else n) (IH (i + 1) (by omega) (by first | omega | (dsimp only; omega))) (by repeat (first | exact TmW.nil | refine TmW.upd ?_ (by simp (config := zd) [hMl, hMi]))) (by repeat (first | exact BxW.nil | refine BxW.upd ?_ (by simp (config := zd) [hMl, hMi])))
 · have hil : i = l.length := by omega
   have h1' : ¬ (i : Int) < l.length := by omega
   subst hil
   rw [List.take_length]
   clear IH hi ha hl hi0
   repeat' (first | apply WK.s | refine WK.exit rfl ?_ | refine WK.cF rfl ?_ | (apply hQ.h; clear hQ hA) | (refine WK.R Tryz.ntmps128 ?_; intro A hA Q hQ; simp [*]))
   have hft : (intL (gNames l)).take (gNames l).length = intL (gNames l) := List.take_of_length_le (by simp [intL])
   refine WK.ghost (Ghost.frzSl 2 1 rfl rfl) ?_
   repeat' (first | (refine WK.t Tryz.func128 ?_ ?_ <;> simp (config := zd) [Tryz.results128, *]))
theorem gthere1_c (l : List Group) (id : Int) (hl : l.length ≤ 1000000) : FnP Tryz.prog 129 [.int .i64 id, .iptr [grpS l]] (.bool (!(gAt l id).isSome)) := by
 have p := gplace_c l id hl
 have e : decide (gPlace l id < 0) = !(gAt l id).isSome := by
   rw [gPlace_at]
   cases gAt l id with
   | none => simp
   | some i => simp
 obtain ⟨B, hB⟩ : ∃ B, (!(gAt l id).isSome) = B := ⟨_, rfl⟩
 obtain ⟨P, hP⟩ : ∃ P, gPlace l id = P := ⟨_, rfl⟩
 rw [hB] at e ⊢
 rw [hP] at e p
 clear hB hP
 unfold grpS at *
 refine FnP.i Tryz.func129 rfl rfl fun G w => ?_
 repeat' (first | apply WK.s | (apply hQ.h; clear hQ hA) | (refine WK.R Tryz.ntmps129 ?_; intro A hA Q hQ; simp [*]) | (refine RunQ.k rfl rfl rfl rfl rfl ?_ (p) ?_ ?_ <;> simp (config := zd) [*] <;> refine ⟨?_⟩) | (refine WK.t Tryz.func129 ?_ ?_ <;> simp (config := zd) [Tryz.results129, *]))

theorem indexf_int (fid : Nat) (caps : List AV) (p : Int → Bool) (l : List Int) (hcl : ClL caps = true) (hl : l.length ≤ 1000000000)
   (hf : ∀ x, x ∈ l → FnP Tryz.prog fid (.int .i64 x :: caps) (.bool (p x))) : FnP Tryz.prog 173 [intS l, .fn fid caps] (.int .i64 (idxI p l)) := by
 unfold intS
 refine FnP.i Tryz.func173 rfl rfl fun G w => ?_
 repeat apply WK.s
 refine WK.G 100 Tryz.ntmps173 ?_
 intro A hA Q hQ
 simp
 apply hQ
 clear hQ hA
 repeat apply WK.s
 refine WK.G 200 Tryz.ntmps173 ?_
 intro A hA Q hQ
 simp
 apply hQ
 clear hQ hA
 repeat (apply WK.b)
 refine WK.L (fun n => n) (fun i : Nat => (⟨(upd (upd (upd (upd J 0 (.sl false l.length (intL l))) 1 (.fn fid caps)) 7 (.int .i64 l.length)) 8 (.int .i64 i)), B0, 0⟩ : St)) (fun i => i ≤ l.length ∧ ∀ j, j < i → p (nth l j) = false) (fun i => l.length - i) (0) (by repeat (first | exact TmW.nil | refine TmW.upd ?_ (by simp (config := zd) [hcl]))) (by repeat (first | exact BxW.nil | refine BxW.upd ?_ (by simp (config := zd) [hcl]))) (⟨by omega, by simp⟩) (fun i hi IH => ?_)
 by_cases h1 : i < l.length
 · have h1' : (i : Int) < l.length := by omega
   have h3 : i < (intL l).length := by rw [show (intL l).length = l.length by simp [intL]]; exact h1
   have h4 := intL_get' l i h1
   have h6 : IntKind.i64.wrap ((i : Int) + 1) = i + 1 := wrap_i64 (by omega) (by omega)
   have c := hf (nth l i) (nth_mem h1)
   cases h5 : p (nth l i)
   · rw [h5] at c
     repeat' (first | apply WK.s | apply WK.b | apply WK.n | apply WK.k | refine WK.cT rfl ?_ | refine WK.cF rfl ?_ | (apply hQ.h; clear hQ hA) | (refine WK.R Tryz.ntmps173 ?_; intro A hA Q hQ; simp [*]) | (refine RunQ.k rfl rfl rfl rfl rfl ?_ (c) ?_ ?_ <;> simp (config := zd) [*] <;> refine ⟨?_⟩))
     refine WK.N (fun n => n) (IH (i + 1) (⟨by omega, fun j hj => by by_cases h7 : j = i; (subst h7; exact h5); exact hi.2 j (by omega)⟩) (by first | omega | (dsimp only; omega))) (by repeat (first | exact TmW.nil | refine TmW.upd ?_ (by simp (config := zd) [hcl]))) (by repeat (first | exact BxW.nil | refine BxW.upd ?_ (by simp (config := zd) [hcl])))
   · rw [h5] at c
     have e := idxI_some h1 h5 hi.2
     clear IH hf
     repeat' (first | apply WK.s | apply WK.b | apply WK.k | refine WK.cT rfl ?_ | (apply hQ.h; clear hQ hA) | (refine WK.R Tryz.ntmps173 ?_; intro A hA Q hQ; simp [*]) | (refine RunQ.k rfl rfl rfl rfl rfl ?_ (c) ?_ ?_ <;> simp (config := zd) [*] <;> refine ⟨?_⟩) | (refine WK.t Tryz.func173 ?_ ?_ <;> simp (config := zd) [Tryz.results173, *]))
 · have h1' : ¬ (i : Int) < l.length := by omega
   have e := idxI_none (p := p) (l := l) (fun j hj => hi.2 j (by omega))
   clear IH hf
   repeat' (first | apply WK.s | refine WK.exit rfl ?_ | refine WK.cF rfl ?_ | (apply hQ.h; clear hQ hA) | (refine WK.R Tryz.ntmps173 ?_; intro A hA Q hQ; simp [*]) | (refine WK.t Tryz.func173 ?_ ?_ <;> simp (config := zd) [Tryz.results173, *]))
theorem containsf_int (fid : Nat) (caps : List AV) (p : Int → Bool) (l : List Int) (hcl : ClL caps = true) (hl : l.length ≤ 1000000000)
   (hf : ∀ x, x ∈ l → FnP Tryz.prog fid (.int .i64 x :: caps) (.bool (p x))) : FnP Tryz.prog 127 [intS l, .fn fid caps] (.bool (l.any p)) := by
 have e := idxI_ge p l
 simp only [ge_iff_le] at e
 have c := indexf_int fid caps p l hcl hl hf
 unfold intS at *
 clear hf
 refine FnP.i Tryz.func127 rfl rfl fun G w => ?_
 repeat' (first | apply WK.s | (apply hQ.h; clear hQ hA) | (refine WK.R Tryz.ntmps127 ?_; intro A hA Q hQ; simp [*]) | (refine RunQ.k rfl rfl rfl rfl rfl ?_ (c) ?_ ?_ <;> simp (config := zd) [*] <;> refine ⟨?_⟩) | (refine WK.t Tryz.func127 ?_ ?_ <;> simp (config := zd) [Tryz.results127, *]))
theorem gthere_c (l : List Group) (bs : List Bucket) (hl : l.length ≤ 1000000) (hb : bs.length ≤ 1000) (ha : ∀ x, x ∈ bs → x.acts.length ≤ 1000000) : FnP Tryz.prog 72 [grpS l, bukS bs] (.bool (gThere l bs)) := by
 have hn := gNames_le bs 1000000 ha
 have hn' : bs.length * 1000000 ≤ 1000 * 1000000 := Nat.mul_le_mul_right _ hb
 have p := gnames_c bs hb ha
 have c := containsf_int 129 [.iptr [grpS l]] (fun id => !(gAt l id).isSome) (gNames bs) (by simp) (by omega) (fun x _ => gthere1_c l x hl)
 have e : gThere l bs = !((gNames bs).any fun id => !(gAt l id).isSome) := by
   unfold gThere
   rw [List.not_any_eq_all_not]
   simp
 obtain ⟨S, hS⟩ : ∃ S, gThere l bs = S := ⟨_, rfl⟩
 obtain ⟨T, hT⟩ : ∃ T, ((gNames bs).any fun id => !(gAt l id).isSome) = T := ⟨_, rfl⟩
 rw [hS, hT] at e
 rw [hT] at c
 rw [hS]
 clear hS hT hn hn' ha
 unfold grpS bukS at *
 unfold intS at *
 refine FnP.i Tryz.func72 rfl rfl fun G w => ?_
 repeat apply WK.s
 refine WK.G 100 Tryz.ntmps72 ?_
 intro A hA Q hQ
 simp
 apply hQ
 clear hQ hA
 repeat apply WK.s
 refine WK.ghost (Ghost.frzVar 2 rfl rfl) ?_
 repeat' (first | (apply hQ.h; clear hQ hA) | (refine WK.R Tryz.ntmps72 ?_; intro A hA Q hQ; simp [*]) | (refine RunQ.k rfl rfl rfl rfl rfl ?_ (p) ?_ ?_ <;> simp (config := zd) [*] <;> refine ⟨?_⟩) | (refine RunQ.k rfl rfl rfl rfl rfl ?_ (c) ?_ ?_ <;> simp (config := zd) [*] <;> refine ⟨?_⟩) | (refine WK.t Tryz.func72 ?_ ?_ <;> simp (config := zd) [Tryz.results72, *]))
end Go.Proofs.YtmhapglejjehbaaGreat
