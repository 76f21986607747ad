/- Tables that are plain; the places of flows that are taken rise. -/
import Derived.Test.YtmhapglejjehbaaGreatAf
import Derived.Test.YtmhapglejjehbaaGreatWk4
import Derived.Test.YtmhapglejjehbaaGreatAe
import Derived.Test.YtmhapglejjehbaaGreatWk2
import Derived.Test.YtmhapglejjehbaaGreatDa
set_option linter.all false
set_option linter.unnecessarySimpa false
namespace Go.Proofs.YtmhapglejjehbaaGreat
open Go Go.AI Go.Proofs
theorem indexf_flow (fid : Nat) (caps : List AV) (p : Flow → Bool) (l : List Flow) (hcl : ClL caps = true) (hl : l.length ≤ 1000000)
   (hf : ∀ x, x ∈ l → FnP Tryz.prog fid (.agg x.enc :: caps) (.bool (p x))) :
   FnP Tryz.prog 87 [flowS l, .fn fid caps] (.int .i64 (idxI p l)) := by
 unfold flowS
 refine FnP.i Tryz.func87 rfl rfl fun G w => ?_
 refine WK.z ?_
 first | refine WK.G 100 Tryz.ntmps87 ?_ | refine WK.D 100 Tryz.ntmps87 ?_
 intro A hA Q hQ
 simp
 apply hQ
 clear hQ hA
 refine WK.z ?_
 first | refine WK.G 200 Tryz.ntmps87 ?_ | refine WK.D 200 Tryz.ntmps87 ?_
 intro A hA Q hQ
 simp
 apply hQ
 clear hQ hA
 refine WK.z ?_
 refine WK.L (fun n => n) (fun i : Nat => (⟨(upd (upd (upd (upd J 0 (.sl false l.length (flowL l))) 1 (.fn fid caps)) 7 (.int .i64 l.length)) 8 (.int .i64 i)), B0, 0⟩ : St)) (fun i => i ≤ l.length ∧ ∀ j, j < i → p (nth l j) = false) (fun i => l.length - i) (0) (by repeat (first | exact TmW.nil | refine TmW.upd ?_ (by simp (config := zd) [hcl]))) (by repeat (first | exact BxW.nil | refine BxW.upd ?_ (by simp (config := zd) [hcl]))) (⟨by omega, by simp⟩) (fun i hi IH => ?_)
 refine WK.z ?_
 first | refine WK.G 300 Tryz.ntmps87 ?_ | refine WK.D 300 Tryz.ntmps87 ?_
 intro A hA Q hQ
 simp
 apply hQ
 clear hQ hA
 refine WK.z ?_
 refine WK.c2 rfl (fun h1 => ?_) (fun h1 => ?_)
 · simp at h1
   have h2 : i < l.length := by omega
   have h3 : 7 ≤ l.length * 7 - i * 7 := by omega
   have h4 := flow_sub l i h2
   have h6 : IntKind.i64.wrap ((i : Int) + 1) = i + 1 := wrap_i64 (by omega) (by omega)
   refine WK.z ?_
   first | refine WK.G 400 Tryz.ntmps87 ?_ | refine WK.D 400 Tryz.ntmps87 ?_
   intro A hA Q hQ
   simp
   apply hQ
   clear hQ hA
   refine WK.z ?_
   first | refine WK.G 500 Tryz.ntmps87 ?_ | refine WK.D 500 Tryz.ntmps87 ?_
   intro A hA Q hQ
   simp [h2, h3, h4]
   refine RunQ.call rfl rfl rfl rfl (by rfl) (by simp (config := zd) [hcl]) (hf (nth l i) (nth_mem h2)) (by simp [hcl]) ?_
   refine RunQ.eval ?_
   simp [hcl]
   apply hQ
   clear hQ hA
   refine WK.z ?_
   refine WK.c2 rfl (fun h5 => ?_) (fun h5 => ?_)
   · have e := idxI_some h2 h5 hi.2
     refine WK.z ?_
     first | refine WK.G 600 Tryz.ntmps87 ?_ | refine WK.D 600 Tryz.ntmps87 ?_
     intro A hA Q hQ
     simp
     apply hQ
     clear hQ hA
     refine WK.z ?_
     refine WK.t Tryz.func87 (by simp (config := zd) [Tryz.results87, e]) (by simp [e])
   · refine WK.z ?_
     first | refine WK.G 700 Tryz.ntmps87 ?_ | refine WK.D 700 Tryz.ntmps87 ?_
     intro A hA Q hQ
     simp [h6]
     apply hQ
     clear hQ hA
     refine WK.z ?_
     refine WK.N (fun n => n) (IH (i + 1) (⟨by omega, fun j hj => by by_cases h7 : j = i; (subst h7; exact h5); exact hi.2 j (by omega)⟩) (by first | omega | (dsimp only; omega))) (by repeat (first | exact TmW.nil | refine TmW.upd ?_ (by simp (config := zd) [hcl]))) (by repeat (first | exact BxW.nil | refine BxW.upd ?_ (by simp (config := zd) [hcl])))
 · simp at h1
   have e := idxI_none (p := p) (l := l) (fun j hj => hi.2 j (by omega))
   refine WK.z ?_
   first | refine WK.G 800 Tryz.ntmps87 ?_ | refine WK.D 800 Tryz.ntmps87 ?_
   intro A hA Q hQ
   simp
   apply hQ
   clear hQ hA
   refine WK.z ?_
   refine WK.t Tryz.func87 (by simp (config := zd) [Tryz.results87, e]) (by simp [e])
theorem containsf_flow (fid : Nat) (caps : List AV) (p : Flow → Bool) (l : List Flow) (hcl : ClL caps = true) (hl : l.length ≤ 1000000)
   (hf : ∀ x, x ∈ l → FnP Tryz.prog fid (.agg x.enc :: caps) (.bool (p x))) :
   FnP Tryz.prog 48 [flowS l, .fn fid caps] (.bool (l.any p)) := by
 have e := idxI_ge p l
 simp only [ge_iff_le] at e
 refine FnP.i Tryz.func48 rfl rfl fun G w => ?_
 refine WK.z ?_
 first | refine WK.G 100 Tryz.ntmps48 ?_ | refine WK.D 100 Tryz.ntmps48 ?_
 intro A hA Q hQ
 simp
 apply hQ
 clear hQ hA
 refine WK.z ?_
 first | refine WK.G 200 Tryz.ntmps48 ?_ | refine WK.D 200 Tryz.ntmps48 ?_
 intro A hA Q hQ
 simp
 refine RunQ.call rfl rfl rfl rfl (by rfl) (by simp (config := zd) [hcl]) (indexf_flow fid caps p l hcl hl hf) (by simp [hcl]) ?_
 refine RunQ.eval ?_
 simp [hcl]
 apply hQ
 clear hQ hA
 refine WK.z ?_
 refine WK.t Tryz.func48 (by simp (config := zd) [Tryz.results48, e]) (by simp [e])
def flowsPlain (l : List Flow) (n : Int) : Bool := decide ((l.length : Int) ≤ n) && l.all Flow.plain
theorem pflow1_c (f : Flow) : FnP Tryz.prog 60 [.agg f.enc] (.bool (!Flow.plain f)) := by
 refine FnP.i Tryz.func60 rfl rfl fun G w => ?_
 refine WK.z ?_
 first | refine WK.G 100 Tryz.ntmps60 ?_ | refine WK.D 100 Tryz.ntmps60 ?_
 intro A hA Q hQ
 simp
 apply hQ
 clear hQ hA
 refine WK.z ?_
 first | refine WK.G 200 Tryz.ntmps60 ?_ | refine WK.D 200 Tryz.ntmps60 ?_
 intro A hA Q hQ
 simp
 refine RunQ.call rfl rfl rfl rfl (by rfl) (by simp (config := zd)) (pFlow_c f) (by simp) ?_
 refine RunQ.eval ?_
 simp
 apply hQ
 clear hQ hA
 refine WK.z ?_
 refine WK.t Tryz.func60 (by simp (config := zd) [Tryz.results60]) (by simp)
theorem pFlows_c (l : List Flow) (n : Int) (hn : n ≤ 1000000) : FnP Tryz.prog 36 [flowS l, .int .i64 n] (.bool (flowsPlain l n)) := by
 have e : (!(l.any fun f => !Flow.plain f)) = l.all Flow.plain := by rw [List.any_eq_not_all_not]; simp
 unfold flowS
 cases k : decide ((l.length : Int) ≤ n)
 · refine FnP.i Tryz.func36 rfl rfl fun G w => ?_
   refine WK.z ?_
   first | refine WK.G 100 Tryz.ntmps36 ?_ | refine WK.D 100 Tryz.ntmps36 ?_
   intro A hA Q hQ
   simp
   apply hQ
   clear hQ hA
   refine WK.z ?_
   first | refine WK.G 200 Tryz.ntmps36 ?_ | refine WK.D 200 Tryz.ntmps36 ?_
   intro A hA Q hQ
   have hg4 : (A[4]?).bind (·.dst) = some 9 := by rw [hA]; rfl
   simp [k, hg4]
   apply hQ
   clear hQ hA
   refine WK.z ?_
   refine WK.t Tryz.func36 (by simp (config := zd) [Tryz.results36, flowsPlain, k]) (by simp [flowsPlain, k])
 · have hl : l.length ≤ 1000000 := by have := of_decide_eq_true k; omega
   refine FnP.i Tryz.func36 rfl rfl fun G w => ?_
   refine WK.z ?_
   first | refine WK.G 100 Tryz.ntmps36 ?_ | refine WK.D 100 Tryz.ntmps36 ?_
   intro A hA Q hQ
   simp
   apply hQ
   clear hQ hA
   refine WK.z ?_
   first | refine WK.G 200 Tryz.ntmps36 ?_ | refine WK.D 200 Tryz.ntmps36 ?_
   intro A hA Q hQ
   have hg4 : (A[4]?).bind (·.dst) = some 9 := by rw [hA]; rfl
   simp [k, hg4]
   refine RunQ.callG rfl rfl (by simp [hg4, flowS, e]) rfl (by rfl) (by simp (config := zd) [hg4, flowS, e]) (containsf_flow 60 [] (fun f => !Flow.plain f) l rfl hl (fun x _ => pflow1_c x)) (by simp [hg4, flowS, e]) ?_
   refine RunQ.eval ?_
   simp [hg4, flowS, e]
   apply hQ
   clear hQ hA
   refine WK.z ?_
   refine WK.t Tryz.func36 (by simp (config := zd) [Tryz.results36, flowsPlain, k]) (by simp [flowsPlain, k])

theorem int_set (L : List Int) (i : Nat) (v : Int) (h : i < L.length) : (intL L).take i ++ .int .i64 v :: (intL L).drop (i + 1) = intL (L.set i v) := by
 unfold intL
 rw [List.map_set, List.set_eq_take_append_cons_drop]
 simp [h]

theorem intL_nil : intL [] = [] := rfl
def hF : Header := fun i => if i = 0 then ⟨0#64, 1#64⟩ else wideZ
def ahead (k : Int → Int) (x y : Int) : Prop := k y < k x ∨ k x = k y ∧ x < y

def ro (f : Nat → Int) (n : Nat) : List Int := (List.range n).map f

structure F3 where
 is : Bool
 ty : Int
 code : Int
 deriving DecidableEq
def F3.enc (f : F3) : List AV := [.bool f.is, .int .i64 f.ty, .int .i64 f.code]
def F3.zero : F3 := ⟨false, 0, 0⟩
@[simp] theorem F3.len (f : F3) : f.enc.length = 3 := rfl
@[simp] theorem F3.take (f : F3) : f.enc.take 3 = f.enc := rfl
@[simp] theorem F3.drop (f : F3) : f.enc.drop 3 = [] := rfl
def strictB (n : Int) : Bool := bAnd .i64 n 2 != 0
theorem strict_c (n : Int) : FnP Tryz.prog 85 [.int .i64 n] (.bool (strictB n)) := by
 refine FnP.i Tryz.func85 rfl rfl fun G w => ?_
 refine WK.z ?_
 first | refine WK.G 100 Tryz.ntmps85 ?_ | refine WK.D 100 Tryz.ntmps85 ?_
 intro A hA Q hQ
 simp
 apply hQ
 clear hQ hA
 refine WK.z ?_
 first | refine WK.G 200 Tryz.ntmps85 ?_ | refine WK.D 200 Tryz.ntmps85 ?_
 intro A hA Q hQ
 simp
 apply hQ
 clear hQ hA
 refine WK.z ?_
 refine WK.t Tryz.func85 (by simp (config := zd) [Tryz.results85, strictB]) (by simp [strictB])

def badPair (f g : Flow) : Bool := Flow.alike f g || (strictB f.flags && Flow.overlap f g)
def rightRow (l : List Flow) (i : Nat) : Bool := (List.range i).all fun j => !badPair (nth l i) (nth l j)
def rightRows (l : List Flow) : Bool := (List.range l.length).all fun i => rightRow l i
def tRight (l : List Flow) : Bool := decide (l.length ≤ 8) && rightRows l
theorem flow_pre (l : List Flow) (i : Nat) : (flowL l).take (i * 7) = flowL (l.take i) := fm_take Flow.len l i
theorem flow_get4 (l : List Flow) (i : Nat) (h : i < l.length) (h' : i * 7 + 4 < (flowL l).length) : (flowL l)[i * 7 + 4] = .int .i64 (nth l i).flags := fm_get Flow.len l i 4 h (by omega) h'
theorem nth_take {α : Type} [Inhabited α] (l : List α) (i j : Nat) (h : j < i) : nth (l.take i) j = nth l j := by
 unfold nth; rw [List.getD_eq_getElem?_getD, List.getElem?_take, if_pos h, List.getD_eq_getElem?_getD]
theorem row_true {l : List Flow} {i : Nat} (h : ∀ j, j < i → badPair (nth l i) (nth l j) = false) : rightRow l i = true := by
 unfold rightRow; rw [List.all_eq_true]; intro j hj; rw [h j (List.mem_range.1 hj)]; rfl
theorem row_false {l : List Flow} {i j : Nat} (hj : j < i) (h : badPair (nth l i) (nth l j) = true) : rightRow l i = false := all_range_false (p := fun j => !badPair (nth l i) (nth l j)) hj (by rw [h]; rfl)
theorem rows_true {l : List Flow} (h : ∀ i, i < l.length → rightRow l i = true) : rightRows l = true := by
 unfold rightRows; rw [List.all_eq_true]; intro j hj; exact h j (List.mem_range.1 hj)
theorem rows_false {l : List Flow} {i : Nat} (hi : i < l.length) (h : rightRow l i = false) : rightRows l = false := all_range_false (p := fun i => rightRow l i) hi h
set_option maxHeartbeats 2000000 in
theorem tright_c (l : List Flow) (hf : ∀ f, f ∈ l → FOk f) : FnP Tryz.prog 47 [flowS l] (.bool (tRight l)) := by
 unfold flowS
 by_cases h8 : l.length ≤ 8
 case neg =>
   have e : tRight l = false := by unfold tRight; rw [decide_eq_false h8]; rfl
   refine FnP.i Tryz.func47 rfl rfl fun G w => ?_
   refine WK.z ?_
   first | refine WK.G 100 Tryz.ntmps47 ?_ | refine WK.D 100 Tryz.ntmps47 ?_
   intro A hA Q hQ
   simp
   apply hQ
   clear hQ hA
   refine WK.z ?_
   first | refine WK.G 200 Tryz.ntmps47 ?_ | refine WK.D 200 Tryz.ntmps47 ?_
   intro A hA Q hQ
   simp
   apply hQ
   clear hQ hA
   refine WK.z ?_
   refine WK.c2 rfl (fun h => ?_) (fun h => ?_)
   · refine WK.z ?_
     first | refine WK.G 300 Tryz.ntmps47 ?_ | refine WK.D 300 Tryz.ntmps47 ?_
     intro A hA Q hQ
     simp
     apply hQ
     clear hQ hA
     refine WK.z ?_
     refine WK.t Tryz.func47 (by simp (config := zd) [Tryz.results47, e]) (by simp [e])
   · simp at h; omega
 have e0 : tRight l = rightRows l := by unfold tRight; rw [decide_eq_true h8]; rfl
 refine FnP.i Tryz.func47 rfl rfl fun G w => ?_
 refine WK.z ?_
 first | refine WK.G 100 Tryz.ntmps47 ?_ | refine WK.D 100 Tryz.ntmps47 ?_
 intro A hA Q hQ
 simp
 apply hQ
 clear hQ hA
 refine WK.z ?_
 first | refine WK.G 200 Tryz.ntmps47 ?_ | refine WK.D 200 Tryz.ntmps47 ?_
 intro A hA Q hQ
 simp
 apply hQ
 clear hQ hA
 refine WK.z ?_
 refine WK.c2 rfl (fun h => ?_) (fun h => ?_)
 · simp at h; omega
 refine WK.z ?_
 first | refine WK.G 300 Tryz.ntmps47 ?_ | refine WK.D 300 Tryz.ntmps47 ?_
 intro A hA Q hQ
 simp
 apply hQ
 clear hQ hA
 refine WK.z ?_
 refine WK.L (fun n => n) (fun i : Nat => (⟨(upd (upd (upd (upd J 0 (.sl false l.length (flowL l))) 10 (.sl false l.length (flowL l))) 11 (.int .i64 l.length)) 12 (.int .i64 i)), B0, 0⟩ : St)) (fun i => i ≤ l.length ∧ ∀ k, k < i → rightRow l k = true) (fun i => l.length - i) (0) (by repeat (first | exact TmW.nil | refine TmW.upd ?_ (by simp (config := zd)))) (by repeat (first | exact BxW.nil | refine BxW.upd ?_ (by simp (config := zd)))) (⟨by omega, by simp⟩) (fun i hi IH => ?_)
 refine WK.z ?_
 first | refine WK.G 400 Tryz.ntmps47 ?_ | refine WK.D 400 Tryz.ntmps47 ?_
 intro A hA Q hQ
 simp
 apply hQ
 clear hQ hA
 refine WK.z ?_
 refine WK.c2 rfl (fun h1 => ?_) (fun h1 => ?_)
 · simp at h1
   have h2 : i < l.length := by omega
   have h3 : 7 ≤ l.length * 7 - i * 7 := by omega
   have h4 := flow_sub l i h2
   have h6 : IntKind.i64.wrap ((i : Int) + 1) = i + 1 := wrap_i64 (by omega) (by omega)
   have h7 := flow_pre l i
   have h8' : i ≤ l.length := by omega
   obtain ⟨g, hg⟩ : ∃ g, g = nth l i := ⟨_, rfl⟩
   have hgo : FOk g := by rw [hg]; exact hf _ (nth_mem h2)
   rw [← hg] at h4
   refine WK.z ?_
   first | refine WK.G 500 Tryz.ntmps47 ?_ | refine WK.D 500 Tryz.ntmps47 ?_
   intro A hA Q hQ
   simp [h2, h3, h4]
   apply hQ
   clear hQ hA
   refine WK.z ?_
   refine WK.ghost (Ghost.frzVar 4 rfl rfl) ?_
   refine WK.z ?_
   first | refine WK.G 600 Tryz.ntmps47 ?_ | refine WK.D 600 Tryz.ntmps47 ?_
   intro A hA Q hQ
   simp [h7, h8']
   apply hQ
   clear hQ hA
   refine WK.z ?_
   refine WK.L (fun n => n) (fun j : Nat => (⟨(upd (upd (upd (upd (upd (upd (upd (upd J 0 (.sl false l.length (flowL l))) 4 (.iptr g.enc)) 10 (.sl false l.length (flowL l))) 11 (.int .i64 l.length)) 12 (.int .i64 i)) 19 (.sl false i (flowL (l.take i)))) 20 (.int .i64 i)) 21 (.int .i64 j)), B0, 0⟩ : St)) (fun j => j ≤ i ∧ ∀ k, k < j → badPair (nth l i) (nth l k) = false) (fun j => i - j) (0) (by repeat (first | exact TmW.nil | refine TmW.upd ?_ (by simp (config := zd) [h7]))) (by repeat (first | exact BxW.nil | refine BxW.upd ?_ (by simp (config := zd) [h7]))) (⟨by omega, by simp⟩) (fun j hj IHj => ?_)
   refine WK.z ?_
   first | refine WK.G 700 Tryz.ntmps47 ?_ | refine WK.D 700 Tryz.ntmps47 ?_
   intro A hA Q hQ
   simp
   apply hQ
   clear hQ hA
   refine WK.z ?_
   refine WK.c2 rfl (fun h1 => ?_) (fun h1 => ?_)
   · simp at h1
     have j2 : j < i := by omega
     have j2' : j < (l.take i).length := by rw [List.length_take]; omega
     have j3 : 7 ≤ i * 7 - j * 7 := by omega
     have j4 := flow_sub (l.take i) j j2'
     rw [nth_take l i j j2] at j4
     have j5 : (flowL (l.take i)).length = i * 7 := by rw [flowL_len, List.length_take]; congr 1; omega
     have j6 : IntKind.i64.wrap ((j : Int) + 1) = j + 1 := wrap_i64 (by omega) (by omega)
     have hjo : FOk (nth l j) := hf _ (nth_mem (by omega))
     refine WK.z ?_
     first | refine WK.G 800 Tryz.ntmps47 ?_ | refine WK.D 800 Tryz.ntmps47 ?_
     intro A hA Q hQ
     simp [j2, j3, j4, j5]
     apply hQ
     clear hQ hA
     refine WK.z ?_
     apply WK.cut (⟨(upd (upd (upd (upd (upd (upd (upd (upd (upd J 0 (.sl false l.length (flowL l))) 4 (.iptr g.enc)) 10 (.sl false l.length (flowL l))) 11 (.int .i64 l.length)) 12 (.int .i64 i)) 19 (.sl false i (flowL (l.take i)))) 20 (.int .i64 i)) 21 (.int .i64 j)) 37 (.bool (badPair g (nth l j)))), B0, 0⟩ : St)
     · intro hcut
       cases k1 : Flow.alike g (nth l j)
       · cases k2 : strictB g.flags
         · have e : badPair g (nth l j) = false := by unfold badPair; rw [k1, k2]; rfl
           refine WK.z ?_
           first | refine WK.G 900 Tryz.ntmps47 ?_ | refine WK.D 900 Tryz.ntmps47 ?_
           intro A hA Q hQ
           have hg3 : (A[3]?).bind (·.dst) = some 28 := by rw [hA]; rfl
           have hg7 : (A[7]?).bind (·.dst) = some 32 := by rw [hA]; rfl
           simp [Flow.enc, hg3, hg7]
           refine RunQ.call rfl rfl rfl rfl (by rfl) (by simp (config := zd) [Flow.enc, k1, hg3, hg7]) (alike_c g (nth l j) hgo hjo) (by simp [Flow.enc, k1, hg3, hg7]) ?_
           refine RunQ.eval ?_
           simp [Flow.enc, k1, hg3, hg7]
           refine RunQ.callG rfl rfl (by simp [k2, hg3, hg7]) rfl (by rfl) (by simp (config := zd) [k2, hg3, hg7]) (strict_c g.flags) (by simp [k2, hg3, hg7]) ?_
           refine RunQ.eval ?_
           simp [k2, hg3, hg7]
           apply hQ
           clear hQ hA
           refine WK.z ?_
           refine WK.N (fun n => n) hcut (by repeat (first | exact TmW.nil | refine TmW.upd ?_ (by simp (config := zd) [e, Flow.enc]))) (by repeat (first | exact BxW.nil | refine BxW.upd ?_ (by simp (config := zd) [e, Flow.enc])))
         · have e : badPair g (nth l j) = Flow.overlap g (nth l j) := by unfold badPair; rw [k1, k2]; rfl
           refine WK.z ?_
           first | refine WK.G 1000 Tryz.ntmps47 ?_ | refine WK.D 1000 Tryz.ntmps47 ?_
           intro A hA Q hQ
           have hg3 : (A[3]?).bind (·.dst) = some 28 := by rw [hA]; rfl
           have hg7 : (A[7]?).bind (·.dst) = some 32 := by rw [hA]; rfl
           simp [Flow.enc, hg3, hg7]
           refine RunQ.call rfl rfl rfl rfl (by rfl) (by simp (config := zd) [Flow.enc, k1, hg3, hg7]) (alike_c g (nth l j) hgo hjo) (by simp [Flow.enc, k1, hg3, hg7]) ?_
           refine RunQ.eval ?_
           simp [Flow.enc, k1, hg3, hg7]
           refine RunQ.callG rfl rfl (by simp [k2, hg3, hg7]) rfl (by rfl) (by simp (config := zd) [k2, hg3, hg7]) (strict_c g.flags) (by simp [k2, hg3, hg7]) ?_
           refine RunQ.eval ?_
           simp [k2, hg3, hg7]
           refine RunQ.callG rfl rfl (by simp [Flow.enc, hg3, hg7]) rfl (by rfl) (by simp (config := zd) [Flow.enc, hg3, hg7]) (overlap_c g (nth l j) hgo hjo) (by simp [Flow.enc, hg3, hg7]) ?_
           refine RunQ.eval ?_
           simp [Flow.enc, hg3, hg7]
           apply hQ
           clear hQ hA
           refine WK.z ?_
           refine WK.N (fun n => n) hcut (by repeat (first | exact TmW.nil | refine TmW.upd ?_ (by simp (config := zd) [e, Flow.enc]))) (by repeat (first | exact BxW.nil | refine BxW.upd ?_ (by simp (config := zd) [e, Flow.enc])))
       · have e : badPair g (nth l j) = true := by unfold badPair; rw [k1]; rfl
         refine WK.z ?_
         first | refine WK.G 1100 Tryz.ntmps47 ?_ | refine WK.D 1100 Tryz.ntmps47 ?_
         intro A hA Q hQ
         have hg3 : (A[3]?).bind (·.dst) = some 28 := by rw [hA]; rfl
         have hg7 : (A[7]?).bind (·.dst) = some 32 := by rw [hA]; rfl
         simp [Flow.enc, hg3, hg7]
         refine RunQ.call rfl rfl rfl rfl (by rfl) (by simp (config := zd) [Flow.enc, k1, hg3, hg7]) (alike_c g (nth l j) hgo hjo) (by simp [Flow.enc, k1, hg3, hg7]) ?_
         refine RunQ.eval ?_
         simp [Flow.enc, k1, hg3, hg7]
         apply hQ
         clear hQ hA
         refine WK.z ?_
         refine WK.N (fun n => n) hcut (by repeat (first | exact TmW.nil | refine TmW.upd ?_ (by simp (config := zd) [e, Flow.enc]))) (by repeat (first | exact BxW.nil | refine BxW.upd ?_ (by simp (config := zd) [e, Flow.enc])))
     refine WK.z ?_
     refine WK.c2 rfl (fun h => ?_) (fun h => ?_)
     · rw [hg] at h
       have e := rows_false h2 (row_false j2 h)
       refine WK.z ?_
       first | refine WK.G 1200 Tryz.ntmps47 ?_ | refine WK.D 1200 Tryz.ntmps47 ?_
       intro A hA Q hQ
       simp
       apply hQ
       clear hQ hA
       refine WK.z ?_
       refine WK.t Tryz.func47 (by simp (config := zd) [Tryz.results47, e0, e]) (by simp [e0, e])
     · rw [hg] at h
       refine WK.z ?_
       first | refine WK.G 1300 Tryz.ntmps47 ?_ | refine WK.D 1300 Tryz.ntmps47 ?_
       intro A hA Q hQ
       simp [j6]
       apply hQ
       clear hQ hA
       refine WK.z ?_
       refine WK.N (fun n => n) (IHj (j + 1) (⟨by omega, fun k hk => by by_cases h7 : k = j; (subst h7; exact h); exact hj.2 k (by omega)⟩) (by first | omega | (dsimp only; omega))) (by repeat (first | exact TmW.nil | refine TmW.upd ?_ (by simp (config := zd) [j6]))) (by repeat (first | exact BxW.nil | refine BxW.upd ?_ (by simp (config := zd) [j6])))
   · simp at h1
     have hji : j = i := by omega
     have hr := row_true (l := l) (i := i) (fun k hk => hj.2 k (by omega))
     refine WK.z ?_
     first | refine WK.G 1400 Tryz.ntmps47 ?_ | refine WK.D 1400 Tryz.ntmps47 ?_
     intro A hA Q hQ
     simp [h6]
     apply hQ
     clear hQ hA
     refine WK.z ?_
     refine WK.N (fun n => n) (IH (i + 1) (⟨by omega, fun k hk => by by_cases h7 : k = i; (subst h7; exact hr); exact hi.2 k (by omega)⟩) (by first | omega | (dsimp only; omega))) (by repeat (first | exact TmW.nil | refine TmW.upd ?_ (by simp (config := zd) [h6]))) (by repeat (first | exact BxW.nil | refine BxW.upd ?_ (by simp (config := zd) [h6])))
 · simp at h1
   have e := rows_true (l := l) (fun k hk => hi.2 k (by omega))
   refine WK.z ?_
   first | refine WK.G 1500 Tryz.ntmps47 ?_ | refine WK.D 1500 Tryz.ntmps47 ?_
   intro A hA Q hQ
   simp
   apply hQ
   clear hQ hA
   refine WK.z ?_
   refine WK.t Tryz.func47 (by simp (config := zd) [Tryz.results47, e0, e]) (by simp [e0, e])
set_option maxHeartbeats 2000000 in
theorem rtright_c (l : List Flow) (hl : l.length ≤ 1000000) (hf : ∀ f, f ∈ l → FOk f) : FnP Tryz.prog 51 [flowS l] (.bool (tRight l)) := by
 unfold flowS
 refine FnP.i Tryz.func51 rfl rfl fun G w => ?_
 refine WK.z ?_
 first | refine WK.G 100 Tryz.ntmps51 ?_ | refine WK.D 100 Tryz.ntmps51 ?_
 intro A hA Q hQ
 simp
 apply hQ
 clear hQ hA
 refine WK.z ?_
 first | refine WK.G 200 Tryz.ntmps51 ?_ | refine WK.D 200 Tryz.ntmps51 ?_
 intro A hA Q hQ
 simp
 apply hQ
 clear hQ hA
 refine WK.z ?_
 refine WK.L (fun n => n) (fun i : Nat => (⟨(upd (upd J 0 (.sl false l.length (flowL l))) 3 (.int .i64 i)), B0, 0⟩ : St)) (fun i => i ≤ l.length ∧ ∀ k, k < i → rightRow l k = true) (fun i => l.length - i) (0) (by repeat (first | exact TmW.nil | refine TmW.upd ?_ (by simp (config := zd)))) (by repeat (first | exact BxW.nil | refine BxW.upd ?_ (by simp (config := zd)))) (⟨by omega, by simp⟩) (fun i hi IH => ?_)
 refine WK.z ?_
 first | refine WK.G 300 Tryz.ntmps51 ?_ | refine WK.D 300 Tryz.ntmps51 ?_
 intro A hA Q hQ
 simp
 apply hQ
 clear hQ hA
 refine WK.z ?_
 refine WK.c2 rfl (fun h1 => ?_) (fun h1 => ?_)
 · simp at h1
   have h2 : i < l.length := by omega
   have h3 : 7 ≤ l.length * 7 - i * 7 := by omega
   have h4 := flow_sub l i h2
   have h5 := flow_get4 l i h2
   have h6 : IntKind.i64.wrap ((i : Int) + 1) = i + 1 := wrap_i64 (by omega) (by omega)
   have b1 : i * 7 + 4 < l.length * 7 := by omega
   have hgo : FOk (nth l i) := hf _ (nth_mem h2)
   refine WK.z ?_
   first | refine WK.G 400 Tryz.ntmps51 ?_ | refine WK.D 400 Tryz.ntmps51 ?_
   intro A hA Q hQ
   simp
   apply hQ
   clear hQ hA
   refine WK.z ?_
   refine WK.L (fun n => n) (fun j : Nat => (⟨(upd (upd (upd J 0 (.sl false l.length (flowL l))) 3 (.int .i64 i)) 4 (.int .i64 j)), B0, 0⟩ : St)) (fun j => j ≤ i ∧ ∀ k, k < j → badPair (nth l i) (nth l k) = false) (fun j => i - j) (0) (by repeat (first | exact TmW.nil | refine TmW.upd ?_ (by simp (config := zd) [h6]))) (by repeat (first | exact BxW.nil | refine BxW.upd ?_ (by simp (config := zd) [h6]))) (⟨by omega, by simp⟩) (fun j hj IHj => ?_)
   refine WK.z ?_
   first | refine WK.G 500 Tryz.ntmps51 ?_ | refine WK.D 500 Tryz.ntmps51 ?_
   intro A hA Q hQ
   simp
   apply hQ
   clear hQ hA
   refine WK.z ?_
   refine WK.c2 rfl (fun h1 => ?_) (fun h1 => ?_)
   · simp at h1
     have j2 : j < i := by omega
     have j2' : j < l.length := by omega
     have j3 : 7 ≤ l.length * 7 - j * 7 := by omega
     have j4 := flow_sub l j j2'
     have j6 : IntKind.i64.wrap ((j : Int) + 1) = j + 1 := wrap_i64 (by omega) (by omega)
     have hjo : FOk (nth l j) := hf _ (nth_mem (by omega))
     refine WK.z ?_
     apply WK.cut (⟨(upd (upd (upd (upd J 0 (.sl false l.length (flowL l))) 3 (.int .i64 i)) 4 (.int .i64 j)) 44 (.bool (badPair (nth l i) (nth l j)))), B0, 0⟩ : St)
     · intro hcut
       cases k1 : Flow.alike (nth l i) (nth l j)
       · cases k2 : strictB (nth l i).flags
         · have e : badPair (nth l i) (nth l j) = false := by unfold badPair; rw [k1, k2]; rfl
           unfold strictB at k2
           refine WK.z ?_
           first | refine WK.G 600 Tryz.ntmps51 ?_ | refine WK.D 600 Tryz.ntmps51 ?_
           intro A hA Q hQ
           have hg9 : (A[9]?).bind (·.dst) = some 25 := by rw [hA]; rfl
           have hg17 : (A[17]?).bind (·.dst) = some 33 := by rw [hA]; rfl
           simp [h2, h3, h4, j2', j3, j4, hg9, hg17]
           refine RunQ.call rfl rfl rfl rfl (by rfl) (by simp (config := zd) [k1, hg9, hg17, h2, h3, h4, h5, b1, j2', j3, j4, k2]) (ralike_c (nth l i) (nth l j) hgo hjo) (by simp [k1, hg9, hg17, h2, h3, h4, h5, b1, j2', j3, j4, k2]) ?_
           refine RunQ.eval ?_
           simp [k1, hg9, hg17, h2, h3, h4, h5, b1, j2', j3, j4, k2]
           apply hQ
           clear hQ hA
           refine WK.z ?_
           refine WK.N (fun n => n) hcut (by repeat (first | exact TmW.nil | refine TmW.upd ?_ (by simp (config := zd) [e]))) (by repeat (first | exact BxW.nil | refine BxW.upd ?_ (by simp (config := zd) [e])))
         · have e : badPair (nth l i) (nth l j) = Flow.overlap (nth l i) (nth l j) := by unfold badPair; rw [k1, k2]; rfl
           unfold strictB at k2
           refine WK.z ?_
           first | refine WK.G 700 Tryz.ntmps51 ?_ | refine WK.D 700 Tryz.ntmps51 ?_
           intro A hA Q hQ
           have hg9 : (A[9]?).bind (·.dst) = some 25 := by rw [hA]; rfl
           have hg17 : (A[17]?).bind (·.dst) = some 33 := by rw [hA]; rfl
           simp [h2, h3, h4, j2', j3, j4, hg9, hg17]
           refine RunQ.call rfl rfl rfl rfl (by rfl) (by simp (config := zd) [k1, hg9, hg17, h2, h3, h4, h5, b1, j2', j3, j4, k2]) (ralike_c (nth l i) (nth l j) hgo hjo) (by simp [k1, hg9, hg17, h2, h3, h4, h5, b1, j2', j3, j4, k2]) ?_
           refine RunQ.eval ?_
           simp [k1, hg9, hg17, h2, h3, h4, h5, b1, j2', j3, j4, k2]
           refine RunQ.callG rfl rfl (by simp [hg9, hg17]) rfl (by rfl) (by simp (config := zd) [hg9, hg17]) (roverlap_c (nth l i) (nth l j) hgo hjo) (by simp [hg9, hg17]) ?_
           refine RunQ.eval ?_
           simp [hg9, hg17]
           apply hQ
           clear hQ hA
           refine WK.z ?_
           refine WK.N (fun n => n) hcut (by repeat (first | exact TmW.nil | refine TmW.upd ?_ (by simp (config := zd) [e]))) (by repeat (first | exact BxW.nil | refine BxW.upd ?_ (by simp (config := zd) [e])))
       · have e : badPair (nth l i) (nth l j) = true := by unfold badPair; rw [k1]; rfl
         refine WK.z ?_
         first | refine WK.G 800 Tryz.ntmps51 ?_ | refine WK.D 800 Tryz.ntmps51 ?_
         intro A hA Q hQ
         have hg9 : (A[9]?).bind (·.dst) = some 25 := by rw [hA]; rfl
         have hg17 : (A[17]?).bind (·.dst) = some 33 := by rw [hA]; rfl
         simp [h2, h3, h4, j2', j3, j4, hg9, hg17]
         refine RunQ.call rfl rfl rfl rfl (by rfl) (by simp (config := zd) [k1, hg9, hg17]) (ralike_c (nth l i) (nth l j) hgo hjo) (by simp [k1, hg9, hg17]) ?_
         refine RunQ.eval ?_
         simp [k1, hg9, hg17]
         apply hQ
         clear hQ hA
         refine WK.z ?_
         refine WK.N (fun n => n) hcut (by repeat (first | exact TmW.nil | refine TmW.upd ?_ (by simp (config := zd) [e]))) (by repeat (first | exact BxW.nil | refine BxW.upd ?_ (by simp (config := zd) [e])))
     refine WK.z ?_
     refine WK.c2 rfl (fun h => ?_) (fun h => ?_)
     · have e := rows_false h2 (row_false j2 h)
       refine WK.z ?_
       first | refine WK.G 900 Tryz.ntmps51 ?_ | refine WK.D 900 Tryz.ntmps51 ?_
       intro A hA Q hQ
       simp
       apply hQ
       clear hQ hA
       refine WK.z ?_
       refine WK.t Tryz.func51 (by simp (config := zd) [Tryz.results51, tRight, e]) (by simp [tRight, e])
     · refine WK.z ?_
       first | refine WK.G 1000 Tryz.ntmps51 ?_ | refine WK.D 1000 Tryz.ntmps51 ?_
       intro A hA Q hQ
       simp [j6]
       apply hQ
       clear hQ hA
       refine WK.z ?_
       refine WK.N (fun n => n) (IHj (j + 1) (⟨by omega, fun k hk => by by_cases h7 : k = j; (subst h7; exact h); exact hj.2 k (by omega)⟩) (by first | omega | (dsimp only; omega))) (by repeat (first | exact TmW.nil | refine TmW.upd ?_ (by simp (config := zd) [j6]))) (by repeat (first | exact BxW.nil | refine BxW.upd ?_ (by simp (config := zd) [j6])))
   · simp at h1
     have hji : j = i := by omega
     have hr := row_true (l := l) (i := i) (fun k hk => hj.2 k (by omega))
     refine WK.z ?_
     first | refine WK.G 1100 Tryz.ntmps51 ?_ | refine WK.D 1100 Tryz.ntmps51 ?_
     intro A hA Q hQ
     simp [h6]
     apply hQ
     clear hQ hA
     refine WK.z ?_
     refine WK.N (fun n => n) (IH (i + 1) (⟨by omega, fun k hk => by by_cases h7 : k = i; (subst h7; exact hr); exact hi.2 k (by omega)⟩) (by first | omega | (dsimp only; omega))) (by repeat (first | exact TmW.nil | refine TmW.upd ?_ (by simp (config := zd) [h6]))) (by repeat (first | exact BxW.nil | refine BxW.upd ?_ (by simp (config := zd) [h6])))
 · simp at h1
   have e := rows_true (l := l) (fun k hk => hi.2 k (by omega))
   have hd : decide ((l.length : Int) ≤ 8) = decide (l.length ≤ 8) := decide_eq_decide.2 (by omega)
   refine WK.z ?_
   first | refine WK.G 1200 Tryz.ntmps51 ?_ | refine WK.D 1200 Tryz.ntmps51 ?_
   intro A hA Q hQ
   simp
   apply hQ
   clear hQ hA
   refine WK.z ?_
   refine WK.t Tryz.func51 (by simp (config := zd) [Tryz.results51, tRight, e, hd]) (by simp [tRight, e, hd])

theorem eqBy_refl {α : Type} [Inhabited α] {p : α → α → Bool} (h : ∀ x, p x x = true) (l : List α) : eqBy p l l = true := by unfold eqBy; simp [h]
end Go.Proofs.YtmhapglejjehbaaGreat

namespace Go.Proofs.YtmhapglejjehbaaGreat
open Go Go.AI Go.Proofs
attribute [local irreducible] FnP FnO FnB FnT WK RunQ RunQW RunX RunXW
theorem clone_actO (l : List Action) (hl : l.length ≤ 1000000) : FnO Tryz.prog 162 [actS l] l.length 11 (actL l) := by
 have hb : l.length * 88 ≤ 140737488355328 := by omega
 unfold actS
 cases l with
 | nil =>
   refine FnO.intro Tryz.func162 rfl rfl fun G w => ?_
   repeat' (first | apply WK.s | apply WK.k | (apply hQ.h; clear hQ hA) | refine WK.condAny rfl ?_ ?_ | (refine WK.R Tryz.ntmps162 ?_; intro A hA Q hQ; simp [*]))
   · refine WK.ghost (Ghost.own 2 900 11 rfl rfl) ?_
     refine WK.retO Tryz.func162 (by rfl) (by rfl) (by simp (config := zd) [actL_nil]) (by simp [actL_nil])
   · repeat' (first | (apply hQ.h; clear hQ hA) | (refine RunQ.append0 900 901 appAct rfl rfl rfl rfl rfl rfl rfl ?_ rfl ?_ ?_ ?_ ?_ ?_ ?_; (focus simp [*]; done); (focus first | omega | simp [*]; done); (focus first | omega | simp [*]; done); (focus simp [*]; done); (focus simp [*]; done); (focus simp [*]; done); refine RunQ.evalH ?_; simp [*]) | (refine WK.retO Tryz.func162 rfl rfl ?_ ?_ <;> simp (config := zd) [actL_nil, *]))
 | cons x l =>
   have e : (actL (x :: l)).take ((l.length + 1) * 11) = actL (x :: l) := List.take_of_length_le (by simp)
   simp only [List.length_cons] at hl hb ⊢
   refine FnO.intro Tryz.func162 rfl rfl fun G w => ?_
   repeat' (first | apply WK.s | apply WK.k | refine WK.cF rfl ?_ | (apply hQ.h; clear hQ hA) | (refine WK.R Tryz.ntmps162 ?_; intro A hA Q hQ; simp [*]) | (refine RunQ.append0 900 901 appAct rfl rfl rfl rfl rfl rfl rfl ?_ rfl ?_ ?_ ?_ ?_ ?_ ?_; (focus simp [*]; done); (focus first | omega | simp [*]; done); (focus first | omega | simp [*]; done); (focus simp [*]; done); (focus simp [*]; done); (focus simp [*]; done); refine RunQ.evalH ?_; simp [*]) | (refine WK.retO Tryz.func162 rfl rfl ?_ ?_ <;> simp (config := zd) [*]))

theorem eqBy_selfA (l : List Action) : eqBy (fun x y : Action => x == y) l l = true := by unfold eqBy; simp

theorem app_buk : AppOk Tryz.prog 53 98 4 48 := ⟨by simp, by simp, by simp, by simp, by simp, by simp, by omega, by omega⟩
theorem indexf_buk (fid : Nat) (caps : List AV) (p : Bucket → Bool) (l : List Bucket) (hcl : ClL caps = true) (hl : l.length ≤ 1000000)
   (hf : ∀ x, x ∈ l → FnP Tryz.prog fid (.agg x.enc :: caps) (.bool (p x))) :
   FnP Tryz.prog 121 [bukS l, .fn fid caps] (.int .i64 (idxI p l)) := by
 unfold bukS
 refine FnP.i Tryz.func121 rfl rfl fun G w => ?_
 repeat apply WK.s
 refine WK.G 100 Tryz.ntmps121 ?_
 intro A hA Q hQ
 simp
 apply hQ
 clear hQ hA
 repeat apply WK.s
 refine WK.G 200 Tryz.ntmps121 ?_
 intro A hA Q hQ
 simp
 apply hQ
 clear hQ hA
 repeat (apply WK.b)
 refine WK.L (fun n => n) (fun i : Nat => (⟨(upd (upd (upd (upd J 0 (.sl false l.length (bukL l))) 1 (.fn fid caps)) 7 (.int .i64 l.length)) 8 (.int .i64 i)), B0, 0⟩ : St)) (fun i => i ≤ l.length ∧ ∀ j, j < i → p (nth l j) = false) (fun i => l.length - i) (0) (by repeat (first | exact TmW.nil | refine TmW.upd ?_ (by simp (config := zd) [hcl]))) (by repeat (first | exact BxW.nil | refine BxW.upd ?_ (by simp (config := zd) [hcl]))) (⟨by omega, by simp⟩) (fun i hi IH => ?_)
 repeat apply WK.s
 refine WK.G 300 Tryz.ntmps121 ?_
 intro A hA Q hQ
 simp
 apply hQ
 clear hQ hA
 repeat apply WK.s
 refine WK.c2 rfl (fun h1 => ?_) (fun h1 => ?_)
 · simp at h1
   have h2 : i < l.length := by omega
   have h3 : 4 ≤ l.length * 4 - i * 4 := by omega
   have h4 := buk_sub l i h2
   have h6 : IntKind.i64.wrap ((i : Int) + 1) = i + 1 := wrap_i64 (by omega) (by omega)
   repeat (first | apply WK.s | apply WK.b | apply WK.k)
   refine WK.G 400 Tryz.ntmps121 ?_
   intro A hA Q hQ
   simp
   apply hQ
   clear hQ hA
   repeat apply WK.s
   refine WK.G 500 Tryz.ntmps121 ?_
   intro A hA Q hQ
   simp [h2, h3, h4]
   refine RunQ.call rfl rfl rfl rfl (by rfl) (by simp (config := zd) [hcl]) (hf (nth l i) (nth_mem h2)) (by simp [hcl]) ?_
   refine RunQ.eval ?_
   simp [hcl]
   apply hQ
   clear hQ hA
   refine WK.c2 rfl (fun h5 => ?_) (fun h5 => ?_)
   · have e := idxI_some h2 h5 hi.2
     repeat apply WK.s
     refine WK.G 600 Tryz.ntmps121 ?_
     intro A hA Q hQ
     simp
     apply hQ
     clear hQ hA
     refine WK.t Tryz.func121 (by simp (config := zd) [Tryz.results121, e]) (by simp [e])
   · repeat (first | apply WK.n | apply WK.k)
     refine WK.G 700 Tryz.ntmps121 ?_
     intro A hA Q hQ
     simp [h6]
     apply hQ
     clear hQ hA
     refine WK.N (fun n => n) (IH (i + 1) (⟨by omega, fun j hj => by by_cases h7 : j = i; (subst h7; exact h5); exact hi.2 j (by omega)⟩) (by first | omega | (dsimp only; omega))) (by repeat (first | exact TmW.nil | refine TmW.upd ?_ (by simp (config := zd) [hcl]))) (by repeat (first | exact BxW.nil | refine BxW.upd ?_ (by simp (config := zd) [hcl])))
 · simp at h1
   have e := idxI_none (p := p) (l := l) (fun j hj => hi.2 j (by omega))
   repeat (first | apply WK.s | refine WK.exit rfl ?_)
   refine WK.G 800 Tryz.ntmps121 ?_
   intro A hA Q hQ
   simp
   apply hQ
   clear hQ hA
   refine WK.t Tryz.func121 (by simp (config := zd) [Tryz.results121, e]) (by simp [e])
theorem containsf_buk (fid : Nat) (caps : List AV) (p : Bucket → Bool) (l : List Bucket) (hcl : ClL caps = true) (hl : l.length ≤ 1000000)
   (hf : ∀ x, x ∈ l → FnP Tryz.prog fid (.agg x.enc :: caps) (.bool (p x))) :
   FnP Tryz.prog 64 [bukS l, .fn fid caps] (.bool (l.any p)) := by
 have e := idxI_ge p l
 simp only [ge_iff_le] at e
 refine FnP.i Tryz.func64 rfl rfl fun G w => ?_
 repeat apply WK.s
 refine WK.G 100 Tryz.ntmps64 ?_
 intro A hA Q hQ
 simp
 apply hQ
 clear hQ hA
 repeat apply WK.s
 refine WK.G 200 Tryz.ntmps64 ?_
 intro A hA Q hQ
 simp
 refine RunQ.call rfl rfl rfl rfl (by rfl) (by simp (config := zd) [hcl]) (indexf_buk fid caps p l hcl hl hf) (by simp [hcl]) ?_
 refine RunQ.eval ?_
 simp [hcl]
 apply hQ
 clear hQ hA
 refine WK.t Tryz.func64 (by simp (config := zd) [Tryz.results64, e]) (by simp [e])
def gF : Option (Int × Int) → List AV
 | none => [.bool false, .int .i64 0, .int .i64 0]
 | some x => [.bool true, .int .i64 x.1, .int .i64 x.2]

theorem and4_false {a b c d : Bool} (h : (a && (b && (c && d))) = false) : a = false ∨ (a = true ∧ b = false) ∨ (a = true ∧ b = true ∧ c = false) ∨ (a = true ∧ b = true ∧ c = true ∧ d = false) := by
 revert h; cases a <;> cases b <;> cases c <;> cases d <;> simp
theorem and4_true {a b c d : Bool} (h : (a && (b && (c && d))) = true) : a = true ∧ b = true ∧ c = true ∧ d = true := by
 revert h; cases a <;> cases b <;> cases c <;> cases d <;> simp

theorem bright_c (x : Bucket) (hx : x.acts.length ≤ 1000000) : FnP Tryz.prog 66 [.agg x.enc] (.bool (bkRight x)) := by
 have p := acencP_c x.acts hx
 have n1 := nright_c x.weight 2 Sz2
 have n2 := nright_c x.watch 4 Sz4
 have n3 := nright_c x.wgroup 4 Sz4
 have e : bkRight x = ((acEnc x.acts).2 == 0 && (numOk x.weight 2 && (numOk x.watch 4 && numOk x.wgroup 4))) := rfl
 obtain ⟨R, hR⟩ : ∃ R, acEnc x.acts = R := ⟨_, rfl⟩
 rw [hR] at p e
 unfold byS actS at p
 refine FnP.i Tryz.func66 rfl rfl fun G w => ?_
 repeat' (first | apply WK.s | (apply hQ.h; clear hQ hA) | (refine Fork.mk (fun h => ?_) (fun h => ?_) <;> (first | (simp [*] at h; done) | (have h2 := h; simp at h2; exfalso; omega) | (have h2 := h; simp at h2; try simp only [Bool.not_eq_true', Bool.not_eq_false'] at h) | skip)) | (refine WK.R Tryz.ntmps66 ?_; intro A hA Q hQ; simp [Bucket.enc, *]) | (refine RunQ.g rfl (by rw [hA.h]; rfl) ?_; simp [Bucket.enc, *]) | (refine RunQ.k rfl rfl rfl rfl rfl ?_ (p) ?_ ?_ <;> simp (config := zd) [Bucket.enc, *] <;> refine ⟨?_⟩) | (refine RunQW.k rfl rfl rfl rfl ?_ (n1) ?_ ?_ <;> simp (config := zd) [Bucket.enc, *] <;> refine ⟨?_⟩) | (refine RunQW.k rfl rfl rfl rfl ?_ (n2) ?_ ?_ <;> simp (config := zd) [Bucket.enc, *] <;> refine ⟨?_⟩) | (refine RunQW.k rfl rfl rfl rfl ?_ (n3) ?_ ?_ <;> simp (config := zd) [Bucket.enc, *] <;> refine ⟨?_⟩) | (refine WK.t Tryz.func66 ?_ ?_ <;> simp (config := zd) [Tryz.results66, Bucket.enc, *]))
theorem rbright_c (x : Bucket) (hx : x.acts.length ≤ 1000000) : FnP Tryz.prog 92 [.agg x.enc] (.bool (bkRight x)) := by
 have p := racencP_c x.acts hx
 have n1 := rright_c x.weight 2 Sz2
 have n2 := rright_c x.watch 4 Sz4
 have n3 := rright_c x.wgroup 4 Sz4
 have e : bkRight x = ((acEnc x.acts).2 == 0 && (numOk x.weight 2 && (numOk x.watch 4 && numOk x.wgroup 4))) := rfl
 obtain ⟨R, hR⟩ : ∃ R, acEnc x.acts = R := ⟨_, rfl⟩
 rw [hR] at p e
 unfold byS actS at p
 refine FnP.i Tryz.func92 rfl rfl fun G w => ?_
 repeat' (first | apply WK.s | (apply hQ.h; clear hQ hA) | (refine Fork.mk (fun h => ?_) (fun h => ?_) <;> (first | (simp [*] at h; done) | (have h2 := h; simp at h2; exfalso; omega) | (have h2 := h; simp at h2; try simp only [Bool.not_eq_true', Bool.not_eq_false'] at h) | skip)) | (refine WK.R Tryz.ntmps92 ?_; intro A hA Q hQ; simp [Bucket.enc, *]) | (refine RunQ.g rfl (by rw [hA.h]; rfl) ?_; simp [Bucket.enc, *]) | (refine RunQ.k rfl rfl rfl rfl rfl ?_ (p) ?_ ?_ <;> simp (config := zd) [Bucket.enc, *] <;> refine ⟨?_⟩) | (refine RunQW.k rfl rfl rfl rfl ?_ (n1) ?_ ?_ <;> simp (config := zd) [Bucket.enc, *] <;> refine ⟨?_⟩) | (refine RunQW.k rfl rfl rfl rfl ?_ (n2) ?_ ?_ <;> simp (config := zd) [Bucket.enc, *] <;> refine ⟨?_⟩) | (refine RunQW.k rfl rfl rfl rfl ?_ (n3) ?_ ?_ <;> simp (config := zd) [Bucket.enc, *] <;> refine ⟨?_⟩) | (refine WK.t Tryz.func92 ?_ ?_ <;> simp (config := zd) [Tryz.results92, Bucket.enc, *]))
theorem bwrong_c (x : Bucket) (hx : x.acts.length ≤ 1000000) : FnP Tryz.prog 65 [.agg x.enc] (.bool (!bkRight x)) := by
 have p := bright_c x hx
 refine FnP.i Tryz.func65 rfl rfl fun G w => ?_
 repeat' (first | apply WK.s | (apply hQ.h; clear hQ hA) | (refine WK.R Tryz.ntmps65 ?_; intro A hA Q hQ; simp [*]) | (refine RunQ.k rfl rfl rfl rfl rfl ?_ (p) ?_ ?_ <;> simp (config := zd) [*] <;> refine ⟨?_⟩) | (refine WK.t Tryz.func65 ?_ ?_ <;> simp (config := zd) [Tryz.results65, *]))
structure BkFit (x : Bucket) : Prop where
 e0 : (acEnc x.acts).2 = 0
 n0 : numOk ((16 + (acEnc x.acts).1.length : Nat) : Int) 2 = true
 n1 : numOk x.weight 2 = true
 n2 : numOk x.watch 4 = true
 n3 : numOk x.wgroup 4 = true
theorem bkFit {x : Bucket} (h : bkRight x = true) : BkFit x := by
 unfold bkRight at h
 rw [Bool.and_eq_true, Bool.and_eq_true, Bool.and_eq_true, beq_iff_eq] at h
 obtain ⟨h0, h1, h2, h3⟩ := h
 have := acEnc_len x.acts
 exact ⟨h0, numOk2 (by omega), h1, h2, h3⟩
theorem bkFlat_succ {l : List Bucket} {i : Nat} (h : i < l.length) : rwFlat bkOne (l.take (i + 1)) = rwFlat bkOne (l.take i) ++ bkOne (nth l i) := by
 unfold rwFlat; rw [take_nth h, List.flatMap_append]; simp
theorem bkFlat_len (l : List Bucket) : (rwFlat bkOne l).length ≤ l.length * 6100 := by
 induction l with
 | nil => simp [rwFlat]
 | cons x l ih =>
   have h1 := bkOne_len x
   have h2 := acEnc_len x.acts
   have e : rwFlat bkOne (x :: l) = bkOne x ++ rwFlat bkOne l := rfl
   rw [e, List.length_append, List.length_cons]
   omega
theorem bkEnc_bad1 {l : List Bucket} (h : ¬ (l.length ≤ 100 ∧ l.all bkRight = true ∧ (rwFlat bkOne l).length ≤ 60000)) : bkEnc l = ([], 1) := by unfold bkEnc; rw [if_neg h]
theorem all_true_bk {l : List Bucket} {p : Bucket → Bool} (h : ∀ j, j < l.length → p (nth l j) = true) : l.all p = true := by
 rw [List.all_eq_true]; intro x hx
 obtain ⟨j, hj, rfl⟩ := mem_nth hx
 exact h j hj
theorem anyNot_all {α : Type} (p : α → Bool) (l : List α) : (l.any fun x => !p x) = !l.all p := by rw [List.not_all_eq_any_not]
set_option maxHeartbeats 4000000 in
theorem bkenc_c (l : List Bucket) (hl : l.length ≤ 1000000) (ha : ∀ x, x ∈ l → x.acts.length ≤ 1000000) : FnT Tryz.prog 40 [bukS l] (bkEnc l).1.length 1 (byL (bkEnc l).1) [.int .i64 (bkEnc l).2] := by
 have q := containsf_buk 65 [] (fun x => !bkRight x) l rfl hl (fun x hx => bwrong_c x (ha x hx))
 rw [anyNot_all] at q
 unfold bukS at *
 by_cases h100 : 100 < l.length
 · have e := bkEnc_bad1 (l := l) (fun h => by omega)
   have j : (100 : Int) < l.length := by omega
   rw [e]
   clear q
   refine FnT.intro Tryz.func40 rfl rfl fun G w => ?_
   repeat' (first | apply WK.s | refine WK.cT rfl ?_ | (apply hQ.h; clear hQ hA) | (refine WK.R Tryz.ntmps40 ?_; intro A hA Q hQ; simp [*]) | (refine RunQ.g rfl (by rw [hA.h]; rfl) ?_; simp [*]))
   refine WK.ghost (Ghost.own 2 900 1 rfl rfl) ?_
   refine WK.retT2 Tryz.func40 ?_ ?_ ?_ <;> simp (config := zd) [Tryz.results40, b0_]
 have j : ¬ (100 : Int) < l.length := by omega
 cases hr : l.all bkRight
 · have e := bkEnc_bad1 (l := l) (fun h => by rw [hr] at h; exact Bool.noConfusion h.2.1)
   rw [e]
   rw [hr] at q
   refine FnT.intro Tryz.func40 rfl rfl fun G w => ?_
   repeat' (first | apply WK.s | refine WK.cT rfl ?_ | (apply hQ.h; clear hQ hA) | (refine WK.R Tryz.ntmps40 ?_; intro A hA Q hQ; simp [*]) | (refine RunQ.g rfl (by rw [hA.h]; rfl) ?_; simp [*]) | (refine RunQW.k rfl rfl rfl rfl ?_ (q) ?_ ?_ <;> simp (config := zd) [*] <;> refine ⟨?_⟩))
   refine WK.ghost (Ghost.own 2 900 1 rfl rfl) ?_
   refine WK.retT2 Tryz.func40 ?_ ?_ ?_ <;> simp (config := zd) [Tryz.results40, b0_]
 rw [hr] at q
 have hall : ∀ x, x ∈ l → bkRight x = true := List.all_eq_true.1 hr
 have hdef : bkEnc l = if (rwFlat bkOne l).length ≤ 60000 then (rwFlat bkOne l, 0) else ([], 1) := by
   unfold bkEnc
   by_cases hh : (rwFlat bkOne l).length ≤ 60000
   · rw [if_pos hh, if_pos ⟨by omega, hr, hh⟩]
   · rw [if_neg hh, if_neg fun h => hh h.2.2]
 refine FnT.intro Tryz.func40 rfl rfl fun G w => ?_
 repeat' (first | apply WK.s | apply WK.b | apply WK.k | refine WK.cF rfl ?_ | (apply hQ.h; clear hQ hA) | (refine WK.R Tryz.ntmps40 ?_; intro A hA Q hQ; simp [*]) | (refine RunQ.g rfl (by rw [hA.h]; rfl) ?_; simp [*]) | (refine RunQW.k rfl rfl rfl rfl ?_ (q) ?_ ?_ <;> simp (config := zd) [*] <;> refine ⟨?_⟩))
 refine WK.ghost (Ghost.own 4 900 1 rfl rfl) ?_
 refine WK.L (fun n => if n = 1 then 900 else n) (fun i : Nat => (⟨(upd (upd (upd (upd (upd (upd J 2 (.sl true 0 [])) 3 (.int .i64 0)) 4 (.msl 1 0 (rwFlat bkOne (l.take i)).length)) 16 (.sl false l.length (bukL l))) 17 (.int .i64 l.length)) 18 (.int .i64 i)), (upd B0 1 (.buf 1 (byL (rwFlat bkOne (l.take i))))), 0⟩ : St)) (fun i => i ≤ l.length) (fun i => l.length - i) (0) (by repeat (first | exact TmW.nil | refine TmW.upd ?_ (by simp (config := zd) [rwFlat, b0_]))) (by repeat (first | exact BxW.nil | refine BxW.upd ?_ (by simp (config := zd) [rwFlat, b0_]))) (by omega) (fun i hi IH => ?_)
 have hfl := bkFlat_len (l.take i)
 have htl : (l.take i).length ≤ 100 := by rw [List.length_take]; omega
 by_cases h1 : i < l.length
 · obtain ⟨h4, h3⟩ := buk_load l i h1
   have h6 : IntKind.i64.wrap ((i : Int) + 1) = i + 1 := wrap_i64 (by omega) (by omega)
   have hs := bkFlat_succ h1
   have fit := bkFit (hall _ (nth_mem h1))
   have hx := ha _ (nth_mem h1)
   obtain ⟨x, hxx⟩ : ∃ x, nth l i = x := ⟨_, rfl⟩
   rw [hxx] at h4 hs fit hx
   have p := acencP_c x.acts hx
   have hEl := acEnc_len x.acts
   have hone : bkOne x = beN (16 + (acEnc x.acts).1.length : Nat) 2 ++ (beN x.weight 2 ++ (beN x.watch 4 ++ (beN x.wgroup 4 ++ (List.replicate 4 0#8 ++ (acEnc x.acts).1)))) := rfl
   obtain ⟨f0, f1, f2, f3, f4⟩ := fit
   obtain ⟨R, hR⟩ : ∃ R, acEnc x.acts = R := ⟨_, rfl⟩
   rw [hR] at p hEl f0 f1 hone
   obtain ⟨E, c⟩ := R
   simp only at p hEl f0 f1 hone
   subst f0
   obtain ⟨F, hF⟩ : ∃ F, rwFlat bkOne (l.take i) = F := ⟨_, rfl⟩
   rw [hF] at hs hfl ⊢
   have hFl : F.length ≤ 700000 := by omega
   have c1 := nput_c F ((16 + E.length : Nat) : Int) 2 Sz2 (by omega)
   rw [putN_beN f1] at c1
   obtain ⟨F1, hF1⟩ : ∃ F1, F ++ beN ((16 + E.length : Nat) : Int) 2 = F1 := ⟨_, rfl⟩
   rw [hF1] at c1
   have hF1l : F1.length = F.length + 2 := by rw [← hF1, List.length_append, beN_len]
   have c2 := nput_c F1 x.weight 2 Sz2 (by omega)
   rw [putN_beN f2] at c2
   obtain ⟨F2, hF2⟩ : ∃ F2, F1 ++ beN x.weight 2 = F2 := ⟨_, rfl⟩
   rw [hF2] at c2
   have hF2l : F2.length = F.length + 4 := by rw [← hF2, List.length_append, beN_len]; omega
   have c3 := nput_c F2 x.watch 4 Sz4 (by omega)
   rw [putN_beN f3] at c3
   obtain ⟨F3, hF3⟩ : ∃ F3, F2 ++ beN x.watch 4 = F3 := ⟨_, rfl⟩
   rw [hF3] at c3
   have hF3l : F3.length = F.length + 8 := by rw [← hF3, List.length_append, beN_len]; omega
   have c4 := nput_c F3 x.wgroup 4 Sz4 (by omega)
   rw [putN_beN f4] at c4
   obtain ⟨F4, hF4⟩ : ∃ F4, F3 ++ beN x.wgroup 4 = F4 := ⟨_, rfl⟩
   rw [hF4] at c4
   have hF4l : F4.length = F.length + 12 := by rw [← hF4, List.length_append, beN_len]; omega
   have hs2 : rwFlat bkOne (l.take (i + 1)) = F4 ++ (List.replicate 4 0#8 ++ E) := by
     rw [hs, hone, ← hF4, ← hF3, ← hF2, ← hF1]; simp only [List.append_assoc]
   have hz : byL (List.replicate 4 0#8) = [.int .u8 0, .int .u8 0, .int .u8 0, .int .u8 0] := rfl
   have hs3 : byL F4 ++ (AV.int .u8 0 :: AV.int .u8 0 :: AV.int .u8 0 :: AV.int .u8 0 :: byL E) = byL (rwFlat bkOne (l.take (i + 1))) := by rw [hs2, byL_app, byL_app, hz]; rfl
   have hs4 : (rwFlat bkOne (l.take (i + 1))).length = F4.length + 4 + E.length := by rw [hs2, List.length_append, List.length_append, List.length_replicate]; omega
   have w16 : IntKind.i64.wrap (16 + (E.length : Int)) = 16 + (E.length : Int) := wrap_i64 (by omega) (by omega)
   have hbd1 : F4.length + 4 ≤ 140737488355328 := by omega
   have hbd2 : F4.length + 4 + E.length ≤ 140737488355328 := by omega
   have hfu1 : (byL F).take F.length = byL F := by_full _ _ rfl
   have hfu2 : (byL F1).take F1.length = byL F1 := by_full _ _ rfl
   have hfu3 : (byL F2).take F2.length = byL F2 := by_full _ _ rfl
   have hfu4 : (byL F3).take F3.length = byL F3 := by_full _ _ rfl
   have hfu5 : (byL E).take E.length = byL E := by_full _ _ rfl
   unfold byS actS at *
   clear hF hF1 hF2 hF3 hF4 hs hs2 hone hR f1 f2 f3 f4 hxx hF1l hF2l hF3l hF4l hfl htl hr
   repeat' (first | apply WK.s | apply WK.b | apply WK.n | apply WK.k | refine WK.cT rfl ?_ | (refine hQ.h _ _ ?_; clear hQ hA) | (refine WK.R Tryz.ntmps40 ?_; intro A hA Q hQ; simp [Bucket.enc, *]) | (refine WK.X Tryz.ntmps40 ?_; intro A hA Q hQ; simp [Bucket.enc, *]) | (refine hQ.h _ _ _ (by decide +kernel) ?_; clear hQ hA) | (refine RunX.callOz 901 28 1 rfl rfl rfl rfl rfl rfl ?_ (c1) ?_ ?_ (by simp) (by decide) ?_; (focus simp (config := zd) [Bucket.enc, *]; done); (focus simp [Bucket.enc, *]; done); (focus simp [Bucket.enc, *]; done); refine RunX.e ?_; simp [Bucket.enc, *]) | (refine RunX.callOz 902 32 1 rfl rfl rfl rfl rfl rfl ?_ (c2) ?_ ?_ (by simp) (by decide) ?_; (focus simp (config := zd) [Bucket.enc, *]; done); (focus simp [Bucket.enc, *]; done); (focus simp [Bucket.enc, *]; done); refine RunX.e ?_; simp [Bucket.enc, *]) | (refine RunX.callOz 903 36 1 rfl rfl rfl rfl rfl rfl ?_ (c3) ?_ ?_ (by simp) (by decide) ?_; (focus simp (config := zd) [Bucket.enc, *]; done); (focus simp [Bucket.enc, *]; done); (focus simp [Bucket.enc, *]; done); refine RunX.e ?_; simp [Bucket.enc, *]) | (refine RunX.callOz 904 39 1 rfl rfl rfl rfl rfl rfl ?_ (c4) ?_ ?_ (by simp) (by decide) ?_; (focus simp (config := zd) [Bucket.enc, *]; done); (focus simp [Bucket.enc, *]; done); (focus simp [Bucket.enc, *]; done); refine RunX.e ?_; simp [Bucket.enc, *]) | (refine RunQ.append 905 appByte rfl rfl rfl rfl rfl rfl rfl rfl rfl ?_ ?_ ?_ ?_ ?_; (focus first | omega | simp [Bucket.enc, *]; done); (focus first | omega | simp [Bucket.enc, *]; done); (focus first | omega | simp [Bucket.enc, *]; done); (focus first | omega | simp [Bucket.enc, *]; done); refine RunQ.evalH ?_; simp [Bucket.enc, *]) | (refine RunQ.append 906 appByte rfl rfl rfl rfl rfl rfl rfl rfl rfl ?_ ?_ ?_ ?_ ?_; (focus first | omega | simp [Bucket.enc, *]; done); (focus first | omega | simp [Bucket.enc, *]; done); (focus first | omega | simp [Bucket.enc, *]; done); (focus first | omega | simp [Bucket.enc, *]; done); refine RunQ.evalH ?_; simp [Bucket.enc, *]) | (refine RunQ.k rfl rfl rfl rfl rfl ?_ (p) ?_ ?_ <;> simp (config := zd) [Bucket.enc, *] <;> refine ⟨?_⟩))
   refine WK.N (fun n => if n = 1 then 906 else n) (IH (i + 1) (by omega) (by first | omega | (dsimp only; omega))) (by repeat (first | exact TmW.nil | refine TmW.upd ?_ (by simp (config := zd) [hs3, hs4]))) (by repeat (first | exact BxW.nil | refine BxW.upd ?_ (by simp (config := zd) [hs3, hs4])))
 · have hT : l.take i = l := List.take_of_length_le (by omega)
   rw [hT] at hfl ⊢
   obtain ⟨F, hF⟩ : ∃ F, rwFlat bkOne l = F := ⟨_, rfl⟩
   rw [hF] at hdef hfl ⊢
   by_cases h6 : F.length ≤ 60000
   · have j6 : ¬ (60000 : Int) < F.length := by omega
     rw [if_pos h6] at hdef
     rw [hdef]
     clear hF hdef
     repeat' (first | apply WK.s | apply WK.k | refine WK.exit rfl ?_ | refine WK.cF rfl ?_ | (apply hQ.h; clear hQ hA) | (refine WK.R Tryz.ntmps40 ?_; intro A hA Q hQ; simp [*]) | (refine WK.retT2 Tryz.func40 ?_ ?_ ?_ <;> simp (config := zd) [Tryz.results40, *]))
   · have j6 : (60000 : Int) < F.length := by omega
     rw [if_neg h6] at hdef
     rw [hdef]
     clear hF hdef
     repeat' (first | apply WK.s | refine WK.exit rfl ?_ | refine WK.cT rfl ?_ | refine WK.cF rfl ?_ | (apply hQ.h; clear hQ hA) | (refine WK.R Tryz.ntmps40 ?_; intro A hA Q hQ; simp [*]))
     refine WK.ghost (Ghost.own 2 907 1 rfl rfl) ?_
     refine WK.retT2 Tryz.func40 ?_ ?_ ?_ <;> simp (config := zd) [Tryz.results40, b0_]
set_option maxHeartbeats 4000000 in
theorem rbkenc_c (l : List Bucket) (hl : l.length ≤ 1000000) (ha : ∀ x, x ∈ l → x.acts.length ≤ 1000000) : FnT Tryz.prog 50 [bukS l] (bkEnc l).1.length 1 (byL (bkEnc l).1) [.int .i64 (bkEnc l).2] := by
 unfold bukS at *
 by_cases h100 : 100 < l.length
 · have e := bkEnc_bad1 (l := l) (fun h => by omega)
   have j : (100 : Int) < l.length := by omega
   rw [e]
   refine FnT.intro Tryz.func50 rfl rfl fun G w => ?_
   repeat' (first | apply WK.s | refine WK.cT rfl ?_ | (apply hQ.h; clear hQ hA) | (refine WK.R Tryz.ntmps50 ?_; intro A hA Q hQ; simp [*]))
   refine WK.ghost (Ghost.own 2 900 1 rfl rfl) ?_
   refine WK.retT2 Tryz.func50 ?_ ?_ ?_ <;> simp (config := zd) [Tryz.results50, b0_]
 have j : ¬ (100 : Int) < l.length := by omega
 refine FnT.intro Tryz.func50 rfl rfl fun G w => ?_
 repeat' (first | apply WK.s | apply WK.b | apply WK.k | refine WK.cF rfl ?_ | (apply hQ.h; clear hQ hA) | (refine WK.R Tryz.ntmps50 ?_; intro A hA Q hQ; simp [*]))
 refine WK.ghost (Ghost.own 4 900 1 rfl rfl) ?_
 refine WK.L (fun n => if n = 1 then 900 else n) (fun i : Nat => (⟨(upd (upd (upd (upd (upd J 0 (.sl false l.length (bukL l))) 2 (.sl true 0 [])) 3 (.int .i64 0)) 4 (.msl 1 0 (rwFlat bkOne (l.take i)).length)) 5 (.int .i64 i)), (upd B0 1 (.buf 1 (byL (rwFlat bkOne (l.take i))))), 0⟩ : St)) (fun i => i ≤ l.length ∧ ∀ j, j < i → bkRight (nth l j) = true) (fun i => l.length - i) (0) (by repeat (first | exact TmW.nil | refine TmW.upd ?_ (by simp (config := zd) [rwFlat, b0_]))) (by repeat (first | exact BxW.nil | refine BxW.upd ?_ (by simp (config := zd) [rwFlat, b0_]))) (⟨by omega, by simp⟩) (fun i hi IH => ?_)
 have hfl := bkFlat_len (l.take i)
 have htl : (l.take i).length ≤ 100 := by rw [List.length_take]; omega
 by_cases h1 : i < l.length
 · obtain ⟨h4, h3⟩ := buk_load l i h1
   have g0 := buk_get l i 0 h1 (by omega)
   have g1 := buk_get l i 1 h1 (by omega)
   have g2 := buk_get l i 2 h1 (by omega)
   have g3 := buk_get l i 3 h1 (by omega)
   have l0 : i * 4 + 0 < l.length * 4 := by omega
   have l1 : i * 4 + 1 < l.length * 4 := by omega
   have l2 : i * 4 + 2 < l.length * 4 := by omega
   have l3 : i * 4 + 3 < l.length * 4 := by omega
   have h6 : IntKind.i64.wrap ((i : Int) + 1) = i + 1 := wrap_i64 (by omega) (by omega)
   have hs := bkFlat_succ h1
   have hx := ha _ (nth_mem h1)
   have hrc := rbright_c (nth l i) hx
   cases hr : bkRight (nth l i)
   · have e := bkEnc_bad1 (l := l) (fun h => by have := List.all_eq_true.1 h.2.1 _ (nth_mem h1); rw [hr] at this; cases this)
     rw [hr] at hrc
     rw [e]
     clear hs g0 g1 g2 g3
     repeat' (first | apply WK.s | apply WK.b | apply WK.k | refine WK.cT rfl ?_ | (apply hQ.h; clear hQ hA) | (refine WK.R Tryz.ntmps50 ?_; intro A hA Q hQ; simp [*]) | (refine RunQ.k rfl rfl rfl rfl rfl ?_ (hrc) ?_ ?_ <;> simp (config := zd) [*] <;> refine ⟨?_⟩))
     refine WK.ghost (Ghost.own 2 901 1 rfl rfl) ?_
     refine WK.retT2 Tryz.func50 ?_ ?_ ?_ <;> simp (config := zd) [Tryz.results50, b0_]
   have fit := bkFit hr
   rw [hr] at hrc
   obtain ⟨x, hxx⟩ : ∃ x, nth l i = x := ⟨_, rfl⟩
   rw [hxx] at h4 hs fit hx hrc hr
   simp only [hxx, Bucket.enc, List.getElem_cons_zero, List.getElem_cons_succ, Nat.add_zero] at g0 g1 g2 g3 l0
   have p := racencP_c x.acts hx
   have hEl := acEnc_len x.acts
   have hone : bkOne x = beN (16 + (acEnc x.acts).1.length : Nat) 2 ++ (beN x.weight 2 ++ (beN x.watch 4 ++ (beN x.wgroup 4 ++ (List.replicate 4 0#8 ++ (acEnc x.acts).1)))) := rfl
   obtain ⟨f0, f1, f2, f3, f4⟩ := fit
   obtain ⟨R, hR⟩ : ∃ R, acEnc x.acts = R := ⟨_, rfl⟩
   rw [hR] at p hEl f0 f1 hone
   obtain ⟨E, c⟩ := R
   simp only at p hEl f0 f1 hone
   subst f0
   obtain ⟨F, hF⟩ : ∃ F, rwFlat bkOne (l.take i) = F := ⟨_, rfl⟩
   rw [hF] at hs hfl ⊢
   have hFl : F.length ≤ 700000 := by omega
   have c1 := rput_c F ((16 + E.length : Nat) : Int) 2 Sz2 (by omega)
   rw [putN_beN f1] at c1
   obtain ⟨F1, hF1⟩ : ∃ F1, F ++ beN ((16 + E.length : Nat) : Int) 2 = F1 := ⟨_, rfl⟩
   rw [hF1] at c1
   have hF1l : F1.length = F.length + 2 := by rw [← hF1, List.length_append, beN_len]
   have c2 := rput_c F1 x.weight 2 Sz2 (by omega)
   rw [putN_beN f2] at c2
   obtain ⟨F2, hF2⟩ : ∃ F2, F1 ++ beN x.weight 2 = F2 := ⟨_, rfl⟩
   rw [hF2] at c2
   have hF2l : F2.length = F.length + 4 := by rw [← hF2, List.length_append, beN_len]; omega
   have c3 := rput_c F2 x.watch 4 Sz4 (by omega)
   rw [putN_beN f3] at c3
   obtain ⟨F3, hF3⟩ : ∃ F3, F2 ++ beN x.watch 4 = F3 := ⟨_, rfl⟩
   rw [hF3] at c3
   have hF3l : F3.length = F.length + 8 := by rw [← hF3, List.length_append, beN_len]; omega
   have c4 := rput_c F3 x.wgroup 4 Sz4 (by omega)
   rw [putN_beN f4] at c4
   obtain ⟨F4, hF4⟩ : ∃ F4, F3 ++ beN x.wgroup 4 = F4 := ⟨_, rfl⟩
   rw [hF4] at c4
   have hF4l : F4.length = F.length + 12 := by rw [← hF4, List.length_append, beN_len]; omega
   have hs2 : rwFlat bkOne (l.take (i + 1)) = F4 ++ (List.replicate 4 0#8 ++ E) := by
     rw [hs, hone, ← hF4, ← hF3, ← hF2, ← hF1]; simp only [List.append_assoc]
   have hz : byL (List.replicate 4 0#8) = [.int .u8 0, .int .u8 0, .int .u8 0, .int .u8 0] := rfl
   have hs3 : byL F4 ++ (AV.int .u8 0 :: AV.int .u8 0 :: AV.int .u8 0 :: AV.int .u8 0 :: byL E) = byL (rwFlat bkOne (l.take (i + 1))) := by rw [hs2, byL_app, byL_app, hz]; rfl
   have hs4 : (rwFlat bkOne (l.take (i + 1))).length = F4.length + 4 + E.length := by rw [hs2, List.length_append, List.length_append, List.length_replicate]; omega
   have w16 : IntKind.i64.wrap (16 + (E.length : Int)) = 16 + (E.length : Int) := wrap_i64 (by omega) (by omega)
   have hbd1 : F4.length + 4 ≤ 140737488355328 := by omega
   have hbd2 : F4.length + 4 + E.length ≤ 140737488355328 := by omega
   have hfu1 : (byL F).take F.length = byL F := by_full _ _ rfl
   have hfu2 : (byL F1).take F1.length = byL F1 := by_full _ _ rfl
   have hfu3 : (byL F2).take F2.length = byL F2 := by_full _ _ rfl
   have hfu4 : (byL F3).take F3.length = byL F3 := by_full _ _ rfl
   have hfu5 : (byL E).take E.length = byL E := by_full _ _ rfl
   have hj : ∀ j, j < i + 1 → bkRight (nth l j) = true := fun j hj => by
     by_cases h7 : j = i
     · subst h7; rw [hxx]; exact hr
     · exact hi.2 j (by omega)
   unfold byS actS at *
   clear hF hF1 hF2 hF3 hF4 hs hs2 hone hR f1 f2 f3 f4 hxx hF1l hF2l hF3l hF4l hfl htl hr
   repeat' (first | apply WK.s | apply WK.b | apply WK.n | apply WK.k | refine WK.cT rfl ?_ | refine WK.cF rfl ?_ | (refine hQ.h _ _ ?_; clear hQ hA) | (refine WK.R Tryz.ntmps50 ?_; intro A hA Q hQ; simp [*]) | (refine WK.X Tryz.ntmps50 ?_; intro A hA Q hQ; simp [*]) | (refine hQ.h _ _ _ (by decide +kernel) ?_; clear hQ hA) | (refine RunX.callOz 901 33 1 rfl rfl rfl rfl rfl rfl ?_ (c1) ?_ ?_ (by simp) (by decide) ?_; (focus simp (config := zd) [*]; done); (focus simp [*]; done); (focus simp [*]; done); refine RunX.e ?_; simp [*]) | (refine RunX.callOz 902 37 1 rfl rfl rfl rfl rfl rfl ?_ (c2) ?_ ?_ (by simp) (by decide) ?_; (focus simp (config := zd) [*]; done); (focus simp [*]; done); (focus simp [*]; done); refine RunX.e ?_; simp [*]) | (refine RunX.callOz 903 44 1 rfl rfl rfl rfl rfl rfl ?_ (c3) ?_ ?_ (by simp) (by decide) ?_; (focus simp (config := zd) [*]; done); (focus simp [*]; done); (focus simp [*]; done); refine RunX.e ?_; simp [*]) | (refine RunX.callOz 904 50 1 rfl rfl rfl rfl rfl rfl ?_ (c4) ?_ ?_ (by simp) (by decide) ?_; (focus simp (config := zd) [*]; done); (focus simp [*]; done); (focus simp [*]; done); refine RunX.e ?_; simp [*]) | (refine RunQ.append 905 appByte rfl rfl rfl rfl rfl rfl rfl rfl rfl ?_ ?_ ?_ ?_ ?_; (focus first | omega | simp [*]; done); (focus first | omega | simp [*]; done); (focus first | omega | simp [*]; done); (focus first | omega | simp [*]; done); refine RunQ.evalH ?_; simp [*]) | (refine RunQ.append 906 appByte rfl rfl rfl rfl rfl rfl rfl rfl rfl ?_ ?_ ?_ ?_ ?_; (focus first | omega | simp [*]; done); (focus first | omega | simp [*]; done); (focus first | omega | simp [*]; done); (focus first | omega | simp [*]; done); refine RunQ.evalH ?_; simp [*]) | (refine RunQ.k rfl rfl rfl rfl rfl ?_ (hrc) ?_ ?_ <;> simp (config := zd) [*] <;> refine ⟨?_⟩) | (refine RunQ.k rfl rfl rfl rfl rfl ?_ (p) ?_ ?_ <;> simp (config := zd) [*] <;> refine ⟨?_⟩))
   refine WK.N (fun n => if n = 1 then 906 else n) (IH (i + 1) (⟨by omega, hj⟩) (by first | omega | (dsimp only; omega))) (by repeat (first | exact TmW.nil | refine TmW.upd ?_ (by simp (config := zd) [hs3, hs4]))) (by repeat (first | exact BxW.nil | refine BxW.upd ?_ (by simp (config := zd) [hs3, hs4])))
 · have hT : l.take i = l := List.take_of_length_le (by omega)
   have hr : l.all bkRight = true := all_true_bk fun j hj => hi.2 j (by omega)
   have hdef : bkEnc l = if (rwFlat bkOne l).length ≤ 60000 then (rwFlat bkOne l, 0) else ([], 1) := by
     unfold bkEnc
     by_cases hh : (rwFlat bkOne l).length ≤ 60000
     · rw [if_pos hh, if_pos ⟨by omega, hr, hh⟩]
     · rw [if_neg hh, if_neg fun h => hh h.2.2]
   rw [hT] at hfl ⊢
   obtain ⟨F, hF⟩ : ∃ F, rwFlat bkOne l = F := ⟨_, rfl⟩
   rw [hF] at hdef hfl ⊢
   by_cases h6 : F.length ≤ 60000
   · have j6 : ¬ (60000 : Int) < F.length := by omega
     rw [if_pos h6] at hdef
     rw [hdef]
     clear hF hdef
     repeat' (first | apply WK.s | apply WK.k | refine WK.exit rfl ?_ | refine WK.cF rfl ?_ | (apply hQ.h; clear hQ hA) | (refine WK.R Tryz.ntmps50 ?_; intro A hA Q hQ; simp [*]) | (refine WK.retT2 Tryz.func50 ?_ ?_ ?_ <;> simp (config := zd) [Tryz.results50, *]))
   · have j6 : (60000 : Int) < F.length := by omega
     rw [if_neg h6] at hdef
     rw [hdef]
     clear hF hdef
     repeat' (first | apply WK.s | refine WK.exit rfl ?_ | refine WK.cT rfl ?_ | refine WK.cF rfl ?_ | (apply hQ.h; clear hQ hA) | (refine WK.R Tryz.ntmps50 ?_; intro A hA Q hQ; simp [*]))
     refine WK.ghost (Ghost.own 2 907 1 rfl rfl) ?_
     refine WK.retT2 Tryz.func50 ?_ ?_ ?_ <;> simp (config := zd) [Tryz.results50, b0_]

def Bucket.same (a b : Bucket) : Bool := a.weight == b.weight && (a.watch == b.watch && (a.wgroup == b.wgroup && eqBy (· == ·) a.acts b.acts))
theorem bkSame_self (x : Bucket) : Bucket.same x x = true := by unfold Bucket.same; simp [eqBy_selfA]
set_option maxHeartbeats 4000000 in
theorem rbsameL_c (l m : List Bucket) (hl : l.length ≤ 1000000) (ha : ∀ x, x ∈ l → x.acts.length ≤ 1000000) : FnP Tryz.prog 31 [bukS l, bukS m] (.bool (eqBy Bucket.same l m)) := by
 unfold bukS
 by_cases hlm : l.length = m.length
 case neg =>
   have e : eqBy Bucket.same l m = false := by unfold eqBy; simp; intro e; omega
   have e2 : ((l.length : Int) == (m.length : Int)) = false := by rw [beq_eq_false_iff_ne]; omega
   refine FnP.i Tryz.func31 rfl rfl fun G w => ?_
   repeat' (first | apply WK.s | refine WK.cT rfl ?_ | (apply hQ.h; clear hQ hA) | (refine WK.R Tryz.ntmps31 ?_; intro A hA Q hQ; simp [bne, *]) | (refine WK.t Tryz.func31 ?_ ?_ <;> simp (config := zd) [Tryz.results31, bne, *]))
 have e2 : ((l.length : Int) == (m.length : Int)) = true := by rw [beq_iff_eq]; omega
 have hl1 : ¬ l.length < m.length := by omega
 have hl2 : ¬ m.length < l.length := by omega
 clear hlm
 refine FnP.i Tryz.func31 rfl rfl fun G w => ?_
 repeat' (first | apply WK.s | apply WK.b | apply WK.k | refine WK.cF rfl ?_ | (apply hQ.h; clear hQ hA) | (refine WK.R Tryz.ntmps31 ?_; intro A hA Q hQ; simp [bne, *]))
 refine WK.L (fun n => n) (fun i : Nat => (⟨(upd (upd (upd J 0 (.sl false l.length (bukL l))) 1 (.sl false m.length (bukL m))) 5 (.int .i64 i)), B0, 0⟩ : St)) (fun i => i ≤ l.length ∧ ∀ j, j < i → Bucket.same (nth l j) (nth m j) = true) (fun i => l.length - i) (0) (by repeat (first | exact TmW.nil | refine TmW.upd ?_ (by simp (config := zd)))) (by repeat (first | exact BxW.nil | refine BxW.upd ?_ (by simp (config := zd)))) (⟨by omega, by simp⟩) (fun i hi IH => ?_)
 by_cases h1 : i < l.length
 · have h2 : i < m.length := by omega
   have g0 := buk_get l i 0 h1 (by omega)
   have g1 := buk_get l i 1 h1 (by omega)
   have g2 := buk_get l i 2 h1 (by omega)
   have g3 := buk_get l i 3 h1 (by omega)
   have k0 := buk_get m i 0 h2 (by omega)
   have k1 := buk_get m i 1 h2 (by omega)
   have k2 := buk_get m i 2 h2 (by omega)
   have k3 := buk_get m i 3 h2 (by omega)
   have l0 : i * 4 < l.length * 4 := by omega
   have l1 : i * 4 + 1 < l.length * 4 := by omega
   have l2 : i * 4 + 2 < l.length * 4 := by omega
   have l3 : i * 4 + 3 < l.length * 4 := by omega
   have m0 : i * 4 < m.length * 4 := by omega
   have m1 : i * 4 + 1 < m.length * 4 := by omega
   have m2 : i * 4 + 2 < m.length * 4 := by omega
   have m3 : i * 4 + 3 < m.length * 4 := by omega
   have h6 : IntKind.i64.wrap ((i : Int) + 1) = i + 1 := wrap_i64 (by omega) (by omega)
   have hc := rsame_act (nth l i).acts (nth m i).acts (ha _ (nth_mem h1))
   have hd : Bucket.same (nth l i) (nth m i) = ((nth l i).weight == (nth m i).weight && ((nth l i).watch == (nth m i).watch && ((nth l i).wgroup == (nth m i).wgroup && eqBy (· == ·) (nth l i).acts (nth m i).acts))) := rfl
   have hr : Bucket.same (nth l i) (nth m i) = false → eqBy Bucket.same l m = false := fun h => by unfold eqBy; rw [all_range_false (p := fun i => Bucket.same (nth l i) (nth m i)) h1 h]; simp
   have hj : Bucket.same (nth l i) (nth m i) = true → ∀ j, j < i + 1 → Bucket.same (nth l j) (nth m j) = true := fun h j hj => by
     by_cases h7 : j = i
     · subst h7; exact h
     · exact hi.2 j (by omega)
   obtain ⟨x, hx⟩ : ∃ x, nth l i = x := ⟨_, rfl⟩
   obtain ⟨y, hy⟩ : ∃ y, nth m i = y := ⟨_, rfl⟩
   simp only [hx, Bucket.enc, List.getElem_cons_zero, List.getElem_cons_succ, Nat.add_zero] at g0 g1 g2 g3
   simp only [hy, Bucket.enc, List.getElem_cons_zero, List.getElem_cons_succ, Nat.add_zero] at k0 k1 k2 k3
   simp only [hx, hy] at hc hd hr hj
   unfold actS at hc
   obtain ⟨z0, hz0⟩ : ∃ z, (x.weight == y.weight) = z := ⟨_, rfl⟩
   obtain ⟨z1, hz1⟩ : ∃ z, (x.watch == y.watch) = z := ⟨_, rfl⟩
   obtain ⟨z2, hz2⟩ : ∃ z, (x.wgroup == y.wgroup) = z := ⟨_, rfl⟩
   obtain ⟨z3, hz3⟩ : ∃ z, eqBy (· == ·) x.acts y.acts = z := ⟨_, rfl⟩
   rw [hz0, hz1, hz2, hz3] at hd
   rw [hz3] at hc
   clear hx hy hz3
   rw [hd] at hr hj
   cases hz : (z0 && (z1 && (z2 && z3)))
   · have e := hr hz
     rw [e]
     clear hr hj hd
     rcases and4_false hz with rfl | ⟨rfl, rfl⟩ | ⟨rfl, rfl, rfl⟩ | ⟨rfl, rfl, rfl, rfl⟩ <;>
     · clear hz
       repeat' (first | apply WK.s | apply WK.b | apply WK.k | refine WK.cT rfl ?_ | (refine hQ.h _ _ ?_; clear hQ hA) | (refine WK.R Tryz.ntmps31 ?_; intro A hA Q hQ; simp [bne, *]) | (refine WK.X Tryz.ntmps31 ?_; intro A hA Q hQ; simp [bne, *]) | (refine hQ.h _ _ _ (by decide +kernel) ?_; clear hQ hA) | (refine RunX.gd rfl (by rw [hA.h]; rfl) ?_; simp [bne, *]) | (refine RunXW.call rfl rfl rfl ?_ (hc) ?_ ?_; (focus simp (config := zd) [bne, *]; done); (focus simp [bne, *]; done); refine RunX.e ?_; simp [bne, *]) | (refine WK.t Tryz.func31 ?_ ?_ <;> simp (config := zd) [Tryz.results31, bne, *]))
   · have e := hj hz
     obtain ⟨rfl, rfl, rfl, rfl⟩ := and4_true hz
     clear hr hj hd hz
     repeat' (first | apply WK.s | apply WK.b | apply WK.n | apply WK.k | refine WK.cT rfl ?_ | refine WK.cF rfl ?_ | (refine hQ.h _ _ ?_; clear hQ hA) | (refine WK.R Tryz.ntmps31 ?_; intro A hA Q hQ; simp [bne, *]) | (refine WK.X Tryz.ntmps31 ?_; intro A hA Q hQ; simp [bne, *]) | (refine hQ.h _ _ _ (by decide +kernel) ?_; clear hQ hA) | (refine RunX.gd rfl (by rw [hA.h]; rfl) ?_; simp [bne, *]) | (refine RunXW.call rfl rfl rfl ?_ (hc) ?_ ?_; (focus simp (config := zd) [bne, *]; done); (focus simp [bne, *]; done); refine RunX.e ?_; simp [bne, *]))
     refine WK.N (fun n => n) (IH (i + 1) (⟨by omega, e⟩) (by first | omega | (dsimp only; omega)))
 · have e : eqBy Bucket.same l m = true := by unfold eqBy; rw [all_range_true (p := fun i => Bucket.same (nth l i) (nth m i)) (fun j hj => hi.2 j (by omega))]; simp; omega
   repeat' (first | apply WK.s | refine WK.exit rfl ?_ | refine WK.cF rfl ?_ | (apply hQ.h; clear hQ hA) | (refine WK.R Tryz.ntmps31 ?_; intro A hA Q hQ; simp [*]) | (refine WK.t Tryz.func31 ?_ ?_ <;> simp (config := zd) [Tryz.results31, *]))
def bucketsPlain (l : List Bucket) (m : Int) : Bool := decide ((l.length : Int) ≤ m) && l.all fun x => actsPlain x.acts
theorem pbuk1_c (x : Bucket) : FnP Tryz.prog 119 [.agg x.enc] (.bool (!actsPlain x.acts)) := by
 have h := pacts_c x.acts
 unfold actS at h
 refine FnP.i Tryz.func119 rfl rfl fun G w => ?_
 repeat' (first | apply WK.s | (apply hQ.h; clear hQ hA) | (refine WK.R Tryz.ntmps119 ?_; intro A hA Q hQ; simp [Bucket.enc, *]) | (refine RunQ.k rfl rfl rfl rfl rfl ?_ (h) ?_ ?_ <;> simp (config := zd) [Bucket.enc, *] <;> refine ⟨?_⟩) | (refine WK.t Tryz.func119 ?_ ?_ <;> simp (config := zd) [Tryz.results119, Bucket.enc, *]))
theorem pbuckets_c (l : List Bucket) (m : Int) (hm : m ≤ 1000) : FnP Tryz.prog 63 [bukS l, .int .i64 m] (.bool (bucketsPlain l m)) := by
 unfold bucketsPlain
 by_cases h1 : (l.length : Int) ≤ m
 · have hco := containsf_buk 119 [] (fun x => !actsPlain x.acts) l rfl (by omega) (fun x _ => pbuk1_c x)
   rw [anyNot_all] at hco
   have e : decide ((l.length : Int) ≤ m) = true := by simpa using h1
   unfold bukS at *
   refine FnP.i Tryz.func63 rfl rfl fun G w => ?_
   repeat' (first | apply WK.s | (apply hQ.h; clear hQ hA) | (refine WK.R Tryz.ntmps63 ?_; intro A hA Q hQ; simp [*]) | (refine RunQ.g rfl (by rw [hA.h]; rfl) ?_; simp [*]) | (refine RunQW.k rfl rfl rfl rfl ?_ (hco) ?_ ?_ <;> simp (config := zd) [*] <;> refine ⟨?_⟩) | (refine WK.t Tryz.func63 ?_ ?_ <;> simp (config := zd) [Tryz.results63, *]))
 · have e : decide ((l.length : Int) ≤ m) = false := by simpa using h1
   unfold bukS at *
   refine FnP.i Tryz.func63 rfl rfl fun G w => ?_
   repeat' (first | apply WK.s | (apply hQ.h; clear hQ hA) | (refine WK.R Tryz.ntmps63 ?_; intro A hA Q hQ; simp [*]) | (refine RunQ.g rfl (by rw [hA.h]; rfl) ?_; simp [*]) | (refine WK.t Tryz.func63 ?_ ?_ <;> simp (config := zd) [Tryz.results63, *]))
theorem bkencP_c (l : List Bucket) (hl : l.length ≤ 1000000) (ha : ∀ x, x ∈ l → x.acts.length ≤ 1000000) : FnP Tryz.prog 40 [bukS l] (.tup [byS (bkEnc l).1, .int .i64 (bkEnc l).2]) := by
 have h := (bkenc_c l hl ha).toP (by simp [byL_take]) (by rfl)
 rwa [Nat.mul_one, by_full _ _ rfl] at h
theorem rbkencP_c (l : List Bucket) (hl : l.length ≤ 1000000) (ha : ∀ x, x ∈ l → x.acts.length ≤ 1000000) : FnP Tryz.prog 50 [bukS l] (.tup [byS (bkEnc l).1, .int .i64 (bkEnc l).2]) := by
 have h := (rbkenc_c l hl ha).toP (by simp [byL_take]) (by rfl)
 rwa [Nat.mul_one, by_full _ _ rfl] at h
end Go.Proofs.YtmhapglejjehbaaGreat

namespace Go.Proofs.YtmhapglejjehbaaGreat
open Go Go.AI Go.Proofs
theorem eqBy_iff {l m : List Action} : eqBy (fun x y : Action => x == y) l m = true ↔ l = m := by
 constructor
 · intro h
   unfold eqBy at h
   rw [Bool.and_eq_true, beq_iff_eq, List.all_eq_true] at h
   refine List.ext_getElem h.1 fun i h1 h2 => ?_
   have := h.2 i (by simpa using h1)
   rw [beq_iff_eq, nth_eq h1, nth_eq h2] at this
   exact this
 · intro h; subst h; exact eqBy_selfA l
theorem instSame_iff {a b : Inst} : Inst.same a b = true ↔ a = b := by
 obtain ⟨k, t, v, m, l⟩ := a
 obtain ⟨k', t', v', m', l'⟩ := b
 unfold Inst.same
 simp only [Bool.and_eq_true, beq_iff_eq, Inst.mk.injEq]
 rw [show (eqBy (fun x1 x2 => x1 == x2) l l' = true) ↔ l = l' from eqBy_iff]
 simp only [and_assoc]
def inst0 : Inst := ⟨0, 0, wideZ, wideZ, []⟩
def inMeta (v m : Wide) : Bool := v.hi == 0#64 && (m.hi == 0#64 && (v.less m).zero)
def inBare (i : Inst) : Inst := if i.kind = 1 then ⟨1, i.table, wideZ, wideZ, []⟩ else if i.kind = 2 then ⟨2, 0, i.value, i.mask, []⟩ else if i.kind = 3 ∨ i.kind = 4 then ⟨i.kind, 0, wideZ, wideZ, i.acts⟩ else ⟨i.kind, 0, wideZ, wideZ, []⟩
def inOk (i : Inst) : Bool := if i.kind = 1 then decide (0 ≤ i.table) && decide (i.table < 255) else if i.kind = 2 then inMeta i.value i.mask else if i.kind = 3 ∨ i.kind = 4 then (acEnc i.acts).2 == 0 else i.kind == 5
def inRight (i : Inst) : Bool := inOk i && Inst.same i (inBare i)
def inBody (i : Inst) : List (BitVec 8) := if i.kind = 1 then BitVec.ofInt 8 i.table :: List.replicate 3 0#8 else if i.kind = 2 then List.replicate 4 0#8 ++ (beN (wN i.value) 8 ++ beN (wN i.mask) 8) else if i.kind = 3 ∨ i.kind = 4 then List.replicate 4 0#8 ++ (acEnc i.acts).1 else List.replicate 4 0#8
def inOne (i : Inst) : List (BitVec 8) := beN i.kind 2 ++ (beN (4 + (inBody i).length : Nat) 2 ++ inBody i)
def inKinds (l : List Inst) : List Int := l.map (·.kind)
def inFit (l : List Inst) : Bool := l.all inRight && decide (inKinds l).Nodup
def inEnc (l : List Inst) : List (BitVec 8) × Int := if inFit l = true ∧ (rwFlat inOne l).length ≤ 60000 then (rwFlat inOne l, 0) else ([], 1)
theorem inBody_len (i : Inst) : (inBody i).length ≤ 6004 := by
 have := acEnc_len i.acts
 unfold inBody
 split
 · simp
 split
 · simp [beN_len]
 split
 · simp; omega
 · simp
theorem inOne_len (i : Inst) : (inOne i).length = 4 + (inBody i).length := by unfold inOne; simp [beN_len]; omega
theorem inRight_facts {i : Inst} (h : inRight i = true) : inOk i = true ∧ i = inBare i := by
 unfold inRight at h
 rw [Bool.and_eq_true] at h
 exact ⟨h.1, instSame_iff.1 h.2⟩
theorem inKind_of {i : Inst} (h : inOk i = true) : i.kind = 1 ∨ i.kind = 2 ∨ i.kind = 3 ∨ i.kind = 4 ∨ i.kind = 5 := by
 unfold inOk at h
 split at h
 · exact .inl ‹_›
 split at h
 · exact .inr (.inl ‹_›)
 split at h
 · rename_i h3; rcases h3 with h3 | h3
   · exact .inr (.inr (.inl h3))
   · exact .inr (.inr (.inr (.inl h3)))
 · exact .inr (.inr (.inr (.inr (by simpa using h))))
theorem inFit_facts {l : List Inst} (h : inFit l = true) : (∀ a, a ∈ l → inRight a = true) ∧ (inKinds l).Nodup := by
 unfold inFit at h
 rw [Bool.and_eq_true, List.all_eq_true, decide_eq_true_eq] at h
 exact h
theorem inEnc_bad1 {l : List Inst} (h : ¬ (inFit l = true ∧ (rwFlat inOne l).length ≤ 60000)) : inEnc l = ([], 1) := by unfold inEnc; rw [if_neg h]

def fmSizes : List Nat := [1, 1, 2, 2, 2, 4, 4, 4, 2]
def fmNums (m : FlowMod) : List Int := [m.table, m.command, m.idle, m.hard, m.prio, m.buffer, m.outPort, m.outGroup, m.flags]
def fmZip (m : FlowMod) : List (Int × Nat) := (fmNums m).zip fmSizes
def fmWrong (m : FlowMod) : Bool := m.insts.any fun i => i.acts.any fun a => a.kind == 25 && !mMet m.mat a.oxm.field
def fmCheck (m : FlowMod) : Option (Int × Int) :=
 if m.command < 0 ∨ 4 < m.command then some (5, 6) else if 31 < m.flags then some (5, 7) else if 2 < m.command then none else if fmWrong m = true then some (2, 10) else none
def fmRight (m : FlowMod) : Bool := (fmZip m).all (fun x => numOk x.1 x.2) && ((mEnc m.mat).2 == 0 && ((inEnc m.insts).2 == 0 && (fmCheck m).isNone))

theorem drop_nth {α : Type} [Inhabited α] {l : List α} {i : Nat} (h : i < l.length) : l.drop i = nth l i :: l.drop (i + 1) := by
 rw [List.drop_eq_getElem_cons h, nth_eq h]
theorem take_nth {α : Type} [Inhabited α] {l : List α} {i : Nat} (h : i < l.length) : l.take (i + 1) = l.take i ++ [nth l i] := by
 rw [List.take_succ_eq_append_getElem h, nth_eq h]
theorem mCheck_at {l : List Oxm} {i : Nat} (h : i < l.length) : mCheckF (l.take i) (l.drop i) =
   if ((l.take i).any fun p => p.field == (nth l i).field) = true then some 10 else if mMet (l.take i) (nth l i).field = false then some 9 else mCheckF (l.take (i + 1)) (l.drop (i + 1)) := by
 rw [drop_nth h, mCheckF, take_nth h]
theorem mCheck_end (l : List Oxm) : mCheckF (l.take l.length) (l.drop l.length) = none := by rw [List.drop_length]; rfl
theorem any_take {α : Type} [Inhabited α] (p : α → Bool) {l : List α} {i : Nat} (h : i < l.length) : (l.take (i + 1)).any p = ((l.take i).any p || p (nth l i)) := by
 rw [take_nth h, List.any_append]; simp
theorem any_take_all {α : Type} (p : α → Bool) (l : List α) : (l.take l.length).any p = l.any p := by rw [List.take_length]
theorem all_false {α : Type} [Inhabited α] {p : α → Bool} {l : List α} {i : Nat} (h : i < l.length) (hp : p (nth l i) = false) : l.all p = false := by
 rw [List.all_eq_false]; exact ⟨nth l i, nth_mem h, by simp [hp]⟩
theorem all_true {α : Type} [Inhabited α] {p : α → Bool} {l : List α} (h : ∀ j, j < l.length → p (nth l j) = true) : l.all p = true := by
 rw [List.all_eq_true]; intro x hx
 obtain ⟨j, hj, rfl⟩ := mem_nth hx
 exact h j hj
theorem any_false' {α : Type} [Inhabited α] {p : α → Bool} {l : List α} (h : ∀ j, j < l.length → p (nth l j) = false) : l.any p = false := by
 rw [List.any_eq_false]; intro x hx
 obtain ⟨j, hj, rfl⟩ := mem_nth hx
 simp [h j hj]
theorem any_true' {α : Type} [Inhabited α] {p : α → Bool} {l : List α} {i : Nat} (h : i < l.length) (hp : p (nth l i) = true) : l.any p = true := by
 rw [List.any_eq_true]; exact ⟨nth l i, nth_mem h, hp⟩
theorem mMet_false {l : List Oxm} {f : Int} {i : Nat} (h : i < (needs f).length) (hp : (l.any fun o => mGives o (nth (needs f) i)) = false) : mMet l f = false := all_false (p := fun n => l.any fun o => mGives o n) h hp
theorem mMet_true {l : List Oxm} {f : Int} (h : ∀ j, j < (needs f).length → (l.any fun o => mGives o (nth (needs f) j)) = true) : mMet l f = true := all_true (p := fun n => l.any fun o => mGives o n) h
theorem needs_small (f : Int) : (needs f).length ≤ 2 ∧ ∀ n, n ∈ needs f → n.values.length ≤ 2 := by
 have h : ∀ L : List Need, L ∈ [[], [⟨5, []⟩], [nEth [0x800#64, 0x86dd#64]], [nEth [0x800#64]], [nEth [0x800#64, 0x86dd#64], nProto 6#64], [nEth [0x800#64, 0x86dd#64], nProto 17#64], [nEth [0x800#64], nProto 1#64], [nEth [0x806#64]], [nEth [0x86dd#64]], [nEth [0x8847#64, 0x8848#64]]] → L.length ≤ 2 ∧ ∀ n, n ∈ L → n.values.length ≤ 2 := by
   intro L hL
   simp only [List.mem_cons, List.not_mem_nil, or_false] at hL
   rcases hL with rfl | rfl | rfl | rfl | rfl | rfl | rfl | rfl | rfl | rfl <;> decide
 refine h _ ?_
 unfold needs
 repeat' split
 all_goals decide
theorem seven_bit : ∀ i : Fin 64, (7#64).getLsbD i.val = decide (i.val < 3) := by decide +kernel
theorem and_not7 (x : BitVec 64) : x &&& ~~~7#64 = (x >>> 3) <<< 3 := by
 refine BitVec.eq_of_getLsbD_eq fun i hi => ?_
 have h7 := seven_bit ⟨i, hi⟩
 simp only at h7
 rw [BitVec.getLsbD_and, BitVec.getLsbD_not, h7, BitVec.getLsbD_shiftLeft, BitVec.getLsbD_ushiftRight]
 by_cases h3 : i < 3
 · simp [h3]
 · have e : 3 + (i - 3) = i := by omega
   simp [h3, hi, e]
theorem bNot7_big (n : Nat) (h : n < 4611686018427387904) : bNot .i64 (n : Int) 7 = ((n / 8 * 8 : Nat) : Int) := by
 unfold bNot
 show IntKind.wrap .i64 (((BitVec.ofInt 64 (n : Int) &&& ~~~(BitVec.ofInt 64 7)).toNat : Nat) : Int) = _
 rw [show BitVec.ofInt 64 (n : Int) = BitVec.ofNat 64 n from by rw [← BitVec.ofInt_natCast], show BitVec.ofInt 64 7 = 7#64 from rfl, and_not7, BitVec.toNat_shiftLeft, BitVec.toNat_ushiftRight, BitVec.toNat_ofNat, Nat.mod_eq_of_lt (by omega),
   Nat.shiftLeft_eq, Nat.shiftRight_eq_div_pow, Nat.mod_eq_of_lt (by omega)]
 exact wrap_i64 (by omega) (by omega)
theorem mPad_bit (n : Nat) (h : n < 1000000000) : bNot .i64 (IntKind.i64.wrap ((n : Int) + 7)) 7 = ((mPad n : Nat) : Int) := by
 rw [wrap_i64 (by omega) (by omega), show (n : Int) + 7 = ((n + 7 : Nat) : Int) by omega, bNot7_big _ (by omega)]; rfl
end Go.Proofs.YtmhapglejjehbaaGreat

namespace Go.Proofs.YtmhapglejjehbaaGreat
open Go Go.AI Go.Proofs
attribute [local irreducible] FnP FnO FnB FnT WK RunQ RunQW RunX RunXW
@[simp] theorem GroupMod.len (x : GroupMod) : x.enc.length = 4 := rfl
@[simp] theorem GroupMod.take (x : GroupMod) : x.enc.take 4 = x.enc := rfl
end Go.Proofs.YtmhapglejjehbaaGreat
