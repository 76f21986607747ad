/- What fields need, by both sides. -/
import Derived.Test.YtmhapglejjehbaaGreatAf
import Derived.Test.YtmhapglejjehbaaGreatWk5
set_option linter.all false
set_option linter.unnecessarySimpa false
namespace Go.Proofs.YtmhapglejjehbaaGreat
open Go Go.AI Go.Proofs
attribute [local irreducible] FnP FnO FnB FnT WK RunQ RunQW RunX RunXW
def wdL (l : List Wide) : List AV := l.flatMap Wide.enc
def wdS (l : List Wide) : AV := .sl false l.length (wdL l)
@[simp] theorem wdL_len (l : List Wide) : (wdL l).length = l.length * 2 := fm_length Wide.len l
@[simp] theorem wdL_cl (l : List Wide) : ClL (wdL l) = true := ClL_flatMap _ Wide.cl l
theorem wd_load (l : List Wide) (i : Nat) (h : i < l.length) : ((wdL l).drop (i * 2)).take 2 = (nth l i).enc ∧ 2 ≤ l.length * 2 - i * 2 := ⟨fm_nth Wide.len l i h, by omega⟩
@[simp] theorem wdS_cl (l : List Wide) : Cl (wdS l) = true := by simp [wdS, Cl]
@[simp] theorem wdL_nil : wdL [] = [] := rfl
theorem wdL_snoc (l : List Wide) (x : Wide) : wdL l ++ x.enc = wdL (l ++ [x]) := by unfold wdL; rw [List.flatMap_append]; simp
def Need.enc (n : Need) : List AV := [.int .i64 n.field, .sl false n.values.length (wdL n.values)]
@[simp] theorem Need.len (n : Need) : n.enc.length = 2 := rfl
@[simp] theorem Need.cl (n : Need) : ClL n.enc = true := by simp [Need.enc, ClL, Cl]
def needL (l : List Need) : List AV := l.flatMap Need.enc
def needS (l : List Need) : AV := .sl false l.length (needL l)
@[simp] theorem needL_len (l : List Need) : (needL l).length = l.length * 2 := fm_length Need.len l
@[simp] theorem needL_cl (l : List Need) : ClL (needL l) = true := ClL_flatMap _ Need.cl l
theorem need_sub (l : List Need) (i : Nat) (h : i < l.length) : ((needL l).drop (i * 2)).take 2 = (nth l i).enc := fm_nth Need.len l i h
theorem need_load (l : List Need) (i : Nat) (h : i < l.length) : ((needL l).drop (i * 2)).take 2 = (nth l i).enc ∧ 2 ≤ l.length * 2 - i * 2 := ⟨need_sub l i h, by omega⟩
@[simp] theorem needL_nil : needL [] = [] := rfl
@[simp] theorem Need.take (x : Need) : x.enc.take 2 = x.enc := rfl
@[simp] theorem Need.drop (x : Need) : x.enc.drop 2 = [] := rfl
def u64L (l : List (BitVec 64)) : List AV := l.map fun x => .int .u64 (uI x)
@[simp] theorem u64L_len (l : List (BitVec 64)) : (u64L l).length = l.length := by simp [u64L]
@[simp] theorem u64L_cl (l : List (BitVec 64)) : ClL (u64L l) = true := ClL_map _ (fun x => rfl) l
theorem u64_get (l : List (BitVec 64)) (i : Nat) (h : i < l.length) (h' : i < (u64L l).length) : (u64L l)[i] = .int .u64 (uI (nth l i)) := by
 unfold u64L at h' ⊢; rw [List.getElem_map, nth_eq h]
theorem app_wd : AppOk Tryz.prog 216 124 2 16 := ⟨by simp, by simp, by simp, by simp, by simp, by simp, by omega, by omega⟩
theorem app_need : AppOk Tryz.prog 214 218 2 32 := ⟨by simp, by simp, by simp, by simp, by simp, by simp, by omega, by omega⟩
theorem w64_take {l : List (BitVec 64)} {i : Nat} (h : i < l.length) : wdL ((l.map w64).take i) ++ [.int .u64 0, .int .u64 (uI (nth l i))] = wdL ((l.map w64).take (i + 1)) := by
 rw [← List.map_take, ← List.map_take, take_nth h, List.map_append, ← uZ_]
 exact wdL_snoc _ (w64 (nth l i))
theorem fis_c (f : Int) (l : List (BitVec 64)) (hl : l.length ≤ 1000) : FnP Tryz.prog 241 [.int .i64 f, .sl false l.length (u64L l)] (.agg (Need.enc ⟨f, l.map w64⟩)) := by
 refine FnP.i Tryz.func241 rfl rfl fun G w => ?_
 repeat' (first | apply WK.s | apply WK.b | (apply hQ.h; clear hQ hA) | (refine WK.R Tryz.ntmps241 ?_; intro A hA Q hQ; simp [*]))
 refine WK.ghost (Ghost.ownVar 102 1 900 2 rfl rfl rfl) ?_
 refine WK.L (fun n => if n = 1 then 102 else if n = 2 then 900 else n) (fun i : Nat => (⟨(upd (upd (upd (upd (upd J 4 (.ptr 0 0)) 5 (.ptr 1 0)) 10 (.sl false l.length (u64L l))) 11 (.int .i64 l.length)) 12 (.int .i64 i)), (upd (upd (upd B0 0 (.var [.junk, .junk])) 1 (.var [.int .i64 f, .msl 2 0 i])) 2 (.buf 2 (wdL ((l.map w64).take i)))), 0⟩ : St)) (fun i => i ≤ l.length) (fun i => l.length - i) (0) (by repeat (first | exact TmW.nil | refine TmW.upd ?_ (by simp (config := zd) [wdL]))) (by repeat (first | exact BxW.nil | refine BxW.upd ?_ (by simp (config := zd) [wdL]))) (Nat.zero_le _) (fun i hi IH => ?_)
 by_cases h1 : i < l.length
 · have h4 := u64_get l i h1
   have h6 : IntKind.i64.wrap ((i : Int) + 1) = i + 1 := wrap_i64 (by omega) (by omega)
   have hb : (i + 1) * 16 ≤ 140737488355328 := by omega
   have h3 : ((l.map w64).take i).length = i := by rw [List.length_take, List.length_map]; omega
   have hs := w64_take h1
   repeat' (first | apply WK.s | apply WK.b | apply WK.n | apply WK.k | refine WK.cT rfl ?_ | (apply hQ.h; clear hQ hA) | (refine WK.R Tryz.ntmps241 ?_; intro A hA Q hQ; simp [*]) | (refine RunQ.append 901 app_wd rfl rfl rfl rfl rfl rfl rfl rfl rfl ?_ ?_ ?_ ?_ ?_; (focus first | omega | simp [*]; done); (focus first | omega | simp [*]; done); (focus first | omega | simp [*]; done); (focus first | omega | simp [*]; done); refine RunQ.evalH ?_; simp [*]))
   refine WK.N (fun n => if n = 2 then 901 else n) (IH (i + 1) (by omega) (by first | omega | (dsimp only; omega))) (by repeat (first | exact TmW.nil | refine TmW.upd ?_ (by simp (config := zd) [hs]))) (by repeat (first | exact BxW.nil | refine BxW.upd ?_ (by simp (config := zd) [hs])))
 · have hT : (l.map w64).take i = l.map w64 := List.take_of_length_le (by rw [List.length_map]; omega)
   have hi' : i = l.length := by omega
   have hT2 : (wdL (l.map w64)).take (l.length * 2) = wdL (l.map w64) := List.take_of_length_le (by simp)
   rw [hT]
   repeat' (first | apply WK.s | refine WK.exit rfl ?_ | refine WK.cF rfl ?_ | (apply hQ.h; clear hQ hA) | (refine WK.R Tryz.ntmps241 ?_; intro A hA Q hQ; simp [*]))
   refine WK.ghost (Ghost.frzCell 0 1 2 _ 2 rfl rfl rfl (by decide)) ?_
   repeat' (first | (refine WK.t Tryz.func241 ?_ ?_ <;> simp (config := zd) [Tryz.results241, Need.enc, *]))
theorem fether_c (t p : List (BitVec 64)) (ht : t.length ≤ 1000) (hp : p.length ≤ 1000) : FnP Tryz.prog 242 [.sl false t.length (u64L t), .sl false p.length (u64L p)] (needS (nEth t :: if p.length = 0 then [] else [⟨9, p.map w64⟩])) := by
 have c1 := fis_c 4 t ht
 have c2 := fis_c 9 p hp
 unfold needS
 by_cases h : p.length = 0
 · have h' : ¬ (0 : Int) < p.length := by omega
   rw [if_pos h]
   refine FnP.i Tryz.func242 rfl rfl fun G w => ?_
   repeat' (first | apply WK.s | apply WK.k | refine WK.cF rfl ?_ | (apply hQ.h; clear hQ hA) | (refine WK.R Tryz.ntmps242 ?_; intro A hA Q hQ; simp [needL, nEth, Need.enc, *]) | (refine RunQ.k rfl rfl rfl rfl rfl ?_ (c1) ?_ ?_ <;> simp (config := zd) [needL, nEth, Need.enc, *] <;> refine ⟨?_⟩) | (refine WK.t Tryz.func242 ?_ ?_ <;> simp (config := zd) [Tryz.results242, needL, nEth, Need.enc, *]))
 · have h' : (0 : Int) < p.length := by omega
   have h2 : 0 < p.length := by omega
   rw [if_neg h]
   have hb : (1 + 1) * 32 ≤ 140737488355328 := by omega
   refine FnP.i Tryz.func242 rfl rfl fun G w => ?_
   repeat' (first | apply WK.s | refine WK.cT rfl ?_ | (apply hQ.h; clear hQ hA) | (refine WK.R Tryz.ntmps242 ?_; intro A hA Q hQ; simp [Need.enc, *]) | (refine RunQ.appendF 900 app_need rfl rfl rfl rfl rfl rfl rfl rfl ?_ ?_ ?_ ?_ ?_ ?_ ?_; (focus first | omega | simp [Need.enc, *]; done); (focus first | omega | simp [Need.enc, *]; done); (focus first | omega | simp [Need.enc, *]; done); (focus first | omega | simp [Need.enc, *]; done); (focus first | omega | simp [Need.enc, *]; done); (focus simp [Need.enc, *]; done); refine RunQ.evalH ?_; simp [Need.enc, *]) | (refine RunQ.k rfl rfl rfl rfl rfl ?_ (c1) ?_ ?_ <;> simp (config := zd) [Need.enc, *] <;> refine ⟨?_⟩) | (refine RunQ.k rfl rfl rfl rfl rfl ?_ (c2) ?_ ?_ <;> simp (config := zd) [Need.enc, *] <;> refine ⟨?_⟩))
   refine WK.ghost (Ghost.frzSl 4 2 rfl rfl) ?_
   repeat' (first | (refine WK.t Tryz.func242 ?_ ?_ <;> simp (config := zd) [Tryz.results242, needL, nEth, Need.enc, *]))
theorem u64_one (a : BitVec 64) : u64L [a] = [.int .u64 (uI a)] := rfl
theorem u64_two (a b : BitVec 64) : u64L [a, b] = [.int .u64 (uI a), .int .u64 (uI b)] := rfl
theorem u64_nil : u64L [] = [] := rfl
theorem fneeds_c (f : Int) : FnP Tryz.prog 208 [.int .i64 f] (needS (needs f)) := by
 have c0 := fis_c 5 [] (by decide)
 have e1 := fether_c [0x800#64, 0x86dd#64] [] (by decide) (by decide)
 have e2 := fether_c [0x800#64] [] (by decide) (by decide)
 have e3 := fether_c [0x800#64, 0x86dd#64] [6#64] (by decide) (by decide)
 have e4 := fether_c [0x800#64, 0x86dd#64] [17#64] (by decide) (by decide)
 have e5 := fether_c [0x800#64] [1#64] (by decide) (by decide)
 have e6 := fether_c [0x806#64] [] (by decide) (by decide)
 have e7 := fether_c [0x86dd#64] [] (by decide) (by decide)
 have e8 := fether_c [0x8847#64, 0x8848#64] [] (by decide) (by decide)
 unfold needS at *
 rw [u64_nil] at c0 e1 e2 e6 e7 e8
 simp only [u64_one, u64_two, List.length_cons, List.length_nil, Nat.zero_add, Nat.reduceAdd, if_true, Nat.one_ne_zero, if_false, show uI 0x800#64 = 2048 from rfl, show uI 0x86dd#64 = 34525 from rfl, show uI 6#64 = 6 from rfl, show uI 17#64 = 17 from rfl, show uI 1#64 = 1 from rfl, show uI 0x806#64 = 2054 from rfl, show uI 0x8847#64 = 34887 from rfl, show uI 0x8848#64 = 34888 from rfl] at *
 by_cases h : f = 6 ∨ f = 7 ∨ f = 8 ∨ f = 9 ∨ f = 10 ∨ f = 11 ∨ f = 12 ∨ f = 13 ∨ f = 14 ∨ f = 15 ∨ f = 16 ∨ f = 17 ∨ f = 18 ∨ f = 19 ∨ f = 20 ∨ f = 21 ∨ f = 22 ∨ f = 23
 · rcases h with rfl | rfl | rfl | rfl | rfl | rfl | rfl | rfl | rfl | rfl | rfl | rfl | rfl | rfl | rfl | rfl | rfl | rfl
   all_goals first | rw [show needs 6 = [⟨5, []⟩] from rfl] | rw [show needs 7 = [nEth [0x800#64, 0x86dd#64]] from rfl] | rw [show needs 8 = [nEth [0x800#64, 0x86dd#64]] from rfl] | rw [show needs 9 = [nEth [0x800#64, 0x86dd#64]] from rfl] | rw [show needs 10 = [nEth [0x800#64]] from rfl] | rw [show needs 11 = [nEth [0x800#64]] from rfl] | rw [show needs 12 = [nEth [0x800#64, 0x86dd#64], ⟨9, [6#64].map w64⟩] from rfl] | rw [show needs 13 = [nEth [0x800#64, 0x86dd#64], ⟨9, [6#64].map w64⟩] from rfl] | rw [show needs 14 = [nEth [0x800#64, 0x86dd#64], ⟨9, [17#64].map w64⟩] from rfl] | rw [show needs 15 = [nEth [0x800#64, 0x86dd#64], ⟨9, [17#64].map w64⟩] from rfl] | rw [show needs 16 = [nEth [0x800#64], ⟨9, [1#64].map w64⟩] from rfl] | rw [show needs 17 = [nEth [0x800#64], ⟨9, [1#64].map w64⟩] from rfl] | rw [show needs 18 = [nEth [0x806#64]] from rfl] | rw [show needs 19 = [nEth [0x806#64]] from rfl] | rw [show needs 20 = [nEth [0x806#64]] from rfl] | rw [show needs 21 = [nEth [0x86dd#64]] from rfl] | rw [show needs 22 = [nEth [0x86dd#64]] from rfl] | rw [show needs 23 = [nEth [0x8847#64, 0x8848#64]] from rfl]
   all_goals
   · refine FnP.i Tryz.func208 rfl rfl fun G w => ?_
     repeat' (first | apply WK.s | apply WK.b | apply WK.k | refine WK.cT rfl ?_ | refine WK.cF rfl ?_ | (apply hQ.h; clear hQ hA) | (refine WK.R Tryz.ntmps208 ?_; intro A hA Q hQ; simp [needL, Need.enc, *]) | (refine RunQ.k rfl rfl rfl rfl rfl ?_ (c0) ?_ ?_ <;> simp (config := zd) [needL, Need.enc, *] <;> refine ⟨?_⟩) | (refine RunQ.k rfl rfl rfl rfl rfl ?_ (e1) ?_ ?_ <;> simp (config := zd) [needL, Need.enc, *] <;> refine ⟨?_⟩) | (refine RunQ.k rfl rfl rfl rfl rfl ?_ (e2) ?_ ?_ <;> simp (config := zd) [needL, Need.enc, *] <;> refine ⟨?_⟩) | (refine RunQ.k rfl rfl rfl rfl rfl ?_ (e3) ?_ ?_ <;> simp (config := zd) [needL, Need.enc, *] <;> refine ⟨?_⟩) | (refine RunQ.k rfl rfl rfl rfl rfl ?_ (e4) ?_ ?_ <;> simp (config := zd) [needL, Need.enc, *] <;> refine ⟨?_⟩) | (refine RunQ.k rfl rfl rfl rfl rfl ?_ (e5) ?_ ?_ <;> simp (config := zd) [needL, Need.enc, *] <;> refine ⟨?_⟩) | (refine RunQ.k rfl rfl rfl rfl rfl ?_ (e6) ?_ ?_ <;> simp (config := zd) [needL, Need.enc, *] <;> refine ⟨?_⟩) | (refine RunQ.k rfl rfl rfl rfl rfl ?_ (e7) ?_ ?_ <;> simp (config := zd) [needL, Need.enc, *] <;> refine ⟨?_⟩) | (refine RunQ.k rfl rfl rfl rfl rfl ?_ (e8) ?_ ?_ <;> simp (config := zd) [needL, Need.enc, *] <;> refine ⟨?_⟩) | (refine WK.t Tryz.func208 ?_ ?_ <;> simp (config := zd) [Tryz.results208, needL, Need.enc, *]))
 · simp only [not_or] at h
   obtain ⟨h6, h7, h8, h9, h10, h11, h12, h13, h14, h15, h16, h17, h18, h19, h20, h21, h22, h23⟩ := h
   have e : needs f = [] := by unfold needs; rw [if_neg h6, if_neg (by omega), if_neg (by omega), if_neg (by omega), if_neg (by omega), if_neg (by omega), if_neg (by omega), if_neg (by omega), if_neg h23]
   rw [e]
   have j6 : (f == 6) = false := by simpa using h6
   have j7 : (f == 7) = false := by simpa using h7
   have j8 : (f == 8) = false := by simpa using h8
   have j9 : (f == 9) = false := by simpa using h9
   have j10 : (f == 10) = false := by simpa using h10
   have j11 : (f == 11) = false := by simpa using h11
   have j12 : (f == 12) = false := by simpa using h12
   have j13 : (f == 13) = false := by simpa using h13
   have j14 : (f == 14) = false := by simpa using h14
   have j15 : (f == 15) = false := by simpa using h15
   have j16 : (f == 16) = false := by simpa using h16
   have j17 : (f == 17) = false := by simpa using h17
   have j18 : (f == 18) = false := by simpa using h18
   have j19 : (f == 19) = false := by simpa using h19
   have j20 : (f == 20) = false := by simpa using h20
   have j21 : (f == 21) = false := by simpa using h21
   have j22 : (f == 22) = false := by simpa using h22
   have j23 : (f == 23) = false := by simpa using h23
   clear h6 h7 h8 h9 h10 h11 h12 h13 h14 h15 h16 h17 h18 h19 h20 h21 h22 h23 e
   refine FnP.i Tryz.func208 rfl rfl fun G w => ?_
   repeat' (first | apply WK.s | apply WK.b | apply WK.n | apply WK.k | refine WK.cF rfl ?_ | (apply hQ.h; clear hQ hA) | (refine WK.R Tryz.ntmps208 ?_; intro A hA Q hQ; simp [needL, Need.enc, *]) | (refine WK.t Tryz.func208 ?_ ?_ <;> simp (config := zd) [Tryz.results208, needL, Need.enc, *]))
theorem rproto_c (x : BitVec 64) : FnP Tryz.prog 240 [.int .u64 (uI x)] (.agg (Need.enc ⟨9, [x].map w64⟩)) := by
 have e : wdL [w64 x] = [.int .u64 0, .int .u64 (uI x)] := by rw [← uZ_]; rfl
 refine FnP.i Tryz.func240 rfl rfl fun G w => ?_
 repeat' (first | apply WK.s | (apply hQ.h; clear hQ hA) | (refine WK.R Tryz.ntmps240 ?_; intro A hA Q hQ; simp [Need.enc, *]) | (refine WK.t Tryz.func240 ?_ ?_ <;> simp (config := zd) [Tryz.results240, Need.enc, *]))
theorem rether_c (l : List (BitVec 64)) (hl : l.length ≤ 1000) : FnP Tryz.prog 239 [.sl false l.length (u64L l)] (.agg (nEth l).enc) := by
 refine FnP.i Tryz.func239 rfl rfl fun G w => ?_
 repeat' (first | apply WK.s | apply WK.b | (apply hQ.h; clear hQ hA) | (refine WK.R Tryz.ntmps239 ?_; intro A hA Q hQ; simp [*]))
 refine WK.ghost (Ghost.ownVar 101 1 900 2 rfl rfl rfl) ?_
 refine WK.L (fun n => if n = 1 then 101 else if n = 2 then 900 else n) (fun i : Nat => (⟨(upd (upd (upd (upd J 2 (.ptr 0 0)) 3 (.ptr 1 0)) 0 (.sl false l.length (u64L l))) 4 (.int .i64 i)), (upd (upd (upd B0 0 (.var [.junk, .junk])) 1 (.var [.int .i64 4, .msl 2 0 i])) 2 (.buf 2 (wdL ((l.map w64).take i)))), 0⟩ : St)) (fun i => i ≤ l.length) (fun i => l.length - i) (0) (by repeat (first | exact TmW.nil | refine TmW.upd ?_ (by simp (config := zd) [wdL]))) (by repeat (first | exact BxW.nil | refine BxW.upd ?_ (by simp (config := zd) [wdL]))) (Nat.zero_le _) (fun i hi IH => ?_)
 by_cases h1 : i < l.length
 · have h4 := u64_get l i h1
   have h6 : IntKind.i64.wrap ((i : Int) + 1) = i + 1 := wrap_i64 (by omega) (by omega)
   have hb : (i + 1) * 16 ≤ 140737488355328 := by omega
   have h3 : ((l.map w64).take i).length = i := by rw [List.length_take, List.length_map]; omega
   have hs := w64_take h1
   repeat' (first | apply WK.s | apply WK.b | apply WK.n | apply WK.k | refine WK.cT rfl ?_ | (refine hQ.h _ _ ?_; clear hQ hA) | (refine WK.R Tryz.ntmps239 ?_; intro A hA Q hQ; simp [*]) | (refine WK.X Tryz.ntmps239 ?_; intro A hA Q hQ; simp [*]) | (refine hQ.h _ _ _ (by decide +kernel) ?_; clear hQ hA) | (refine RunX.append 901 app_wd rfl rfl rfl rfl rfl rfl rfl rfl ?_ ?_ ?_ ?_ ?_; (focus first | omega | simp [*]; done); (focus first | omega | simp [*]; done); (focus first | omega | simp [*]; done); (focus first | omega | simp [*]; done); refine RunX.e ?_; simp [*]))
   refine WK.N (fun n => if n = 2 then 901 else n) (IH (i + 1) (by omega) (by first | omega | (dsimp only; omega))) (by repeat (first | exact TmW.nil | refine TmW.upd ?_ (by simp (config := zd) [hs]))) (by repeat (first | exact BxW.nil | refine BxW.upd ?_ (by simp (config := zd) [hs])))
 · have hT : (l.map w64).take i = l.map w64 := List.take_of_length_le (by rw [List.length_map]; omega)
   have hi' : i = l.length := by omega
   have hT2 : (wdL (l.map w64)).take (l.length * 2) = wdL (l.map w64) := List.take_of_length_le (by simp)
   rw [hT]
   repeat' (first | apply WK.s | refine WK.exit rfl ?_ | refine WK.cF rfl ?_ | (apply hQ.h; clear hQ hA) | (refine WK.R Tryz.ntmps239 ?_; intro A hA Q hQ; simp [*]))
   refine WK.ghost (Ghost.frzCell 0 1 2 _ 2 rfl rfl rfl (by decide)) ?_
   repeat' (first | (refine WK.t Tryz.func239 ?_ ?_ <;> simp (config := zd) [Tryz.results239, Need.enc, nEth, *]))
theorem rneeds_c (f : Int) : FnP Tryz.prog 201 [.int .i64 f] (needS (needs f)) := by
 have e1 := rether_c [0x800#64, 0x86dd#64] (by decide)
 have e2 := rether_c [0x800#64] (by decide)
 have e3 := rproto_c 6#64
 have e4 := rproto_c 17#64
 have e5 := rproto_c 1#64
 have e6 := rether_c [0x806#64] (by decide)
 have e7 := rether_c [0x86dd#64] (by decide)
 have e8 := rether_c [0x8847#64, 0x8848#64] (by decide)
 unfold needS
 simp only [u64_one, u64_two, List.length_cons, List.length_nil, Nat.zero_add, Nat.reduceAdd, show uI 0x800#64 = 2048 from rfl, show uI 0x86dd#64 = 34525 from rfl, show uI 6#64 = 6 from rfl, show uI 17#64 = 17 from rfl, show uI 1#64 = 1 from rfl, show uI 0x806#64 = 2054 from rfl, show uI 0x8847#64 = 34887 from rfl, show uI 0x8848#64 = 34888 from rfl] at *
 by_cases h : f = 6 ∨ f = 7 ∨ f = 8 ∨ f = 9 ∨ f = 10 ∨ f = 11 ∨ f = 12 ∨ f = 13 ∨ f = 14 ∨ f = 15 ∨ f = 16 ∨ f = 17 ∨ f = 18 ∨ f = 19 ∨ f = 20 ∨ f = 21 ∨ f = 22 ∨ f = 23
 · rcases h with rfl | rfl | rfl | rfl | rfl | rfl | rfl | rfl | rfl | rfl | rfl | rfl | rfl | rfl | rfl | rfl | rfl | rfl
   all_goals first | rw [show needs 6 = [⟨5, []⟩] from rfl] | rw [show needs 7 = [nEth [0x800#64, 0x86dd#64]] from rfl] | rw [show needs 8 = [nEth [0x800#64, 0x86dd#64]] from rfl] | rw [show needs 9 = [nEth [0x800#64, 0x86dd#64]] from rfl] | rw [show needs 10 = [nEth [0x800#64]] from rfl] | rw [show needs 11 = [nEth [0x800#64]] from rfl] | rw [show needs 12 = [nEth [0x800#64, 0x86dd#64], ⟨9, [6#64].map w64⟩] from rfl] | rw [show needs 13 = [nEth [0x800#64, 0x86dd#64], ⟨9, [6#64].map w64⟩] from rfl] | rw [show needs 14 = [nEth [0x800#64, 0x86dd#64], ⟨9, [17#64].map w64⟩] from rfl] | rw [show needs 15 = [nEth [0x800#64, 0x86dd#64], ⟨9, [17#64].map w64⟩] from rfl] | rw [show needs 16 = [nEth [0x800#64], ⟨9, [1#64].map w64⟩] from rfl] | rw [show needs 17 = [nEth [0x800#64], ⟨9, [1#64].map w64⟩] from rfl] | rw [show needs 18 = [nEth [0x806#64]] from rfl] | rw [show needs 19 = [nEth [0x806#64]] from rfl] | rw [show needs 20 = [nEth [0x806#64]] from rfl] | rw [show needs 21 = [nEth [0x86dd#64]] from rfl] | rw [show needs 22 = [nEth [0x86dd#64]] from rfl] | rw [show needs 23 = [nEth [0x8847#64, 0x8848#64]] from rfl]
   all_goals
   · refine FnP.i Tryz.func201 rfl rfl fun G w => ?_
     repeat' (first | apply WK.s | apply WK.b | apply WK.k | refine WK.cT rfl ?_ | refine WK.cF rfl ?_ | (apply hQ.h; clear hQ hA) | (refine WK.R Tryz.ntmps201 ?_; intro A hA Q hQ; simp [needL, Need.enc, *]) | (refine RunQ.k rfl rfl rfl rfl rfl ?_ (e1) ?_ ?_ <;> simp (config := zd) [needL, Need.enc, *] <;> refine ⟨?_⟩) | (refine RunQ.k rfl rfl rfl rfl rfl ?_ (e2) ?_ ?_ <;> simp (config := zd) [needL, Need.enc, *] <;> refine ⟨?_⟩) | (refine RunQ.k rfl rfl rfl rfl rfl ?_ (e3) ?_ ?_ <;> simp (config := zd) [needL, Need.enc, *] <;> refine ⟨?_⟩) | (refine RunQ.k rfl rfl rfl rfl rfl ?_ (e4) ?_ ?_ <;> simp (config := zd) [needL, Need.enc, *] <;> refine ⟨?_⟩) | (refine RunQ.k rfl rfl rfl rfl rfl ?_ (e5) ?_ ?_ <;> simp (config := zd) [needL, Need.enc, *] <;> refine ⟨?_⟩) | (refine RunQ.k rfl rfl rfl rfl rfl ?_ (e6) ?_ ?_ <;> simp (config := zd) [needL, Need.enc, *] <;> refine ⟨?_⟩) | (refine RunQ.k rfl rfl rfl rfl rfl ?_ (e7) ?_ ?_ <;> simp (config := zd) [needL, Need.enc, *] <;> refine ⟨?_⟩) | (refine RunQ.k rfl rfl rfl rfl rfl ?_ (e8) ?_ ?_ <;> simp (config := zd) [needL, Need.enc, *] <;> refine ⟨?_⟩) | (refine WK.t Tryz.func201 ?_ ?_ <;> simp (config := zd) [Tryz.results201, needL, Need.enc, *]))
 · simp only [not_or] at h
   obtain ⟨h6, h7, h8, h9, h10, h11, h12, h13, h14, h15, h16, h17, h18, h19, h20, h21, h22, h23⟩ := h
   have e : needs f = [] := by unfold needs; rw [if_neg h6, if_neg (by omega), if_neg (by omega), if_neg (by omega), if_neg (by omega), if_neg (by omega), if_neg (by omega), if_neg (by omega), if_neg h23]
   rw [e]
   have j6 : (f == 6) = false := by simpa using h6
   have j7 : (f == 7) = false := by simpa using h7
   have j8 : (f == 8) = false := by simpa using h8
   have j9 : (f == 9) = false := by simpa using h9
   have j10 : (f == 10) = false := by simpa using h10
   have j11 : (f == 11) = false := by simpa using h11
   have j12 : (f == 12) = false := by simpa using h12
   have j13 : (f == 13) = false := by simpa using h13
   have j14 : (f == 14) = false := by simpa using h14
   have j15 : (f == 15) = false := by simpa using h15
   have j16 : (f == 16) = false := by simpa using h16
   have j17 : (f == 17) = false := by simpa using h17
   have j18 : (f == 18) = false := by simpa using h18
   have j19 : (f == 19) = false := by simpa using h19
   have j20 : (f == 20) = false := by simpa using h20
   have j21 : (f == 21) = false := by simpa using h21
   have j22 : (f == 22) = false := by simpa using h22
   have j23 : (f == 23) = false := by simpa using h23
   clear h6 h7 h8 h9 h10 h11 h12 h13 h14 h15 h16 h17 h18 h19 h20 h21 h22 h23 e
   refine FnP.i Tryz.func201 rfl rfl fun G w => ?_
   repeat' (first | apply WK.s | apply WK.b | apply WK.n | apply WK.k | refine WK.cF rfl ?_ | (apply hQ.h; clear hQ hA) | (refine WK.R Tryz.ntmps201 ?_; intro A hA Q hQ; simp [needL, Need.enc, *]) | (refine WK.t Tryz.func201 ?_ ?_ <;> simp (config := zd) [Tryz.results201, needL, Need.enc, *]))

theorem windex_c (l : List Wide) (v : Wide) (hl : l.length ≤ 1000000) : FnP Tryz.prog 253 [wdS l, .agg v.enc] (.int .i64 (firstI (fun i => v == nth l i) l.length)) := by
 unfold wdS
 refine FnP.i Tryz.func253 rfl rfl fun G w => ?_
 repeat' (first | apply WK.s | apply WK.b | (apply hQ.h; clear hQ hA) | (refine WK.R Tryz.ntmps253 ?_; intro A hA Q hQ; simp [*]))
 refine WK.L (fun n => n) (fun i : Nat => (⟨(upd (upd (upd (upd J 0 (.sl false l.length (wdL l))) 3 (.ptr 0 0)) 7 (.int .i64 l.length)) 8 (.int .i64 i)), (upd B0 0 (.var v.enc)), 0⟩ : St)) (fun i => i ≤ l.length ∧ ∀ j, j < i → (v == nth l j) = false) (fun i => l.length - i) (0) (by repeat (first | exact TmW.nil | refine TmW.upd ?_ (by simp (config := zd)))) (by repeat (first | exact BxW.nil | refine BxW.upd ?_ (by simp (config := zd)))) (⟨by omega, by simp⟩) (fun i hi IH => ?_)
 by_cases h1 : i < l.length
 · obtain ⟨h4, h3⟩ := wd_load l i h1
   have h6 : IntKind.i64.wrap ((i : Int) + 1) = i + 1 := wrap_i64 (by omega) (by omega)
   cases h5 : v == nth l i
   · repeat' (first | apply WK.s | apply WK.b | apply WK.n | apply WK.k | refine WK.cT rfl ?_ | refine WK.cF rfl ?_ | (refine hQ.h _ _ ?_; clear hQ hA) | (refine WK.R Tryz.ntmps253 ?_; intro A hA Q hQ; simp [*]) | (refine WK.X Tryz.ntmps253 ?_; intro A hA Q hQ; simp [*]) | (refine hQ.h _ _ _ (by decide +kernel) ?_; clear hQ hA))
     refine WK.N (fun n => n) (IH (i + 1) (⟨by omega, fun j hj => by by_cases h7 : j = i; (subst h7; exact h5); exact hi.2 j (by omega)⟩) (by first | omega | (dsimp only; omega)))
   · have e := firstI_some (p := fun i => v == nth l i) h1 h5 hi.2
     repeat' (first | apply WK.s | apply WK.b | apply WK.k | refine WK.cT rfl ?_ | (refine hQ.h _ _ ?_; clear hQ hA) | (refine WK.R Tryz.ntmps253 ?_; intro A hA Q hQ; simp [*]) | (refine WK.X Tryz.ntmps253 ?_; intro A hA Q hQ; simp [*]) | (refine hQ.h _ _ _ (by decide +kernel) ?_; clear hQ hA) | (refine WK.t Tryz.func253 ?_ ?_ <;> simp (config := zd) [Tryz.results253, e, *]))
 · have e := firstI_none (p := fun i => v == nth l i) (n := l.length) (fun j hj => hi.2 j (by omega))
   repeat' (first | apply WK.s | refine WK.exit rfl ?_ | refine WK.cF rfl ?_ | (apply hQ.h; clear hQ hA) | (refine WK.R Tryz.ntmps253 ?_; intro A hA Q hQ; simp [*]) | (refine WK.t Tryz.func253 ?_ ?_ <;> simp (config := zd) [Tryz.results253, e, *]))
theorem wcontains_c (l : List Wide) (v : Wide) (hl : l.length ≤ 1000000) : FnP Tryz.prog 243 [wdS l, .agg v.enc] (.bool (l.any fun x => v == x)) := by
 have e := firstI_ge (fun i => v == nth l i) l.length
 have e2 : (List.range l.length).any (fun i => v == nth l i) = l.any fun x => v == x := by
   rw [Bool.eq_iff_iff, List.any_eq_true, List.any_eq_true]
   constructor
   · rintro ⟨i, hi, h⟩; exact ⟨nth l i, nth_mem (by simpa using hi), h⟩
   · rintro ⟨x, hx, h⟩; obtain ⟨i, hi, rfl⟩ := mem_nth hx; exact ⟨i, by simpa using hi, h⟩
 rw [e2] at e
 refine FnP.i Tryz.func243 rfl rfl fun G w => ?_
 repeat apply WK.s
 refine WK.G 100 Tryz.ntmps243 ?_
 intro A hA Q hQ
 simp
 apply hQ
 clear hQ hA
 repeat apply WK.s
 refine WK.G 200 Tryz.ntmps243 ?_
 intro A hA Q hQ
 simp
 refine RunQ.call rfl rfl rfl rfl (by rfl) (by simp (config := zd)) (windex_c l v hl) (by simp) ?_
 refine RunQ.eval ?_
 simp
 apply hQ
 clear hQ hA
 refine WK.t Tryz.func243 (by simp (config := zd) [Tryz.results243, e]) (by simp [e])
theorem gives_c (o : Oxm) (n : Need) (hn : n.values.length ≤ 1000000) : FnP Tryz.prog 209 [.agg o.enc, .agg n.enc] (.bool (mGives o n)) := by
 have c := wcontains_c n.values o.value hn
 have e : mGives o n = (o.field == n.field && (n.values.length == 0 || (!o.masked && n.values.any fun v => o.value == v))) := rfl
 obtain ⟨z, hz⟩ : ∃ z, (n.values.any fun v => o.value == v) = z := ⟨_, rfl⟩
 rw [hz] at c e
 unfold wdS at c
 unfold Wide.enc at c
 clear hz
 cases h1 : o.field == n.field
 · rw [h1] at e
   refine FnP.i Tryz.func209 rfl rfl fun G w => ?_
   repeat' (first | apply WK.s | (apply hQ.h; clear hQ hA) | (refine WK.R Tryz.ntmps209 ?_; intro A hA Q hQ; simp [Oxm.enc, Need.enc, *]) | (refine RunQ.g rfl (by rw [hA.h]; rfl) ?_; simp [Oxm.enc, Need.enc, *]) | (refine WK.t Tryz.func209 ?_ ?_ <;> simp (config := zd) [Tryz.results209, Oxm.enc, Need.enc, *]))
 rw [h1] at e
 by_cases h2 : n.values.length = 0
 · rw [h2] at e
   refine FnP.i Tryz.func209 rfl rfl fun G w => ?_
   repeat' (first | apply WK.s | (apply hQ.h; clear hQ hA) | (refine WK.R Tryz.ntmps209 ?_; intro A hA Q hQ; simp [Oxm.enc, Need.enc, *]) | (refine RunQ.g rfl (by rw [hA.h]; rfl) ?_; simp [Oxm.enc, Need.enc, *]) | (refine WK.t Tryz.func209 ?_ ?_ <;> simp (config := zd) [Tryz.results209, Oxm.enc, Need.enc, *]))
 have h3 : (n.values.length == 0) = false := by simpa using h2
 have h4 : ((n.values.length : Int) == 0) = false := by rw [beq_eq_false_iff_ne]; omega
 rw [h3] at e
 cases h5 : o.masked
 · rw [h5] at e
   refine FnP.i Tryz.func209 rfl rfl fun G w => ?_
   repeat' (first | apply WK.s | (apply hQ.h; clear hQ hA) | (refine WK.R Tryz.ntmps209 ?_; intro A hA Q hQ; simp [Oxm.enc, Need.enc, *]) | (refine RunQ.g rfl (by rw [hA.h]; rfl) ?_; simp [Oxm.enc, Need.enc, *]) | (refine RunQW.k rfl rfl rfl rfl ?_ (c) ?_ ?_ <;> simp (config := zd) [Oxm.enc, Need.enc, *] <;> refine ⟨?_⟩) | (refine WK.t Tryz.func209 ?_ ?_ <;> simp (config := zd) [Tryz.results209, Oxm.enc, Need.enc, *]))
 · rw [h5] at e
   refine FnP.i Tryz.func209 rfl rfl fun G w => ?_
   repeat' (first | apply WK.s | (apply hQ.h; clear hQ hA) | (refine WK.R Tryz.ntmps209 ?_; intro A hA Q hQ; simp [Oxm.enc, Need.enc, *]) | (refine RunQ.g rfl (by rw [hA.h]; rfl) ?_; simp [Oxm.enc, Need.enc, *]) | (refine WK.t Tryz.func209 ?_ ?_ <;> simp (config := zd) [Tryz.results209, Oxm.enc, Need.enc, *]))
theorem met_c (l : List Oxm) (f : Int) (hl : l.length ≤ 1000000) : FnP Tryz.prog 177 [oxmS l, .int .i64 f] (.bool (mMet l f)) := by
 have cn := fneeds_c f
 have hsm := needs_small f
 have hF : ∀ i, i < (needs f).length → (l.any fun o => mGives o (nth (needs f) i)) = false → mMet l f = false := fun i h hp => mMet_false h hp
 have hT : (∀ j, j < (needs f).length → (l.any fun o => mGives o (nth (needs f) j)) = true) → mMet l f = true := mMet_true
 obtain ⟨N, hN⟩ : ∃ N, needs f = N := ⟨_, rfl⟩
 rw [hN] at cn hsm hF hT
 unfold needS at cn
 clear hN
 unfold oxmS
 refine FnP.i Tryz.func177 rfl rfl fun G w => ?_
 repeat' (first | apply WK.s | apply WK.b | apply WK.label | apply WK.scope | (apply hQ.h; clear hQ hA) | (refine WK.R Tryz.ntmps177 ?_; intro A hA Q hQ; simp [*]) | (refine RunQ.k rfl rfl rfl rfl rfl ?_ (cn) ?_ ?_ <;> simp (config := zd) [*] <;> refine ⟨?_⟩))
 refine WK.L (fun n => n) (fun i : Nat => (⟨(upd (upd (upd (upd J 0 (.sl false l.length (oxmL l))) 10 (.sl false N.length (needL N))) 11 (.int .i64 N.length)) 12 (.int .i64 i)), B0, 0⟩ : St)) (fun i => i ≤ N.length ∧ ∀ j, j < i → (l.any fun o => mGives o (nth N j)) = true) (fun i => N.length - i) (0) (by repeat (first | exact TmW.nil | refine TmW.upd ?_ (by simp (config := zd)))) (by repeat (first | exact BxW.nil | refine BxW.upd ?_ (by simp (config := zd)))) (⟨by omega, by simp⟩) (fun i hi IH => ?_)
 by_cases h1 : i < N.length
 · obtain ⟨h4, h3⟩ := need_load N i h1
   have h6 : IntKind.i64.wrap ((i : Int) + 1) = i + 1 := wrap_i64 (by omega) (by omega)
   have hv := hsm.2 _ (nth_mem h1)
   have hFi := hF i h1
   have hst : (l.any fun o => mGives o (nth N i)) = true → ∀ j, j < i + 1 → (l.any fun o => mGives o (nth N j)) = true := fun h j hj => by
     by_cases h7 : j = i
     · subst h7; exact h
     · exact hi.2 j (by omega)
   obtain ⟨n, hn⟩ : ∃ n, nth N i = n := ⟨_, rfl⟩
   rw [hn] at h4 hv hFi hst
   repeat' (first | apply WK.s | apply WK.b | apply WK.k | refine WK.cT rfl ?_ | (apply hQ.h; clear hQ hA) | (refine WK.R Tryz.ntmps177 ?_; intro A hA Q hQ; simp [*]))
   refine WK.L (fun n => if n = 0 then 102 else n) (fun j : Nat => (⟨(upd (upd (upd (upd (upd (upd (upd (upd J 0 (.sl false l.length (oxmL l))) 6 (.ptr 0 0)) 10 (.sl false N.length (needL N))) 11 (.int .i64 N.length)) 12 (.int .i64 i)) 16 (.sl false l.length (oxmL l))) 17 (.int .i64 l.length)) 18 (.int .i64 j)), (upd B0 0 (.var n.enc)), 0⟩ : St)) (fun j => j ≤ l.length ∧ ∀ k, k < j → mGives (nth l k) n = false) (fun j => l.length - j) (0) (by repeat (first | exact TmW.nil | refine TmW.upd ?_ (by simp (config := zd)))) (by repeat (first | exact BxW.nil | refine BxW.upd ?_ (by simp (config := zd)))) (⟨by omega, by simp⟩) (fun j hj IHj => ?_)
   by_cases g1 : j < l.length
   · have g4 := oxm_sub l j g1
     have g3 : 6 ≤ l.length * 6 - j * 6 := by omega
     have g6 : IntKind.i64.wrap ((j : Int) + 1) = j + 1 := wrap_i64 (by omega) (by omega)
     have gc := gives_c (nth l j) n (by omega)
     cases g5 : mGives (nth l j) n
     · rw [g5] at gc
       repeat' (first | apply WK.s | apply WK.b | apply WK.n | apply WK.k | refine WK.cT rfl ?_ | refine WK.cF rfl ?_ | (apply hQ.h; clear hQ hA) | (refine WK.R Tryz.ntmps177 ?_; intro A hA Q hQ; simp [*]) | (refine RunQ.k rfl rfl rfl rfl rfl ?_ (gc) ?_ ?_ <;> simp (config := zd) [*] <;> refine ⟨?_⟩))
       refine WK.N (fun n => n) (IHj (j + 1) (⟨by omega, fun k hk => by by_cases h7 : k = j; (subst h7; exact g5); exact hj.2 k (by omega)⟩) (by first | omega | (dsimp only; omega)))
     · rw [g5] at gc
       have hst2 := hst (any_true' (p := fun o => mGives o n) g1 g5)
       clear hst
       repeat' (first | apply WK.s | apply WK.b | apply WK.k | refine WK.exit rfl ?_ | refine WK.cT rfl ?_ | (apply hQ.h; clear hQ hA) | (refine WK.R Tryz.ntmps177 ?_; intro A hA Q hQ; simp [*]) | (refine RunQ.k rfl rfl rfl rfl rfl ?_ (gc) ?_ ?_ <;> simp (config := zd) [*] <;> refine ⟨?_⟩))
       refine WK.N (fun n => n) (IH (i + 1) (⟨by omega, hst2⟩) (by first | omega | (dsimp only; omega)))
   · have e := hFi (any_false' (p := fun o => mGives o n) fun k hk => hj.2 k (by omega))
     repeat' (first | apply WK.s | refine WK.exit rfl ?_ | refine WK.cF rfl ?_ | (apply hQ.h; clear hQ hA) | (refine WK.R Tryz.ntmps177 ?_; intro A hA Q hQ; simp [*]) | (refine WK.t Tryz.func177 ?_ ?_ <;> simp (config := zd) [Tryz.results177, *]))
 · have e := hT fun j hj => hi.2 j (by omega)
   repeat' (first | apply WK.s | refine WK.exit rfl ?_ | refine WK.cF rfl ?_ | (apply hQ.h; clear hQ hA) | (refine WK.R Tryz.ntmps177 ?_; intro A hA Q hQ; simp [*]) | (refine WK.t Tryz.func177 ?_ ?_ <;> simp (config := zd) [Tryz.results177, *]))
theorem check1_c (a b : Oxm) : FnP Tryz.prog 175 [.agg a.enc, .iptr b.enc] (.bool (a.field == b.field)) := by
 refine FnP.i Tryz.func175 rfl rfl fun G w => ?_
 repeat' (first | apply WK.s | (apply hQ.h; clear hQ hA) | (refine WK.R Tryz.ntmps175 ?_; intro A hA Q hQ; simp [Oxm.enc, *]) | (refine WK.t Tryz.func175 ?_ ?_ <;> simp (config := zd) [Tryz.results175, Oxm.enc, *]))
theorem mbad_c (n : Int) : FnP Tryz.prog 176 [.int .i64 n] (.agg (gF (some (4, n)))) := by
 refine FnP.i Tryz.func176 rfl rfl fun G w => ?_
 repeat' (first | apply WK.s | (apply hQ.h; clear hQ hA) | (refine WK.R Tryz.ntmps176 ?_; intro A hA Q hQ; simp [*]) | (refine WK.t Tryz.func176 ?_ ?_ <;> simp (config := zd) [Tryz.results176, gF, *]))
theorem rmbad_c (n : Int) : FnP Tryz.prog 194 [.int .i64 n] (.agg (gF (some (4, n)))) := by
 refine FnP.i Tryz.func194 rfl rfl fun G w => ?_
 repeat' (first | apply WK.s | (apply hQ.h; clear hQ hA) | (refine WK.R Tryz.ntmps194 ?_; intro A hA Q hQ; simp [*]) | (refine WK.t Tryz.func194 ?_ ?_ <;> simp (config := zd) [Tryz.results194, gF, *]))
def mF (c : Option Int) : List AV := gF (c.map fun c => (4, c))
theorem oxm_part (l : List Oxm) (i : Nat) (h : i ≤ l.length) : (oxmL l).take (i * 6) = oxmL (l.take i) ∧ (l.take i).length = i := ⟨fm_take Oxm.len l i, by rw [List.length_take]; omega⟩

theorem indexf_oxm (fid : Nat) (caps : List AV) (p : Oxm → Bool) (l : List Oxm) (hcl : ClL caps = true) (hl : l.length ≤ 1000000)
   (hf : ∀ x, x ∈ l → FnP Tryz.prog fid (.agg x.enc :: caps) (.bool (p x))) :
   FnP Tryz.prog 207 [oxmS l, .fn fid caps] (.int .i64 (idxI p l)) := by
 unfold oxmS
 refine FnP.i Tryz.func207 rfl rfl fun G w => ?_
 repeat apply WK.s
 refine WK.G 100 Tryz.ntmps207 ?_
 intro A hA Q hQ
 simp
 apply hQ
 clear hQ hA
 repeat apply WK.s
 refine WK.G 200 Tryz.ntmps207 ?_
 intro A hA Q hQ
 simp
 apply hQ
 clear hQ hA
 repeat (apply WK.b)
 refine WK.L (fun n => n) (fun i : Nat => (⟨(upd (upd (upd (upd J 0 (.sl false l.length (oxmL l))) 1 (.fn fid caps)) 7 (.int .i64 l.length)) 8 (.int .i64 i)), B0, 0⟩ : St)) (fun i => i ≤ l.length ∧ ∀ j, j < i → p (nth l j) = false) (fun i => l.length - i) (0) (by repeat (first | exact TmW.nil | refine TmW.upd ?_ (by simp (config := zd) [hcl]))) (by repeat (first | exact BxW.nil | refine BxW.upd ?_ (by simp (config := zd) [hcl]))) (⟨by omega, by simp⟩) (fun i hi IH => ?_)
 repeat apply WK.s
 refine WK.G 300 Tryz.ntmps207 ?_
 intro A hA Q hQ
 simp
 apply hQ
 clear hQ hA
 repeat apply WK.s
 refine WK.c2 rfl (fun h1 => ?_) (fun h1 => ?_)
 · simp at h1
   have h2 : i < l.length := by omega
   have h3 : 6 ≤ l.length * 6 - i * 6 := by omega
   have h4 := oxm_sub l i h2
   have h6 : IntKind.i64.wrap ((i : Int) + 1) = i + 1 := wrap_i64 (by omega) (by omega)
   repeat (first | apply WK.s | apply WK.b | apply WK.k)
   refine WK.G 400 Tryz.ntmps207 ?_
   intro A hA Q hQ
   simp
   apply hQ
   clear hQ hA
   repeat apply WK.s
   refine WK.G 500 Tryz.ntmps207 ?_
   intro A hA Q hQ
   simp [h2, h3, h4]
   refine RunQ.call rfl rfl rfl rfl (by rfl) (by simp (config := zd) [hcl]) (hf (nth l i) (nth_mem h2)) (by simp [hcl]) ?_
   refine RunQ.eval ?_
   simp [hcl]
   apply hQ
   clear hQ hA
   refine WK.c2 rfl (fun h5 => ?_) (fun h5 => ?_)
   · have e := idxI_some h2 h5 hi.2
     repeat apply WK.s
     refine WK.G 600 Tryz.ntmps207 ?_
     intro A hA Q hQ
     simp
     apply hQ
     clear hQ hA
     refine WK.t Tryz.func207 (by simp (config := zd) [Tryz.results207, e]) (by simp [e])
   · repeat (first | apply WK.n | apply WK.k)
     refine WK.G 700 Tryz.ntmps207 ?_
     intro A hA Q hQ
     simp [h6]
     apply hQ
     clear hQ hA
     refine WK.N (fun n => n) (IH (i + 1) (⟨by omega, fun j hj => by by_cases h7 : j = i; (subst h7; exact h5); exact hi.2 j (by omega)⟩) (by first | omega | (dsimp only; omega))) (by repeat (first | exact TmW.nil | refine TmW.upd ?_ (by simp (config := zd) [hcl]))) (by repeat (first | exact BxW.nil | refine BxW.upd ?_ (by simp (config := zd) [hcl])))
 · simp at h1
   have e := idxI_none (p := p) (l := l) (fun j hj => hi.2 j (by omega))
   repeat (first | apply WK.s | refine WK.exit rfl ?_)
   refine WK.G 800 Tryz.ntmps207 ?_
   intro A hA Q hQ
   simp
   apply hQ
   clear hQ hA
   refine WK.t Tryz.func207 (by simp (config := zd) [Tryz.results207, e]) (by simp [e])
theorem containsf_oxm (fid : Nat) (caps : List AV) (p : Oxm → Bool) (l : List Oxm) (hcl : ClL caps = true) (hl : l.length ≤ 1000000)
   (hf : ∀ x, x ∈ l → FnP Tryz.prog fid (.agg x.enc :: caps) (.bool (p x))) :
   FnP Tryz.prog 174 [oxmS l, .fn fid caps] (.bool (l.any p)) := by
 have e := idxI_ge p l
 simp only [ge_iff_le] at e
 refine FnP.i Tryz.func174 rfl rfl fun G w => ?_
 repeat apply WK.s
 refine WK.G 100 Tryz.ntmps174 ?_
 intro A hA Q hQ
 simp
 apply hQ
 clear hQ hA
 repeat apply WK.s
 refine WK.G 200 Tryz.ntmps174 ?_
 intro A hA Q hQ
 simp
 refine RunQ.call rfl rfl rfl rfl (by rfl) (by simp (config := zd) [hcl]) (indexf_oxm fid caps p l hcl hl hf) (by simp [hcl]) ?_
 refine RunQ.eval ?_
 simp [hcl]
 apply hQ
 clear hQ hA
 refine WK.t Tryz.func174 (by simp (config := zd) [Tryz.results174, e]) (by simp [e])
theorem nth_take' {α : Type} [Inhabited α] {l : List α} {i k : Nat} (h : k < i) : nth (l.take i) k = nth l k := by
 unfold nth; rw [List.getD_eq_getElem?_getD, List.getD_eq_getElem?_getD, List.getElem?_take_of_lt h]
theorem any_front {α : Type} [Inhabited α] {p : α → Bool} {l : List α} {i : Nat} (hi : i ≤ l.length) (h : ∀ k, k < i → p (nth l k) = false) : (l.take i).any p = false := by
 refine any_false' fun k hk => ?_
 rw [List.length_take] at hk
 rw [nth_take' (by omega)]; exact h k (by omega)
theorem any_front_true {α : Type} [Inhabited α] {p : α → Bool} {l : List α} {i k : Nat} (hi : i ≤ l.length) (hk : k < i) (h : p (nth l k) = true) : (l.take i).any p = true :=
 any_true' (i := k) (by rw [List.length_take]; omega) (by rw [nth_take' hk]; exact h)
theorem mcheck_c (l : List Oxm) (hl : l.length ≤ 1000000) : FnP Tryz.prog 131 [oxmS l] (.agg (mF (mCheck l))) := by
 have b10 := mbad_c 10
 have b9 := mbad_c 9
 unfold oxmS
 refine FnP.i Tryz.func131 rfl rfl fun G w => ?_
 repeat' (first | apply WK.s | apply WK.b | (apply hQ.h; clear hQ hA) | (refine WK.R Tryz.ntmps131 ?_; intro A hA Q hQ; simp [*]))
 refine WK.L (fun n => n) (fun i : Nat => (⟨(upd (upd (upd (upd (upd J 0 (.sl false l.length (oxmL l))) 2 (.ptr 0 0)) 5 (.sl false l.length (oxmL l))) 6 (.int .i64 l.length)) 7 (.int .i64 i)), (upd B0 0 (.var [.junk, .junk, .junk])), 0⟩ : St)) (fun i => i ≤ l.length ∧ mCheck l = mCheckF (l.take i) (l.drop i)) (fun i => l.length - i) (0) (by repeat (first | exact TmW.nil | refine TmW.upd ?_ (by simp (config := zd)))) (by repeat (first | exact BxW.nil | refine BxW.upd ?_ (by simp (config := zd)))) (⟨by omega, rfl⟩) (fun i hi IH => ?_)
 by_cases h1 : i < l.length
 · have g4 := oxm_sub l i h1
   have g3 : 6 ≤ l.length * 6 - i * 6 := by omega
   have g6 : IntKind.i64.wrap ((i : Int) + 1) = i + 1 := wrap_i64 (by omega) (by omega)
   obtain ⟨hp1, hp2⟩ := oxm_part l i (by omega)
   have hst := hi.2
   rw [mCheck_at h1] at hst
   have cc := containsf_oxm 175 [.iptr (nth l i).enc] (fun p => p.field == (nth l i).field) (l.take i) (by simp [ClL, Cl]) (by omega) (fun x _ => check1_c x (nth l i))
   have cm := met_c (l.take i) (nth l i).field (by omega)
   unfold oxmS at cc cm
   rw [hp2] at cc cm
   have hcl : ClL (oxmL (l.take i)) = true := oxmL_cl _
   have hln : (oxmL (l.take i)).length = i * 6 := by rw [oxmL_len, hp2]
   obtain ⟨o, ho⟩ : ∃ o, nth l i = o := ⟨_, rfl⟩
   rw [ho] at g4 hst cc cm
   obtain ⟨z1, hz1⟩ : ∃ z, ((l.take i).any fun p => p.field == o.field) = z := ⟨_, rfl⟩
   obtain ⟨z2, hz2⟩ : ∃ z, mMet (l.take i) o.field = z := ⟨_, rfl⟩
   rw [hz1] at cc hst
   rw [hz2] at cm hst
   obtain ⟨K, hK⟩ : ∃ K, oxmL (l.take i) = K := ⟨_, rfl⟩
   rw [hK] at cc cm hp1 hcl hln
   have hle := hi.1
   clear hz1 hz2 hK ho hi hp2
   unfold Oxm.enc at g4 cc
   cases z1
   case true =>
     rw [if_pos rfl] at hst
     rw [hst]
     clear cm b9
     repeat' (first | apply WK.s | apply WK.b | apply WK.k | refine WK.cT rfl ?_ | (apply hQ.h; clear hQ hA) | (refine WK.R (id := 0) Tryz.ntmps131 ?_; intro A hA Q hQ; simp [*]) | (refine WK.R (id := 1) Tryz.ntmps131 ?_; intro A hA Q hQ; simp [*]) | (refine WK.R (id := 2) Tryz.ntmps131 ?_; intro A hA Q hQ; simp [*]) | (refine WK.R (id := 3) Tryz.ntmps131 ?_; intro A hA Q hQ; simp [*]))
     refine WK.ghost (Ghost.frzVar 4 rfl rfl) ?_
     repeat' (first | apply WK.s | refine WK.cT rfl ?_ | (apply hQ.h; clear hQ hA) | (refine WK.R Tryz.ntmps131 ?_; intro A hA Q hQ; simp [mF, gF, *]) | (refine RunQ.k rfl rfl rfl rfl rfl ?_ (cc) ?_ ?_ <;> simp (config := zd) [mF, gF, *] <;> refine ⟨?_⟩) | (refine RunQ.k rfl rfl rfl rfl rfl ?_ (b10) ?_ ?_ <;> simp (config := zd) [mF, gF, *] <;> refine ⟨?_⟩) | (refine WK.t Tryz.func131 ?_ ?_ <;> simp (config := zd) [Tryz.results131, mF, gF, *]))
   rw [if_neg (by simp)] at hst
   cases z2
   case false =>
     rw [if_pos rfl] at hst
     rw [hst]
     clear b10
     repeat' (first | apply WK.s | apply WK.b | apply WK.k | refine WK.cT rfl ?_ | (apply hQ.h; clear hQ hA) | (refine WK.R (id := 0) Tryz.ntmps131 ?_; intro A hA Q hQ; simp [*]) | (refine WK.R (id := 1) Tryz.ntmps131 ?_; intro A hA Q hQ; simp [*]) | (refine WK.R (id := 2) Tryz.ntmps131 ?_; intro A hA Q hQ; simp [*]) | (refine WK.R (id := 3) Tryz.ntmps131 ?_; intro A hA Q hQ; simp [*]))
     refine WK.ghost (Ghost.frzVar 4 rfl rfl) ?_
     repeat' (first | apply WK.s | apply WK.k | refine WK.cT rfl ?_ | refine WK.cF rfl ?_ | (refine hQ.h _ _ ?_; clear hQ hA) | (refine WK.R Tryz.ntmps131 ?_; intro A hA Q hQ; simp [mF, gF, *]) | (refine WK.X Tryz.ntmps131 ?_; intro A hA Q hQ; simp [mF, gF, *]) | (refine hQ.h _ _ _ (by decide +kernel) ?_; clear hQ hA) | (refine RunQ.k rfl rfl rfl rfl rfl ?_ (cc) ?_ ?_ <;> simp (config := zd) [mF, gF, *] <;> refine ⟨?_⟩) | (refine RunQ.k rfl rfl rfl rfl rfl ?_ (b9) ?_ ?_ <;> simp (config := zd) [mF, gF, *] <;> refine ⟨?_⟩) | (refine RunX.k rfl rfl rfl rfl ?_ (cm) ?_ ?_ <;> simp (config := zd) [mF, gF, *] <;> refine ⟨?_⟩) | (refine WK.t Tryz.func131 ?_ ?_ <;> simp (config := zd) [Tryz.results131, mF, gF, *]))
   rw [if_neg (by simp)] at hst
   clear b10 b9
   repeat' (first | apply WK.s | apply WK.b | apply WK.k | refine WK.cT rfl ?_ | (apply hQ.h; clear hQ hA) | (refine WK.R (id := 0) Tryz.ntmps131 ?_; intro A hA Q hQ; simp [*]) | (refine WK.R (id := 1) Tryz.ntmps131 ?_; intro A hA Q hQ; simp [*]) | (refine WK.R (id := 2) Tryz.ntmps131 ?_; intro A hA Q hQ; simp [*]) | (refine WK.R (id := 3) Tryz.ntmps131 ?_; intro A hA Q hQ; simp [*]))
   refine WK.ghost (Ghost.frzVar 4 rfl rfl) ?_
   repeat' (first | apply WK.s | apply WK.n | apply WK.k | refine WK.cF rfl ?_ | (refine hQ.h _ _ ?_; clear hQ hA) | (refine WK.R Tryz.ntmps131 ?_; intro A hA Q hQ; simp [*]) | (refine WK.X Tryz.ntmps131 ?_; intro A hA Q hQ; simp [*]) | (refine hQ.h _ _ _ (by decide +kernel) ?_; clear hQ hA) | (refine RunQ.k rfl rfl rfl rfl rfl ?_ (cc) ?_ ?_ <;> simp (config := zd) [*] <;> refine ⟨?_⟩) | (refine RunX.k rfl rfl rfl rfl ?_ (cm) ?_ ?_ <;> simp (config := zd) [*] <;> refine ⟨?_⟩))
   refine WK.N (fun n => n) (IH (i + 1) (⟨by omega, hst⟩) (by first | omega | (dsimp only; omega)))
 · have hst := hi.2
   rw [show i = l.length by omega, mCheck_end] at hst
   rw [hst]
   clear b10 b9
   repeat' (first | apply WK.s | refine WK.exit rfl ?_ | refine WK.cF rfl ?_ | (apply hQ.h; clear hQ hA) | (refine WK.R Tryz.ntmps131 ?_; intro A hA Q hQ; simp [mF, gF, *]) | (refine WK.t Tryz.func131 ?_ ?_ <;> simp (config := zd) [Tryz.results131, mF, gF, *]))
theorem rone_c (l : List Wide) (v : Wide) (hl : l.length ≤ 1000000) : FnP Tryz.prog 202 [.agg v.enc, wdS l] (.bool ((l.any fun x => v == x) || l.length == 0)) := by
 unfold wdS
 refine FnP.i Tryz.func202 rfl rfl fun G w => ?_
 repeat' (first | apply WK.s | apply WK.b | (apply hQ.h; clear hQ hA) | (refine WK.R Tryz.ntmps202 ?_; intro A hA Q hQ; simp [*]))
 refine WK.L (fun n => n) (fun i : Nat => (⟨(upd (upd (upd J 1 (.sl false l.length (wdL l))) 2 (.ptr 0 0)) 5 (.int .i64 i)), (upd B0 0 (.var v.enc)), 0⟩ : St)) (fun i => i ≤ l.length ∧ ∀ j, j < i → (v == nth l j) = false) (fun i => l.length - i) (0) (by repeat (first | exact TmW.nil | refine TmW.upd ?_ (by simp (config := zd)))) (by repeat (first | exact BxW.nil | refine BxW.upd ?_ (by simp (config := zd)))) (⟨by omega, by simp⟩) (fun i hi IH => ?_)
 by_cases h1 : i < l.length
 · obtain ⟨h4, h3⟩ := wd_load l i h1
   have h6 : IntKind.i64.wrap ((i : Int) + 1) = i + 1 := wrap_i64 (by omega) (by omega)
   have h8 : (nth l i == v) = (v == nth l i) := by rw [Bool.eq_iff_iff, beq_iff_eq, beq_iff_eq]; exact eq_comm
   cases h5 : v == nth l i
   · rw [h5] at h8
     repeat' (first | apply WK.s | apply WK.b | apply WK.n | apply WK.k | refine WK.cT rfl ?_ | refine WK.cF rfl ?_ | (refine hQ.h _ _ ?_; clear hQ hA) | (refine WK.R Tryz.ntmps202 ?_; intro A hA Q hQ; simp [*]) | (refine WK.X Tryz.ntmps202 ?_; intro A hA Q hQ; simp [*]) | (refine hQ.h _ _ _ (by decide +kernel) ?_; clear hQ hA))
     refine WK.N (fun n => n) (IH (i + 1) (⟨by omega, fun j hj => by by_cases h7 : j = i; (subst h7; exact h5); exact hi.2 j (by omega)⟩) (by first | omega | (dsimp only; omega)))
   · rw [h5] at h8
     have e := any_true' (p := fun x => v == x) h1 h5
     repeat' (first | apply WK.s | apply WK.b | apply WK.k | refine WK.cT rfl ?_ | (refine hQ.h _ _ ?_; clear hQ hA) | (refine WK.R Tryz.ntmps202 ?_; intro A hA Q hQ; simp [*]) | (refine WK.X Tryz.ntmps202 ?_; intro A hA Q hQ; simp [*]) | (refine hQ.h _ _ _ (by decide +kernel) ?_; clear hQ hA) | (refine WK.t Tryz.func202 ?_ ?_ <;> simp (config := zd) [Tryz.results202, *]))
 · have e := any_false' (p := fun x => v == x) (l := l) fun j hj => hi.2 j (by omega)
   have e2 : ((l.length : Int) == 0) = (l.length == 0) := by rw [Bool.eq_iff_iff, beq_iff_eq, beq_iff_eq]; omega
   repeat' (first | apply WK.s | refine WK.exit rfl ?_ | refine WK.cF rfl ?_ | (apply hQ.h; clear hQ hA) | (refine WK.R Tryz.ntmps202 ?_; intro A hA Q hQ; simp [*]) | (refine WK.t Tryz.func202 ?_ ?_ <;> simp (config := zd) [Tryz.results202, e, e2, *]))

theorem oxm_val (l : List Oxm) (i : Nat) (h : i < l.length) : ((oxmL l).drop (i * 6 + 2)).take 2 = (nth l i).value.enc ∧ 2 ≤ l.length * 6 - (i * 6 + 2) := by
 refine ⟨?_, by omega⟩
 unfold oxmL
 rw [← List.drop_drop, fm_drop Oxm.len, drop_nth h]; rfl
theorem oxm_at1 (l : List Oxm) (i : Nat) (h : i < l.length) (h' : i * 6 + 1 < (oxmL l).length) : (oxmL l)[i * 6 + 1] = .bool (nth l i).masked := fm_get Oxm.len l i 1 h (by omega) h'
theorem need_at0 (l : List Need) (i : Nat) (h : i < l.length) (h' : i * 2 < (needL l).length) : (needL l)[i * 2] = .int .i64 (nth l i).field := fm_get Need.len l i 0 h (by omega) h'
theorem need_at1 (l : List Need) (i : Nat) (h : i < l.length) (h' : i * 2 + 1 < (needL l).length) : (needL l)[i * 2 + 1] = .sl false (nth l i).values.length (wdL (nth l i).values) := fm_get Need.len l i 1 h (by omega) h'
set_option maxHeartbeats 4000000 in
theorem rmet_c (l : List Oxm) (f : Int) (hl : l.length ≤ 1000000) : FnP Tryz.prog 159 [oxmS l, .int .i64 f] (.bool (mMet l f)) := by
 have cn := rneeds_c f
 have hsm := needs_small f
 have hF : ∀ i, i < (needs f).length → (l.any fun o => mGives o (nth (needs f) i)) = false → mMet l f = false := fun i h hp => mMet_false h hp
 have hT : (∀ j, j < (needs f).length → (l.any fun o => mGives o (nth (needs f) j)) = true) → mMet l f = true := mMet_true
 obtain ⟨N, hN⟩ : ∃ N, needs f = N := ⟨_, rfl⟩
 rw [hN] at cn hsm hF hT
 unfold needS at cn
 clear hN
 unfold oxmS
 refine FnP.i Tryz.func159 rfl rfl fun G w => ?_
 repeat' (first | apply WK.s | apply WK.b | (apply hQ.h; clear hQ hA) | (refine WK.R Tryz.ntmps159 ?_; intro A hA Q hQ; simp [*]) | (refine RunQ.k rfl rfl rfl rfl rfl ?_ (cn) ?_ ?_ <;> simp (config := zd) [*] <;> refine ⟨?_⟩))
 refine WK.L (fun n => n) (fun i : Nat => (⟨(upd (upd (upd J 0 (.sl false l.length (oxmL l))) 5 (.sl false N.length (needL N))) 6 (.int .i64 i)), B0, 0⟩ : St)) (fun i => i ≤ N.length ∧ ∀ j, j < i → (l.any fun o => mGives o (nth N j)) = true) (fun i => N.length - i) (0) (by repeat (first | exact TmW.nil | refine TmW.upd ?_ (by simp (config := zd)))) (by repeat (first | exact BxW.nil | refine BxW.upd ?_ (by simp (config := zd)))) (⟨by omega, by simp⟩) (fun i hi IH => ?_)
 by_cases h1 : i < N.length
 · have m0 := need_at0 N i h1
   have m1 := need_at1 N i h1
   have h6 : IntKind.i64.wrap ((i : Int) + 1) = i + 1 := wrap_i64 (by omega) (by omega)
   have hv := hsm.2 _ (nth_mem h1)
   have hFi := hF i h1
   have hst : (l.any fun o => mGives o (nth N i)) = true → ∀ j, j < i + 1 → (l.any fun o => mGives o (nth N j)) = true := fun h j hj => by
     by_cases h7 : j = i
     · subst h7; exact h
     · exact hi.2 j (by omega)
   obtain ⟨n, hn⟩ : ∃ n, nth N i = n := ⟨_, rfl⟩
   rw [hn] at m0 m1 hv hFi hst
   have hle := hi.1
   clear hn hi hF hT hsm cn
   repeat' (first | apply WK.s | apply WK.b | apply WK.k | refine WK.cT rfl ?_ | (apply hQ.h; clear hQ hA) | (refine WK.R Tryz.ntmps159 ?_; intro A hA Q hQ; simp [*]))
   refine WK.L (fun n => n) (fun j : Nat => (⟨(upd (upd (upd (upd (upd J 0 (.sl false l.length (oxmL l))) 5 (.sl false N.length (needL N))) 6 (.int .i64 i)) 7 (.bool ((l.take j).any fun o => mGives o n))) 8 (.int .i64 j)), B0, 0⟩ : St)) (fun j => j ≤ l.length) (fun j => l.length - j) (0) (by repeat (first | exact TmW.nil | refine TmW.upd ?_ (by simp (config := zd)))) (by repeat (first | exact BxW.nil | refine BxW.upd ?_ (by simp (config := zd)))) (Nat.zero_le _) (fun j hj IHj => ?_)
   by_cases g1 : j < l.length
   · have k0 := oxm_get0 l j g1
     have k1 := oxm_at1 l j g1
     obtain ⟨k2, k3⟩ := oxm_val l j g1
     have g6 : IntKind.i64.wrap ((j : Int) + 1) = j + 1 := wrap_i64 (by omega) (by omega)
     have g7 : j * 6 + 1 < l.length * 6 := by omega
     have g8 : j * 6 + 2 < l.length * 6 := by omega
     have g9 : i * 2 + 1 < N.length * 2 := by omega
     have hs := any_take (fun o => mGives o n) g1
     have c := rone_c n.values (nth l j).value (by omega)
     have e : mGives (nth l j) n = ((nth l j).field == n.field && (n.values.length == 0 || (!(nth l j).masked && n.values.any fun v => (nth l j).value == v))) := rfl
     obtain ⟨o, ho⟩ : ∃ o, nth l j = o := ⟨_, rfl⟩
     rw [ho] at k0 k1 k2 hs c e
     rw [e] at hs
     obtain ⟨z, hz⟩ : ∃ z, (n.values.any fun v => o.value == v) = z := ⟨_, rfl⟩
     obtain ⟨q, hq⟩ : ∃ q, ((l.take j).any fun o => mGives o n) = q := ⟨_, rfl⟩
     rw [hz] at c hs
     rw [hq] at hs ⊢
     unfold wdS at c
     unfold Wide.enc at c k2
     have e2 : ((n.values.length : Int) == 0) = (n.values.length == 0) := by rw [Bool.eq_iff_iff, beq_iff_eq, beq_iff_eq]; omega
     obtain ⟨y, hy⟩ : ∃ y, (n.values.length == 0) = y := ⟨_, rfl⟩
     rw [hy] at c hs e2
     clear hz hq ho e hFi hst hy
     cases q
     case true =>
       rw [Bool.true_or] at hs
       repeat' (first | apply WK.s | apply WK.b | apply WK.n | apply WK.k | refine WK.cT rfl ?_ | (refine hQ.h _ _ ?_; clear hQ hA) | (refine WK.R Tryz.ntmps159 ?_; intro A hA Q hQ; simp [*]) | (refine WK.X Tryz.ntmps159 ?_; intro A hA Q hQ; simp [*]) | (refine hQ.h _ _ _ (by decide +kernel) ?_; clear hQ hA) | (refine RunX.gd rfl (by rw [hA.h]; rfl) ?_; simp [*]))
       refine WK.N (fun n => n) (IHj (j + 1) (by omega) (by first | omega | (dsimp only; omega))) (by repeat (first | exact TmW.nil | refine TmW.upd ?_ (by simp (config := zd) [hs]))) (by repeat (first | exact BxW.nil | refine BxW.upd ?_ (by simp (config := zd) [hs])))
     rw [Bool.false_or] at hs
     cases h5 : o.field == n.field
     · rw [h5, Bool.false_and] at hs
       repeat' (first | apply WK.s | apply WK.b | apply WK.n | apply WK.k | refine WK.cT rfl ?_ | (refine hQ.h _ _ ?_; clear hQ hA) | (refine WK.R Tryz.ntmps159 ?_; intro A hA Q hQ; simp [*]) | (refine WK.X Tryz.ntmps159 ?_; intro A hA Q hQ; simp [*]) | (refine hQ.h _ _ _ (by decide +kernel) ?_; clear hQ hA) | (refine RunX.gd rfl (by rw [hA.h]; rfl) ?_; simp [*]))
       refine WK.N (fun n => n) (IHj (j + 1) (by omega) (by first | omega | (dsimp only; omega))) (by repeat (first | exact TmW.nil | refine TmW.upd ?_ (by simp (config := zd) [hs]))) (by repeat (first | exact BxW.nil | refine BxW.upd ?_ (by simp (config := zd) [hs])))
     rw [h5, Bool.true_and] at hs
     cases y
     case true =>
       rw [Bool.true_or] at hs
       repeat' (first | apply WK.s | apply WK.b | apply WK.n | apply WK.k | refine WK.cT rfl ?_ | (refine hQ.h _ _ ?_; clear hQ hA) | (refine WK.R Tryz.ntmps159 ?_; intro A hA Q hQ; simp [*]) | (refine WK.X Tryz.ntmps159 ?_; intro A hA Q hQ; simp [*]) | (refine hQ.h _ _ _ (by decide +kernel) ?_; clear hQ hA) | (refine RunX.gd rfl (by rw [hA.h]; rfl) ?_; simp [*]))
       refine WK.N (fun n => n) (IHj (j + 1) (by omega) (by first | omega | (dsimp only; omega))) (by repeat (first | exact TmW.nil | refine TmW.upd ?_ (by simp (config := zd) [hs]))) (by repeat (first | exact BxW.nil | refine BxW.upd ?_ (by simp (config := zd) [hs])))
     rw [Bool.false_or] at hs
     rw [Bool.or_false] at c
     cases h7 : o.masked
     · rw [h7, Bool.not_false, Bool.true_and] at hs
       rw [h7] at k1
       repeat' (first | apply WK.s | apply WK.b | apply WK.n | apply WK.k | refine WK.cT rfl ?_ | (refine hQ.h _ _ ?_; clear hQ hA) | (refine WK.R Tryz.ntmps159 ?_; intro A hA Q hQ; simp [*]) | (refine WK.X Tryz.ntmps159 ?_; intro A hA Q hQ; simp [*]) | (refine hQ.h _ _ _ (by decide +kernel) ?_; clear hQ hA) | (refine RunX.gd rfl (by rw [hA.h]; rfl) ?_; simp [*]) | (refine RunXW.call rfl rfl rfl ?_ (c) ?_ ?_; (focus simp (config := zd) [*]; done); (focus simp [*]; done); refine RunX.e ?_; simp [*]))
       refine WK.N (fun n => n) (IHj (j + 1) (by omega) (by first | omega | (dsimp only; omega))) (by repeat (first | exact TmW.nil | refine TmW.upd ?_ (by simp (config := zd) [hs]))) (by repeat (first | exact BxW.nil | refine BxW.upd ?_ (by simp (config := zd) [hs])))
     · rw [h7, Bool.not_true, Bool.false_and] at hs
       rw [h7] at k1
       repeat' (first | apply WK.s | apply WK.b | apply WK.n | apply WK.k | refine WK.cT rfl ?_ | (refine hQ.h _ _ ?_; clear hQ hA) | (refine WK.R Tryz.ntmps159 ?_; intro A hA Q hQ; simp [*]) | (refine WK.X Tryz.ntmps159 ?_; intro A hA Q hQ; simp [*]) | (refine hQ.h _ _ _ (by decide +kernel) ?_; clear hQ hA) | (refine RunX.gd rfl (by rw [hA.h]; rfl) ?_; simp [*]))
       refine WK.N (fun n => n) (IHj (j + 1) (by omega) (by first | omega | (dsimp only; omega))) (by repeat (first | exact TmW.nil | refine TmW.upd ?_ (by simp (config := zd) [hs]))) (by repeat (first | exact BxW.nil | refine BxW.upd ?_ (by simp (config := zd) [hs])))
   · have hj' : j = l.length := by omega
     subst hj'
     rw [any_take_all]
     obtain ⟨q, hq⟩ : ∃ q, (l.any fun o => mGives o n) = q := ⟨_, rfl⟩
     rw [hq] at hFi hst ⊢
     cases q
     · have e := hFi rfl
       clear hst
       repeat' (first | apply WK.s | refine WK.exit rfl ?_ | refine WK.cT rfl ?_ | refine WK.cF rfl ?_ | (apply hQ.h; clear hQ hA) | (refine WK.R Tryz.ntmps159 ?_; intro A hA Q hQ; simp [*]) | (refine WK.t Tryz.func159 ?_ ?_ <;> simp (config := zd) [Tryz.results159, *]))
     · have hst2 := hst rfl
       clear hst hFi
       repeat' (first | apply WK.s | apply WK.n | apply WK.k | refine WK.exit rfl ?_ | refine WK.cF rfl ?_ | (apply hQ.h; clear hQ hA) | (refine WK.R Tryz.ntmps159 ?_; intro A hA Q hQ; simp [*]))
       refine WK.N (fun n => n) (IH (i + 1) (⟨by omega, hst2⟩) (by first | omega | (dsimp only; omega)))
 · have e := hT fun j hj => hi.2 j (by omega)
   repeat' (first | apply WK.s | refine WK.exit rfl ?_ | refine WK.cF rfl ?_ | (apply hQ.h; clear hQ hA) | (refine WK.R Tryz.ntmps159 ?_; intro A hA Q hQ; simp [*]) | (refine WK.t Tryz.func159 ?_ ?_ <;> simp (config := zd) [Tryz.results159, *]))
set_option maxHeartbeats 4000000 in
theorem rmcheck_c (l : List Oxm) (hl : l.length ≤ 1000000) : FnP Tryz.prog 154 [oxmS l] (.agg (mF (mCheck l))) := by
 have b10 := rmbad_c 10
 have b9 := rmbad_c 9
 unfold oxmS
 refine FnP.i Tryz.func154 rfl rfl fun G w => ?_
 repeat' (first | apply WK.s | apply WK.b | (apply hQ.h; clear hQ hA) | (refine WK.R Tryz.ntmps154 ?_; intro A hA Q hQ; simp [*]))
 refine WK.L (fun n => n) (fun i : Nat => (⟨(upd (upd (upd J 0 (.sl false l.length (oxmL l))) 2 (.ptr 0 0)) 3 (.int .i64 i)), (upd B0 0 (.var [.junk, .junk, .junk])), 0⟩ : St)) (fun i => i ≤ l.length ∧ mCheck l = mCheckF (l.take i) (l.drop i)) (fun i => l.length - i) (0) (by repeat (first | exact TmW.nil | refine TmW.upd ?_ (by simp (config := zd)))) (by repeat (first | exact BxW.nil | refine BxW.upd ?_ (by simp (config := zd)))) (⟨by omega, rfl⟩) (fun i hi IH => ?_)
 by_cases h1 : i < l.length
 · have k0 := oxm_get0 l i h1
   have g6 : IntKind.i64.wrap ((i : Int) + 1) = i + 1 := wrap_i64 (by omega) (by omega)
   obtain ⟨hp1, hp2⟩ := oxm_part l i (by omega)
   have hst := hi.2
   have hle := hi.1
   rw [mCheck_at h1] at hst
   have cm := rmet_c (l.take i) (nth l i).field (by omega)
   unfold oxmS at cm
   rw [hp2] at cm
   have hcl : ClL (oxmL (l.take i)) = true := oxmL_cl _
   have hln : (oxmL (l.take i)).length = i * 6 := by rw [oxmL_len, hp2]
   have hA : (∀ k, k < i → ((nth l k).field == (nth l i).field) = false) → ((l.take i).any fun p => p.field == (nth l i).field) = false := any_front (p := fun p => p.field == (nth l i).field) hle
   have hB : ∀ k, k < i → ((nth l k).field == (nth l i).field) = true → ((l.take i).any fun p => p.field == (nth l i).field) = true := fun k hk h => any_front_true (p := fun p => p.field == (nth l i).field) hle hk h
   obtain ⟨o, ho⟩ : ∃ o, nth l i = o := ⟨_, rfl⟩
   rw [ho] at k0 hst cm hA hB
   obtain ⟨z1, hz1⟩ : ∃ z, ((l.take i).any fun p => p.field == o.field) = z := ⟨_, rfl⟩
   obtain ⟨z2, hz2⟩ : ∃ z, mMet (l.take i) o.field = z := ⟨_, rfl⟩
   rw [hz1] at hA hB hst
   rw [hz2] at cm hst
   obtain ⟨K, hK⟩ : ∃ K, oxmL (l.take i) = K := ⟨_, rfl⟩
   rw [hK] at cm hp1 hcl hln
   clear hz1 hz2 hK ho hi hp2
   repeat' (first | apply WK.s | apply WK.b | apply WK.k | refine WK.cT rfl ?_ | (apply hQ.h; clear hQ hA) | (refine WK.R Tryz.ntmps154 ?_; intro A hA Q hQ; simp [*]))
   refine WK.L (fun n => n) (fun j : Nat => (⟨(upd (upd (upd (upd J 0 (.sl false l.length (oxmL l))) 2 (.ptr 0 0)) 3 (.int .i64 i)) 4 (.int .i64 j)), (upd B0 0 (.var [.junk, .junk, .junk])), 0⟩ : St)) (fun j => j ≤ i ∧ ∀ k, k < j → ((nth l k).field == o.field) = false) (fun j => i - j) (0) (by repeat (first | exact TmW.nil | refine TmW.upd ?_ (by simp (config := zd)))) (by repeat (first | exact BxW.nil | refine BxW.upd ?_ (by simp (config := zd)))) (⟨by omega, by simp⟩) (fun j hj IHj => ?_)
   by_cases g1 : j < i
   · have k1 := oxm_get0 l j (by omega)
     have g6 : IntKind.i64.wrap ((j : Int) + 1) = j + 1 := wrap_i64 (by omega) (by omega)
     have g2 : j < l.length := by omega
     cases h5 : (nth l j).field == o.field
     · clear hA hB hst b10 b9 cm
       repeat' (first | apply WK.s | apply WK.b | apply WK.n | apply WK.k | refine WK.cT rfl ?_ | refine WK.cF rfl ?_ | (refine hQ.h _ _ ?_; clear hQ hA) | (refine WK.R Tryz.ntmps154 ?_; intro A hA Q hQ; simp [*]) | (refine WK.X Tryz.ntmps154 ?_; intro A hA Q hQ; simp [*]) | (refine hQ.h _ _ _ (by decide +kernel) ?_; clear hQ hA))
       refine WK.N (fun n => n) (IHj (j + 1) (⟨by omega, fun k hk => by by_cases h7 : k = j; (subst h7; exact h5); exact hj.2 k (by omega)⟩) (by first | omega | (dsimp only; omega)))
     · have e := hB j g1 h5
       subst e
       rw [if_pos rfl] at hst
       rw [hst]
       clear hA hB b9 cm
       repeat' (first | apply WK.s | apply WK.b | apply WK.k | refine WK.cT rfl ?_ | (refine hQ.h _ _ ?_; clear hQ hA) | (refine WK.R Tryz.ntmps154 ?_; intro A hA Q hQ; simp [mF, gF, *]) | (refine WK.X Tryz.ntmps154 ?_; intro A hA Q hQ; simp [mF, gF, *]) | (refine hQ.h _ _ _ (by decide +kernel) ?_; clear hQ hA) | (refine RunQ.k rfl rfl rfl rfl rfl ?_ (b10) ?_ ?_ <;> simp (config := zd) [mF, gF, *] <;> refine ⟨?_⟩) | (refine WK.t Tryz.func154 ?_ ?_ <;> simp (config := zd) [Tryz.results154, mF, gF, *]))
   · have e := hA fun k hk => hj.2 k (by omega)
     subst e
     rw [if_neg (by simp)] at hst
     clear hA hB b10
     cases z2
     case false =>
       rw [if_pos rfl] at hst
       rw [hst]
       repeat' (first | apply WK.s | refine WK.exit rfl ?_ | refine WK.cT rfl ?_ | refine WK.cF rfl ?_ | (refine hQ.h _ _ ?_; clear hQ hA) | (refine WK.R Tryz.ntmps154 ?_; intro A hA Q hQ; simp [mF, gF, *]) | (refine WK.X Tryz.ntmps154 ?_; intro A hA Q hQ; simp [mF, gF, *]) | (refine hQ.h _ _ _ (by decide +kernel) ?_; clear hQ hA) | (refine RunQ.k rfl rfl rfl rfl rfl ?_ (b9) ?_ ?_ <;> simp (config := zd) [mF, gF, *] <;> refine ⟨?_⟩) | (refine RunX.k rfl rfl rfl rfl ?_ (cm) ?_ ?_ <;> simp (config := zd) [mF, gF, *] <;> refine ⟨?_⟩) | (refine WK.t Tryz.func154 ?_ ?_ <;> simp (config := zd) [Tryz.results154, mF, gF, *]))
     rw [if_neg (by simp)] at hst
     clear b9
     repeat' (first | apply WK.s | apply WK.n | apply WK.k | refine WK.exit rfl ?_ | refine WK.cF rfl ?_ | (refine hQ.h _ _ ?_; clear hQ hA) | (refine WK.R Tryz.ntmps154 ?_; intro A hA Q hQ; simp [*]) | (refine WK.X Tryz.ntmps154 ?_; intro A hA Q hQ; simp [*]) | (refine hQ.h _ _ _ (by decide +kernel) ?_; clear hQ hA) | (refine RunX.k rfl rfl rfl rfl ?_ (cm) ?_ ?_ <;> simp (config := zd) [*] <;> refine ⟨?_⟩))
     refine WK.N (fun n => n) (IH (i + 1) (⟨by omega, hst⟩) (by first | omega | (dsimp only; omega)))
 · have hst := hi.2
   rw [show i = l.length by omega, mCheck_end] at hst
   rw [hst]
   clear b10 b9
   repeat' (first | apply WK.s | refine WK.exit rfl ?_ | refine WK.cF rfl ?_ | (apply hQ.h; clear hQ hA) | (refine WK.R Tryz.ntmps154 ?_; intro A hA Q hQ; simp [mF, gF, *]) | (refine WK.t Tryz.func154 ?_ ?_ <;> simp (config := zd) [Tryz.results154, mF, gF, *]))

theorem mpad_c (n : Nat) (h : n < 1000000000) : FnP Tryz.prog 133 [.int .i64 n] (.int .i64 (mPad n : Nat)) := by
 have e := mPad_bit n h
 have w : IntKind.i64.wrap ((n : Int) + 7) = n + 7 := wrap_i64 (by omega) (by omega)
 rw [w] at e
 refine FnP.i Tryz.func133 rfl rfl fun G w => ?_
 repeat' (first | apply WK.s | (apply hQ.h; clear hQ hA) | (refine WK.R Tryz.ntmps133 ?_; intro A hA Q hQ; simp [*]) | (refine WK.t Tryz.func133 ?_ ?_ <;> simp (config := zd) [Tryz.results133, *]))
def mHd : List (BitVec 8) := [0#8, 1#8, 0#8, 0#8]
def mAcc (l : List Oxm) : List (BitVec 8) := mHd ++ rwFlat oBytes l
theorem mAcc_succ {l : List Oxm} {i : Nat} (h : i < l.length) : mAcc (l.take (i + 1)) = mAcc (l.take i) ++ oBytes (nth l i) := by
 unfold mAcc rwFlat; rw [take_nth h, List.flatMap_append, List.append_assoc]; simp
theorem oFlat_len (l : List Oxm) : (rwFlat oBytes l).length ≤ l.length * 36 := by
 induction l with
 | nil => simp [rwFlat]
 | cons x l ih =>
   have h1 : (oBytes x).length ≤ 36 := oEnc_len x
   have e : rwFlat oBytes (x :: l) = oBytes x ++ rwFlat oBytes l := rfl
   rw [e, List.length_append, List.length_cons]; omega
theorem oBytes_of {o : Oxm} (h : Oxm.right o = true) : oEnc o = (oBytes o, 0) := by unfold oBytes oEnc; rw [if_pos h]
theorem oEnc_wrong {o : Oxm} (h : Oxm.right o = false) : oEnc o = ([], 1) := by unfold oEnc; rw [if_neg (by rw [h]; simp)]
theorem mFit_of {l : List Oxm} (hc : mCheck l = none) (h : ∀ j, j < l.length → Oxm.right (nth l j) = true) : mFit l = true := by
 unfold mFit
 rw [hc, Bool.and_eq_true, List.all_eq_true]
 refine ⟨rfl, fun x hx => ?_⟩
 obtain ⟨j, hj, rfl⟩ := mem_nth hx
 exact h j hj
theorem mEnc_wrong {l : List Oxm} {i : Nat} (h : i < l.length) (hr : Oxm.right (nth l i) = false) : mEnc l = ([], 1) := mEnc_bad1 fun hh => by
 have := (mFit_facts hh.1).2 _ (nth_mem h)
 rw [hr] at this; cases this
theorem mEnc_check {l : List Oxm} {c : Int} (h : mCheck l = some c) : mEnc l = ([], 1) := mEnc_bad1 fun hh => by
 have := (mFit_facts hh.1).1
 rw [h] at this; cases this
theorem mEnc_fit {l : List Oxm} (h : mFit l = true) : mEnc l = if (rwFlat oBytes l).length ≤ 1000 then (mWhole l, 0) else ([], 1) := by
 unfold mEnc
 by_cases hh : (rwFlat oBytes l).length ≤ 1000
 · rw [if_pos hh, if_pos ⟨h, hh⟩]
 · rw [if_neg hh, if_neg fun x => hh x.2]
theorem splice_len (F : List (BitVec 8)) (n : Int) : splice (byL (mHd ++ F)) 2 (byL (beN n 2)) = byL (beN 1 2 ++ (beN n 2 ++ F)) := by
 have e : byL (mHd ++ F) = byL (beN 1 2) ++ (byL [0#8, 0#8] ++ byL F) := by rw [← byL_app, ← byL_app]; rfl
 unfold splice
 rw [e, byL_len, beN_len, List.take_left' (by simp [beN_len]), ← List.append_assoc (byL (beN 1 2)), List.drop_left' (by simp [beN_len]), byL_app, byL_app, List.append_assoc]
theorem mEnc_len1 (l : List Oxm) : (mAcc l).length = 4 + (rwFlat oBytes l).length := by unfold mAcc mHd; simp; omega
set_option maxHeartbeats 4000000 in
theorem menc_c (l : List Oxm) (hl : l.length ≤ 10000) : FnT Tryz.prog 77 [oxmS l] (mEnc l).1.length 1 (byL (mEnc l).1) [.int .i64 (mEnc l).2] := by
 have ck := mcheck_c l (by omega)
 unfold oxmS at *
 cases hc : mCheck l with
 | some c =>
   have e := mEnc_check hc
   rw [hc] at ck
   rw [e]
   clear e hc
   refine FnT.intro Tryz.func77 rfl rfl fun G w => ?_
   repeat' (first | apply WK.s | refine WK.cT rfl ?_ | (apply hQ.h; clear hQ hA) | (refine WK.R Tryz.ntmps77 ?_; intro A hA Q hQ; simp [mF, gF, *]) | (refine RunQ.k rfl rfl rfl rfl rfl ?_ (ck) ?_ ?_ <;> simp (config := zd) [mF, gF, *] <;> refine ⟨?_⟩))
   refine WK.ghost (Ghost.own 2 900 1 rfl rfl) ?_
   refine WK.retT2 Tryz.func77 ?_ ?_ ?_ <;> simp (config := zd) [Tryz.results77, b0_]
 | none =>
 rw [hc] at ck
 have c1 := nput_c [] 1 2 Sz2 (by simp)
 have c2 := nput_c [0#8, 1#8] 0 2 Sz2 (by simp)
 rw [show putN [] 1 2 = [0#8, 1#8] from rfl] at c1
 rw [show putN [0#8, 1#8] 0 2 = mHd from rfl] at c2
 unfold byS at c1 c2
 rw [b0_] at c1
 simp only [List.length_cons, List.length_nil, Nat.zero_add, Nat.reduceAdd, show mHd.length = 4 from rfl] at c1 c2
 have hB2 : (byL [0#8, 1#8]).take 2 = byL [0#8, 1#8] := rfl
 have hA0 : mAcc [] = mHd := by unfold mAcc; simp [rwFlat]
 have hA4 : mHd.length = 4 := rfl
 refine FnT.intro Tryz.func77 rfl rfl fun G w => ?_
 repeat' (first | apply WK.s | apply WK.b | apply WK.k | refine WK.cF rfl ?_ | (apply hQ.h; clear hQ hA) | (refine WK.R Tryz.ntmps77 ?_; intro A hA Q hQ; simp [mF, gF, *]) | (refine RunQ.callO 900 rfl rfl rfl rfl rfl ?_ (c1) ?_ ?_ ?_ ?_; (focus simp (config := zd) [mF, gF, *]; done); (focus simp [mF, gF, *]; done); (focus simp [mF, gF, *]; done); (focus simp [mF, gF, *]; done); refine RunQ.evalH ?_; simp [mF, gF, *]) | (refine RunQ.callOz 901 12 1 rfl rfl rfl rfl rfl rfl rfl ?_ (c2) ?_ ?_ (by simp) (by decide) ?_; (focus simp (config := zd) [mF, gF, *]; done); (focus simp [mF, gF, *]; done); (focus simp [mF, gF, *]; done); refine RunQ.evalH ?_; simp [mF, gF, *]) | (refine RunQ.k rfl rfl rfl rfl rfl ?_ (ck) ?_ ?_ <;> simp (config := zd) [mF, gF, *] <;> refine ⟨?_⟩))
 refine WK.L (fun n => if n = 1 then 901 else n) (fun i : Nat => (⟨(upd (upd (upd (upd J 4 (.msl 1 0 (mAcc (l.take i)).length)) 14 (.sl false l.length (oxmL l))) 15 (.int .i64 l.length)) 16 (.int .i64 i)), (upd B0 1 (.buf 1 (byL (mAcc (l.take i))))), 0⟩ : St)) (fun i => i ≤ l.length ∧ ∀ j, j < i → Oxm.right (nth l j) = true) (fun i => l.length - i) (0) (by repeat (first | exact TmW.nil | refine TmW.upd ?_ (by simp (config := zd) [hA0, hA4]))) (by repeat (first | exact BxW.nil | refine BxW.upd ?_ (by simp (config := zd) [hA0, hA4]))) (⟨by omega, by simp⟩) (fun i hi IH => ?_)
 clear c1 c2 hB2 hA0 hA4 ck
 have hal := mEnc_len1 (l.take i)
 have hfl := oFlat_len (l.take i)
 have htl : (l.take i).length ≤ i := by rw [List.length_take]; omega
 have hil := hi.1
 by_cases h1 : i < l.length
 · have g4 := oxm_sub l i h1
   have g3 : 6 ≤ l.length * 6 - i * 6 := by omega
   have g6 : IntKind.i64.wrap ((i : Int) + 1) = i + 1 := wrap_i64 (by omega) (by omega)
   have p := oenc_c (nth l i)
   have hs := mAcc_succ h1
   have hw : Oxm.right (nth l i) = false → mEnc l = ([], 1) := mEnc_wrong h1
   have hr : Oxm.right (nth l i) = true → ∀ j, j < i + 1 → Oxm.right (nth l j) = true := fun hr j hj => by
     by_cases h7 : j = i
     · subst h7; exact hr
     · exact hi.2 j (by omega)
   have hol : (oBytes (nth l i)).length ≤ 36 := oEnc_len _
   have hoe : Oxm.right (nth l i) = true → oEnc (nth l i) = (oBytes (nth l i), 0) := oBytes_of
   have hob : Oxm.right (nth l i) = false → oEnc (nth l i) = ([], 1) := oEnc_wrong
   obtain ⟨o, ho⟩ : ∃ o, nth l i = o := ⟨_, rfl⟩
   rw [ho] at g4 p hs hw hr hol hoe hob
   obtain ⟨F, hF⟩ : ∃ F, mAcc (l.take i) = F := ⟨_, rfl⟩
   rw [hF] at hal hs ⊢
   unfold Oxm.enc at g4 p
   clear ho hF hi
   cases hrt : Oxm.right o
   · rw [hw hrt]
     rw [hob hrt] at p
     unfold byS at p
     clear hw hr hoe hob hs hrt
     repeat' (first | apply WK.s | apply WK.b | apply WK.k | refine WK.cT rfl ?_ | (apply hQ.h; clear hQ hA) | (refine WK.R Tryz.ntmps77 ?_; intro A hA Q hQ; simp [bne, *]) | (refine RunQ.k rfl rfl rfl rfl rfl ?_ (p) ?_ ?_ <;> simp (config := zd) [bne, *] <;> refine ⟨?_⟩))
     refine WK.ghost (Ghost.own 2 902 1 rfl rfl) ?_
     refine WK.retT2 Tryz.func77 ?_ ?_ ?_ <;> simp (config := zd) [Tryz.results77, b0_]
   · rw [hoe hrt] at p
     have hr2 := hr hrt
     obtain ⟨B, hB⟩ : ∃ B, oBytes o = B := ⟨_, rfl⟩
     rw [hB] at p hs hol
     have hs3 : byL F ++ byL B = byL (mAcc (l.take (i + 1))) := by rw [hs, byL_app]
     have hs4 : (mAcc (l.take (i + 1))).length = F.length + B.length := by rw [hs, List.length_append]
     have hbd : F.length + B.length ≤ 140737488355328 := by omega
     have hfu := by_full B B.length rfl
     unfold byS at p
     clear hw hr hoe hob hs hrt hB hal hfl
     repeat' (first | apply WK.s | apply WK.b | apply WK.n | apply WK.k | refine WK.cT rfl ?_ | refine WK.cF rfl ?_ | (apply hQ.h; clear hQ hA) | (refine WK.R Tryz.ntmps77 ?_; intro A hA Q hQ; simp [bne, *]) | (refine RunQ.append 902 appByte rfl rfl rfl rfl rfl rfl rfl rfl rfl ?_ ?_ ?_ ?_ ?_; (focus first | omega | simp [bne, *]; done); (focus first | omega | simp [bne, *]; done); (focus first | omega | simp [bne, *]; done); (focus first | omega | simp [bne, *]; done); refine RunQ.evalH ?_; simp [bne, *]) | (refine RunQ.k rfl rfl rfl rfl rfl ?_ (p) ?_ ?_ <;> simp (config := zd) [bne, *] <;> refine ⟨?_⟩))
     refine WK.N (fun n => if n = 1 then 902 else n) (IH (i + 1) (⟨by omega, hr2⟩) (by first | omega | (dsimp only; omega))) (by repeat (first | exact TmW.nil | refine TmW.upd ?_ (by simp (config := zd) [hs3, hs4]))) (by repeat (first | exact BxW.nil | refine BxW.upd ?_ (by simp (config := zd) [hs3, hs4])))
 · have hT : l.take i = l := List.take_of_length_le (by omega)
   have hfit := mFit_of hc (fun j hj => hi.2 j (by omega))
   have hdef := mEnc_fit hfit
   have hwl := mWhole_len l
   rw [hT] at hal hfl ⊢
   have hX : mAcc l = mHd ++ rwFlat oBytes l := rfl
   have hW : mWhole l = beN 1 2 ++ (beN (4 + (rwFlat oBytes l).length : Nat) 2 ++ (rwFlat oBytes l ++ List.replicate (mPad (4 + (rwFlat oBytes l).length) - (4 + (rwFlat oBytes l).length)) 0#8)) := rfl
   obtain ⟨F, hF⟩ : ∃ F, rwFlat oBytes l = F := ⟨_, rfl⟩
   rw [hF] at hdef hal hfl hX hwl hW
   by_cases h6 : F.length ≤ 1000
   · rw [if_pos h6] at hdef
     have hp := mPad_ge (4 + F.length)
     have hm := mpad_c (4 + F.length) (by omega)
     have q := nputP_c [] ((4 + F.length : Nat) : Int) 2 Sz2 (by simp)
     rw [putN_beN (numOk2 (by omega)), List.nil_append] at q
     have hsp := splice_len F ((4 + F.length : Nat) : Int)
     rw [← hX] at hsp
     have hYl : (beN 1 2 ++ (beN ((4 + F.length : Nat) : Int) 2 ++ F)).length = 4 + F.length := by simp [beN_len]; omega
     have hWY : mWhole l = (beN 1 2 ++ (beN ((4 + F.length : Nat) : Int) 2 ++ F)) ++ List.replicate (mPad (4 + F.length) - (4 + F.length)) 0#8 := by rw [hW]; simp only [List.append_assoc]
     have hlast : byL (beN 1 2 ++ (beN ((4 + F.length : Nat) : Int) 2 ++ F)) ++ List.replicate (mPad (4 + F.length) - (4 + F.length)) (AV.int .u8 0) = byL (mWhole l) := by rw [hWY, byL_rep, ← byL_app]
     obtain ⟨Y, hY⟩ : ∃ Y, beN 1 2 ++ (beN ((4 + F.length : Nat) : Int) 2 ++ F) = Y := ⟨_, rfl⟩
     obtain ⟨B, hB⟩ : ∃ B, beN ((4 + F.length : Nat) : Int) 2 = B := ⟨_, rfl⟩
     have hBl : B.length = 2 := by rw [← hB, beN_len]
     rw [hY] at hsp hYl hlast
     rw [hB] at q hsp
     obtain ⟨Z, hZ⟩ : ∃ Z, mWhole l = Z := ⟨_, rfl⟩
     rw [hZ] at hlast hdef hwl
     obtain ⟨A, hA⟩ : ∃ A, mAcc l = A := ⟨_, rfl⟩
     rw [hA] at hal hsp ⊢
     obtain ⟨m, hmm⟩ : ∃ m, 4 + F.length = m := ⟨_, rfl⟩
     rw [hmm] at hal hp hm q hwl hYl hlast
     rw [hdef]
     simp only
     rw [hal, hwl]
     unfold byS at q
     rw [hBl, b0_] at q
     have hm4 : m ≤ 1004 := by omega
     have hm2 : 2 ≤ m := by omega
     have hm2' : (2 : Int) ≤ m := by omega
     have hm3 : ¬ (1004 : Int) < m := by omega
     have hm5 : 2 < m := by omega
     have hm8 : 2 ≤ m - 2 := by omega
     have hAb : (byL A).length = m := by rw [byL_len, hal]
     have hBb : (byL B).length = 2 := by rw [byL_len, hBl]
     unfold splice at hsp
     rw [hBb, List.append_assoc] at hsp
     simp only [Nat.reduceAdd] at hsp
     have w1 : IntKind.i64.wrap ((mPad m : Int) - m) = ((mPad m - m : Nat) : Int) := by rw [wrap_i64 (by omega) (by omega)]; omega
     have hm6 : m + (mPad m - m) = mPad m := by omega
     have hm7 : mPad m ≤ 140737488355328 := by omega
     clear hdef hW hX hWY hF hY hB hZ hA hmm hi hc hfit hT hfl hil
     repeat' (first | apply WK.s | apply WK.k | refine WK.exit rfl ?_ | refine WK.cF rfl ?_ | (apply hQ.h; clear hQ hA) | (refine WK.R (id := 0) Tryz.ntmps77 ?_; intro A hA Q hQ; simp [*]) | (refine WK.R (id := 1) Tryz.ntmps77 ?_; intro A hA Q hQ; simp [*]) | (refine WK.R (id := 2) Tryz.ntmps77 ?_; intro A hA Q hQ; simp [*]) | (refine WK.R (id := 3) Tryz.ntmps77 ?_; intro A hA Q hQ; simp [*]) | (refine WK.R (id := 4) Tryz.ntmps77 ?_; intro A hA Q hQ; simp [*]) | (refine WK.R (id := 5) Tryz.ntmps77 ?_; intro A hA Q hQ; simp [*]) | (refine WK.R (id := 6) Tryz.ntmps77 ?_; intro A hA Q hQ; simp [*]) | (refine WK.R (id := 7) Tryz.ntmps77 ?_; intro A hA Q hQ; simp [*]) | (refine WK.R (id := 8) Tryz.ntmps77 ?_; intro A hA Q hQ; simp [*]) | (refine WK.R (id := 9) Tryz.ntmps77 ?_; intro A hA Q hQ; simp [*]) | (refine WK.R (id := 10) Tryz.ntmps77 ?_; intro A hA Q hQ; simp [*]) | (refine WK.R (id := 11) Tryz.ntmps77 ?_; intro A hA Q hQ; simp [*]) | (refine WK.R (id := 12) Tryz.ntmps77 ?_; intro A hA Q hQ; simp [*]) | (refine WK.R (id := 13) Tryz.ntmps77 ?_; intro A hA Q hQ; simp [*]))
     repeat' (first | apply WK.s | (refine hQ.h _ _ ?_; clear hQ hA) | (refine WK.R Tryz.ntmps77 ?_; intro A hA Q hQ; simp [*]) | (refine WK.X Tryz.ntmps77 ?_; intro A hA Q hQ; simp [*]) | (refine hQ.h _ _ _ (by decide +kernel) ?_; clear hQ hA) | (refine RunX.slOwn (a := 2) (b := m) appByte rfl rfl rfl rfl ?_ ?_ ?_; (focus simp [boundsA, intA, *]; done); (focus (first | exact .inr rfl | (left; omega); done)); refine RunX.e ?_; simp [*]) | (refine RunX.copy appByte rfl rfl rfl rfl rfl rfl rfl rfl ?_ ?_ ?_ ?_ ?_; (focus first | omega | simp [*]; done); (focus first | omega | simp [*]; done); (focus first | omega | simp [*]; done); (focus first | omega | simp [*]; done); refine RunX.e ?_; simp [*]) | (refine RunQ.appendZ (m := (mPad m - m)) (kk := .i64) (zv := .int .u8 0) 905 appByte rfl rfl rfl rfl (by simp) (by simp) rfl ?_ rfl rfl rfl ?_ ?_ ?_ ?_; (focus simp (config := zd) [*]; done); (focus first | omega | simp [*]; done); (focus first | omega | simp [*]; done); (focus simp [*]; done); refine RunQ.evalH ?_; simp [*]) | (refine RunQ.k rfl rfl rfl rfl rfl ?_ (hm) ?_ ?_ <;> simp (config := zd) [*] <;> refine ⟨?_⟩) | (refine RunX.k rfl rfl rfl rfl ?_ (q) ?_ ?_ <;> simp (config := zd) [*] <;> refine ⟨?_⟩) | (refine WK.retT2 Tryz.func77 ?_ ?_ ?_ <;> simp (config := zd) [Tryz.results77, *]))
   · rw [if_neg h6] at hdef
     rw [hdef]
     have hm3 : (1004 : Int) < (mAcc l).length := by omega
     obtain ⟨A, hA⟩ : ∃ A, mAcc l = A := ⟨_, rfl⟩
     rw [hA] at hm3 ⊢
     clear hdef hW hX hF hi hc hfit hT hfl hil hal hA
     repeat' (first | apply WK.s | refine WK.exit rfl ?_ | refine WK.cT rfl ?_ | refine WK.cF rfl ?_ | (apply hQ.h; clear hQ hA) | (refine WK.R Tryz.ntmps77 ?_; intro A hA Q hQ; simp [*]))
     refine WK.ghost (Ghost.own 2 902 1 rfl rfl) ?_
     refine WK.retT2 Tryz.func77 ?_ ?_ ?_ <;> simp (config := zd) [Tryz.results77, b0_]
end Go.Proofs.YtmhapglejjehbaaGreat
