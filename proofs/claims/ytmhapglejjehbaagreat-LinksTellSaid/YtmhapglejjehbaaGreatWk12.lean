/- Nets: whether one may be. -/
import Derived.Test.YtmhapglejjehbaaGreatAf
import Derived.Test.YtmhapglejjehbaaGreatWk11
import Derived.Test.YtmhapglejjehbaaGreatAg
import Derived.Test.YtmhapglejjehbaaGreatWk1
import Derived.Test.YtmhapglejjehbaaGreatDa
set_option linter.all false
set_option linter.unnecessarySimpa false
namespace Go.Proofs.YtmhapglejjehbaaGreat
open Go Go.AI Go.Proofs
attribute [local irreducible] FnP FnO FnB FnT WK RunQ RunQW RunX RunXW RunN
theorem mpOkP : MpOkK Tryz.prog 65 kvP keP := MpOkK.mk' Tryz.underlying65 (KeyOk.pair Tryz.underlying67 Tryz.underlying3 Tryz.underlying3 rfl rfl fl67) (by kernel_rfl) fun E G k v h => keP_rel h
def edgeHas (ops : Array Oper) (i j : Nat) : Bool := match ops[i]? with | some o => o.after.toList.any fun e => Region.binds .any e && e.on == j | none => false
theorem edgeHas_use {ops : Array Oper} {i j : Nat} {o : Oper} {L : Nat → Bool} (h : edgeHas ops i j = true) (ho : ops[i]? = some o) (hall : ∀ e ∈ o.after, Region.binds .any e = true → L e.on = true) : L j = true := by
 unfold edgeHas at h
 rw [ho] at h
 simp only [List.any_eq_true, Bool.and_eq_true, beq_iff_eq] at h
 obtain ⟨e, h1, h2, rfl⟩ := h
 exact hall e (by simpa using h1) h2
theorem regInc {C : Ctx} {id N q n : Nat} {ops : Array Oper} {k : List Item} {tm : Nat → AV} {bx : Nat → Box} {nx : Nat} {a b : Int} {M : List ((Int × Int) × Int)} {v : Int}
   (hops : ops.toList.map (fun o => (o.dst, o.op, o.guard)) = [(some 21, Op.move (.tmp 3), none), (some 22, Op.load 67 (.tmp 7), none), (some 23, Op.lookup 65 (.tmp 21) (.tmp 22) false, none), (some 24, Op.binOp .add 3 (.tmp 23) (.const (.int .i64 1)) 3, none),
     (some 25, Op.mapEntry 65 (.tmp 21) (.tmp 22), none), (some 26, Op.extract (.tmp 25) 1, none), (none, Op.entryStore 65 (.tmp 21) (.tmp 26) (.tmp 24), none)])
   (e1 : edgeHas ops 2 0 = true) (e2 : edgeHas ops 2 1 = true) (e3 : edgeHas ops 3 2 = true) (e4 : edgeHas ops 4 0 = true) (e5 : edgeHas ops 4 1 = true) (e6 : edgeHas ops 5 4 = true) (e7 : edgeHas ops 6 0 = true) (e8 : edgeHas ops 6 3 = true) (e9 : edgeHas ops 6 5 = true)
   (hE : edgeB ops = true) (hn : C.fn.ntmps = N) (hd : dstB N ops = true) (h3 : tm 3 = .mv n) (h7 : tm 7 = .ptr q 0) (hq : bx q = .var [.int .i64 a, .int .i64 b]) (hm : bx n = .obj (mpObjK kvP 0 M)) (hqn : q ≠ n)
   (hv : v = IntKind.i64.wrap (mpVal M (a, b) + 1))
   (h : WK Tryz.prog C k ⟨upd (upd (upd (upd (upd (upd tm 21 (.mv n)) 22 (keP (a, b))) 23 (.int .i64 (mpVal M (a, b)))) 24 (.int .i64 v)) 25 (.tup [.int .i64 (mpVal M (a, b)), .int .i64 ((0 + mpAt M (a, b) : Nat) : Int)])) 26 (.int .i64 ((0 + mpAt M (a, b) : Nat) : Int)), upd bx n (.obj (mpObjK kvP 0 (mpPut M (a, b) v))), nx⟩) :
   WK Tryz.prog C (.code (.region id ops true) :: k) ⟨tm, bx, nx⟩ := by
 let tmS : (Nat → Bool) → Nat → AV := fun L t => if t = 21 then (if L 0 then .mv n else tm 21) else if t = 22 then (if L 1 then keP (a, b) else tm 22) else if t = 23 then (if L 2 then .int .i64 (mpVal M (a, b)) else tm 23) else if t = 24 then (if L 3 then .int .i64 v else tm 24)
   else if t = 25 then (if L 4 then .tup [.int .i64 (mpVal M (a, b)), .int .i64 ((0 + mpAt M (a, b) : Nat) : Int)] else tm 25) else if t = 26 then (if L 5 then .int .i64 ((0 + mpAt M (a, b) : Nat) : Int) else tm 26) else tm t
 let bxS : (Nat → Bool) → Nat → Box := fun L j => if j = n then (if L 6 then .obj (mpObjK kvP 0 (mpPut M (a, b) v)) else if L 4 then .obj (mpObjK kvP 0 (mpIn M (a, b))) else .obj (mpObjK kvP 0 M)) else bx j
 have hsz : ops.size = 7 := by
   have := congrArg List.length hops
   simpa using this
 have hvin : mpVal (mpIn M (a, b)) (a, b) = mpVal M (a, b) := by
   unfold mpIn
   cases hl : mpLook M (a, b) with
   | some q => rfl
   | none =>
     rw [← mpPut_none hl, mpVal_put, if_pos rfl]
     unfold mpVal; rw [hl]
 refine WK.drawS (fun L => ⟨tmS L, bxS L, 0⟩) (by kernel_rfl) hn hd hE ?_ (fun L L' hL => ?_) (fun L hcl i o ho hLi hall => ?_) ?_
 · have t1 : tmS (fun _ => false) = tm := by
     funext t
     simp only [tmS, Bool.false_eq_true, if_false]
     repeat' split
     all_goals first | rfl | (rename_i h; rw [h]) | skip
   have t2 : bxS (fun _ => false) = bx := by
     funext j
     simp only [bxS, Bool.false_eq_true, if_false]
     split
     · rename_i h; rw [h, hm]
     · rfl
   simp only [t1, t2]
 · have : ∀ i, i < 7 → L i = L' i := fun i hi => hL i (by omega)
   have t1 : tmS L = tmS L' := by
     funext t
     simp only [tmS, this 0 (by omega), this 1 (by omega), this 2 (by omega), this 3 (by omega), this 4 (by omega), this 5 (by omega)]
   have t2 : bxS L = bxS L' := by
     funext j
     simp only [bxS, this 6 (by omega), this 4 (by omega)]
   simp only [t1, t2]
 · have hk : [(some 21, Op.move (.tmp 3), none), (some 22, Op.load 67 (.tmp 7), none), (some 23, Op.lookup 65 (.tmp 21) (.tmp 22) false, none), (some 24, Op.binOp .add 3 (.tmp 23) (.const (.int .i64 1)) 3, none),
       (some 25, Op.mapEntry 65 (.tmp 21) (.tmp 22), none), (some 26, Op.extract (.tmp 25) 1, none), (none, Op.entryStore 65 (.tmp 21) (.tmp 26) (.tmp 24), none)][i]? = some (o.dst, o.op, o.guard) := by
     rw [← hops, List.getElem?_map, Array.getElem?_toList, ho]; rfl
   have use : ∀ {i j : Nat} {o : Oper}, edgeHas ops i j = true → ops[i]? = some o → L i = true → L j = true := fun h ho hl => edgeHas_use h ho (hcl _ _ ho hl)
   have dep : ∀ {j : Nat}, edgeHas ops i j = true → L j = true := fun h => edgeHas_use h ho hall
   have ops2 : ∀ j, j < 7 → ∃ o, ops[j]? = some o := fun j hj => ⟨ops[j]'(by omega), Array.getElem?_eq_getElem (by omega)⟩
   have l36 : L 6 = true → L 3 = true ∧ L 5 = true := fun h => by obtain ⟨o, ho⟩ := ops2 6 (by omega); exact ⟨use e8 ho h, use e9 ho h⟩
   have l23 : L 3 = true → L 2 = true := fun h => by obtain ⟨o, ho⟩ := ops2 3 (by omega); exact use e3 ho h
   have l45 : L 5 = true → L 4 = true := fun h => by obtain ⟨o, ho⟩ := ops2 5 (by omega); exact use e6 ho h
   have go : ∀ {x : AV} {bx' : Nat → Box}, o.guard = none → Mems Tryz.prog (evA (tmS L)) (bxS L) o x bx' → (∀ t, putA (tmS L) o.dst x t = tmS (fun j => L j || j == i) t) → (∀ t, bx' t = bxS (fun j => L j || j == i) t) → Step1 Tryz.prog ops i ⟨tmS L, bxS L, 0⟩ ⟨tmS (fun j => L j || j == i), bxS (fun j => L j || j == i), 0⟩ := fun hg hM h1 h2 => by
     have := Step1.run (P := Tryz.prog) (st := ⟨tmS L, bxS L, 0⟩) ho (by simp [wantedA, hg]) hM
     rw [show putA (tmS L) o.dst _ = _ from funext h1, show _ = _ from funext h2] at this
     exact this
   have hi : i < 7 := by
     rcases Nat.lt_or_ge i ops.size with h | h
     · omega
     · rw [Array.getElem?_eq_none h] at ho; cases ho
   have s3 : tmS L 3 = .mv n := by simp [tmS, h3]
   have s7 : tmS L 7 = .ptr q 0 := by simp [tmS, h7]
   have bq : bxS L q = .var [.int .i64 a, .int .i64 b] := by simp [bxS, hqn, hq]
   have hic : i = 0 ∨ i = 1 ∨ i = 2 ∨ i = 3 ∨ i = 4 ∨ i = 5 ∨ i = 6 := by omega
   rcases hic with rfl | rfl | rfl | rfl | rfl | rfl | rfl <;> simp only [List.getElem?_cons_zero, List.getElem?_cons_succ, Option.some.injEq, Prod.mk.injEq] at hk <;> obtain ⟨hd1, ho1, hg1⟩ := hk
   · refine go hg1.symm (Mems.pure (x := .mv n) (by rw [← ho1]; simp [comp, s3])) (fun t => ?_) (fun t => by simp [bxS])
     rw [← hd1]
     by_cases h : t = 21
     · subst h; simp [tmS]
     · simp [tmS, h]
   · refine go hg1.symm (Mems.load (x := keP (a, b)) ho1.symm s7 (by rw [bq]; rfl) (by simp [keP])) (fun t => ?_) (fun t => by simp [bxS])
     rw [← hd1]
     by_cases h : t = 22
     · subst h; simp [tmS]
     · simp [tmS, h]
   · have l0 := dep e1
     have l1 := dep e2
     have l6 : L 6 = false := by
       cases h6 : L 6 with
       | false => rfl
       | true => rw [l23 (l36 h6).1] at hLi; cases hLi
     have t21 : evA (tmS L) (.tmp 21) = .mv n := by simp [tmS, l0]
     have t22 : evA (tmS L) (.tmp 22) = keP (a, b) := by simp [tmS, l1]
     refine go (bx' := bxS L) (x := .int .i64 (mpVal M (a, b))) hg1.symm ?_ (fun t => ?_) (fun t => by simp [bxS])
     · cases l4 : L 4 with
       | false => exact Mems.lookup (k := (a, b)) (es := M) (c := 0) ho1.symm mpOkP t21 t22 (by simp [bxS, l6, l4])
       | true =>
         rw [← hvin]
         exact Mems.lookup (k := (a, b)) (es := mpIn M (a, b)) (c := 0) ho1.symm mpOkP t21 t22 (by simp [bxS, l6, l4])
     · rw [← hd1]
       by_cases h : t = 23
       · subst h; simp [tmS]
       · simp [tmS, h]
   · have l2 := dep e3
     refine go hg1.symm (Mems.pure (x := .int .i64 v) (by rw [← ho1]; simp [comp, tmS, l2, hv])) (fun t => ?_) (fun t => by simp [bxS])
     rw [← hd1]
     by_cases h : t = 24
     · subst h; simp [tmS]
     · simp [tmS, h]
   · have l0 := dep e4
     have l1 := dep e5
     have l6 : L 6 = false := by
       cases h6 : L 6 with
       | false => rfl
       | true => rw [l45 (l36 h6).2] at hLi; cases hLi
     have t21 : evA (tmS L) (.tmp 21) = .mv n := by simp [tmS, l0]
     have t22 : evA (tmS L) (.tmp 22) = keP (a, b) := by simp [tmS, l1]
     refine go hg1.symm (Mems.mapEntry (k := (a, b)) (es := M) (c := 0) (n := n) ho1.symm mpOkP t21 t22 (by simp [bxS, l6, hLi])) (fun t => ?_) (fun t => ?_)
     · rw [← hd1]
       by_cases h : t = 25
       · subst h; simp [tmS]
       · simp [tmS, h]
     · by_cases h : t = n
       · subst h; simp [bxS, l6]
       · simp [bxS, h]
   · have l4 := dep e6
     refine go hg1.symm (Mems.pure (x := .int .i64 ((0 + mpAt M (a, b) : Nat) : Int)) (by rw [← ho1]; simp [comp, tmS, l4])) (fun t => ?_) (fun t => by simp [bxS])
     rw [← hd1]
     by_cases h : t = 26
     · subst h; simp [tmS]
     · simp [tmS, h]
   · have l0 := dep e7
     have l3 := dep e8
     have l5 := dep e9
     have l4 := l45 l5
     have t21 : evA (tmS L) (.tmp 21) = .mv n := by simp [tmS, l0]
     have t26 : evA (tmS L) (.tmp 26) = .int .i64 ((0 + mpAt M (a, b) : Nat) : Int) := by simp [tmS, l5]
     have t24 : evA (tmS L) (.tmp 24) = .int .i64 v := by simp [tmS, l3]
     refine go hg1.symm (Mems.entryPut (k := (a, b)) (es := M) (c := 0) (n := n) (kv := kvP) ho1.symm t21 t26 rfl t24 (by simp [bxS, hLi, l4])) (fun t => ?_) (fun t => ?_)
     · rw [← hd1]
       simp [tmS]
     · by_cases h : t = n
       · subst h; simp [bxS]
       · simp [bxS, h]
 · have t1 : tmS (fun _ => true) = upd (upd (upd (upd (upd (upd tm 21 (.mv n)) 22 (keP (a, b))) 23 (.int .i64 (mpVal M (a, b)))) 24 (.int .i64 v)) 25 (.tup [.int .i64 (mpVal M (a, b)), .int .i64 ((0 + mpAt M (a, b) : Nat) : Int)])) 26 (.int .i64 ((0 + mpAt M (a, b) : Nat) : Int)) := by
     funext t
     simp only [tmS, if_true, upd]
     repeat' split
     all_goals first | rfl | (exfalso; omega)
   have t2 : bxS (fun _ => true) = upd bx n (.obj (mpObjK kvP 0 (mpPut M (a, b) v))) := by
     funext j
     simp only [bxS, if_true, upd]
   simp only [t1, t2]
   exact WK.anyNx h
def Link.plug (l : Link) : Int × Int := (l.from_, l.out)
def nPort (p : Int) : Bool := decide (1 ≤ p) && decide (p ≤ 4294967040)
def nJoin1 (n : Net) (i : Nat) : Bool := !(decide ((nth n.links i).plug ∈ (n.links.take i).map Link.plug)) && (nThere n (nth n.links i).from_ && (nThere n (nth n.links i).to_ && (nPort (nth n.links i).out && nPort (nth n.links i).inn)))
def nJoins (n : Net) : Bool := (List.range n.links.length).all (nJoin1 n)
def nRight (n : Net) : Bool := nJoins n && n.sws.all stRight
theorem lport_c (p : Int) : FnP Tryz.prog 38 [.int .i64 p] (.bool (nPort p)) := by
 unfold nPort
 by_cases h1 : 1 ≤ p
 · by_cases h2 : p ≤ 4294967040
   · rw [decide_eq_true h1, decide_eq_true h2]
     refine FnP.i Tryz.func38 rfl rfl fun G w => ?_
     repeat' (first | apply WK.s | (apply hQ.h; clear hQ hA) | (refine WK.R Tryz.ntmps38 ?_; intro A hA Q hQ; simp [*]) | (refine RunQ.g rfl (by rw [hA.h]; rfl) ?_; simp [*]) | (refine WK.t Tryz.func38 ?_ ?_ <;> simp (config := zd) [Tryz.results38, *]))
   · rw [decide_eq_true h1, decide_eq_false h2]
     refine FnP.i Tryz.func38 rfl rfl fun G w => ?_
     repeat' (first | apply WK.s | (apply hQ.h; clear hQ hA) | (refine WK.R Tryz.ntmps38 ?_; intro A hA Q hQ; simp [*]) | (refine RunQ.g rfl (by rw [hA.h]; rfl) ?_; simp [*]) | (refine WK.t Tryz.func38 ?_ ?_ <;> simp (config := zd) [Tryz.results38, *]))
 · rw [decide_eq_false h1]
   refine FnP.i Tryz.func38 rfl rfl fun G w => ?_
   repeat' (first | apply WK.s | (apply hQ.h; clear hQ hA) | (refine WK.R Tryz.ntmps38 ?_; intro A hA Q hQ; simp [*]) | (refine RunQ.g rfl (by rw [hA.h]; rfl) ?_; simp [*]) | (refine WK.t Tryz.func38 ?_ ?_ <;> simp (config := zd) [Tryz.results38, *]))
theorem rlport_c (p : Int) : FnP Tryz.prog 30 [.int .i64 p] (.bool (nPort p)) := by
 unfold nPort
 by_cases h1 : 1 ≤ p
 · by_cases h2 : p ≤ 4294967040
   · rw [decide_eq_true h1, decide_eq_true h2]
     refine FnP.i Tryz.func30 rfl rfl fun G w => ?_
     repeat' (first | apply WK.s | (apply hQ.h; clear hQ hA) | (refine WK.R Tryz.ntmps30 ?_; intro A hA Q hQ; simp [*]) | (refine RunQ.g rfl (by rw [hA.h]; rfl) ?_; simp [*]) | (refine WK.t Tryz.func30 ?_ ?_ <;> simp (config := zd) [Tryz.results30, *]))
   · rw [decide_eq_true h1, decide_eq_false h2]
     refine FnP.i Tryz.func30 rfl rfl fun G w => ?_
     repeat' (first | apply WK.s | (apply hQ.h; clear hQ hA) | (refine WK.R Tryz.ntmps30 ?_; intro A hA Q hQ; simp [*]) | (refine RunQ.g rfl (by rw [hA.h]; rfl) ?_; simp [*]) | (refine WK.t Tryz.func30 ?_ ?_ <;> simp (config := zd) [Tryz.results30, *]))
 · rw [decide_eq_false h1]
   refine FnP.i Tryz.func30 rfl rfl fun G w => ?_
   repeat' (first | apply WK.s | (apply hQ.h; clear hQ hA) | (refine WK.R Tryz.ntmps30 ?_; intro A hA Q hQ; simp [*]) | (refine RunQ.g rfl (by rw [hA.h]; rfl) ?_; simp [*]) | (refine WK.t Tryz.func30 ?_ ?_ <;> simp (config := zd) [Tryz.results30, *]))
theorem nJoins_true {n : Net} (h : ∀ i, i < n.links.length → nJoin1 n i = true) : nJoins n = true := by
 unfold nJoins; rw [List.all_eq_true]; intro i hi; exact h i (by simpa using hi)
theorem nJoins_false {n : Net} {i : Nat} (hi : i < n.links.length) (h : nJoin1 n i = false) : nJoins n = false := by
 unfold nJoins; rw [List.all_eq_false]; exact ⟨i, by simpa using hi, by simp [h]⟩
set_option maxHeartbeats 8000000 in
set_option maxRecDepth 100000 in
theorem ljoins_c (n : Net) (hl : n.links.length ≤ 1000000) : FnP Tryz.prog 26 [.agg n.enc] (.bool (nJoins n)) := by
 have ct : ∀ x, FnP Tryz.prog 24 [.agg n.enc, .int .i64 x] (.bool (nThere n x)) := fun x => lthere_c n x
 have cp := lport_c
 have ha := nJoins_true (n := n)
 have hno := fun {i : Nat} => nJoins_false (n := n) (i := i)
 have hJ : ∀ i, nJoin1 n i = (!(decide ((nth n.links i).plug ∈ (n.links.take i).map Link.plug)) && (nThere n (nth n.links i).from_ && (nThere n (nth n.links i).to_ && (nPort (nth n.links i).out && nPort (nth n.links i).inn)))) := fun _ => rfl
 obtain ⟨R, hR⟩ : ∃ R, nJoins n = R := ⟨_, rfl⟩
 rw [hR] at ha ⊢
 simp only [hR] at hno
 have e0 : n.enc = [swS n.sws, linkS n.links] := rfl
 rw [e0] at ct ⊢
 obtain ⟨Jn, hJe⟩ : ∃ Jn : Nat → Bool, ∀ i, nJoin1 n i = Jn i := ⟨_, fun _ => rfl⟩
 obtain ⟨Th, hTh⟩ : ∃ Th : Int → Bool, ∀ x, nThere n x = Th x := ⟨_, fun _ => rfl⟩
 obtain ⟨Po, hPo⟩ : ∃ Po : Int → Bool, ∀ x, nPort x = Po x := ⟨_, fun _ => rfl⟩
 simp only [hJe] at ha hno hJ
 simp only [hTh] at ct hJ
 simp only [hPo] at cp hJ
 clear hR e0 hJe hTh hPo
 obtain ⟨S, L⟩ := n
 simp only at *
 unfold linkS at *
 obtain ⟨S, hS, hsc⟩ : ∃ s, swS S = s ∧ Cl s = true := ⟨_, rfl, swS_cl _⟩
 rw [hS] at ct ⊢
 clear hS
 have hseen0 : mpObj [] = mpObjK kvP 0 (mpSeen []) := rfl
 have hkl : ∀ i, ((L.take i).map Link.plug).length ≤ 1000000 := fun i => by rw [List.length_map, List.length_take]; omega
 refine FnP.i Tryz.func26 rfl rfl fun G w => ?_
 repeat' (first | apply WK.s | apply WK.b | (apply hQ.h; clear hQ hA) | (refine WK.R Tryz.ntmps26 ?_; intro A hA Q hQ; simp [*]) | (refine RunQ.makeMap 900 rfl rfl rfl ?_ ?_; (focus simp [*]; done); refine RunQ.evalH ?_; simp [*]))
 refine WK.L (fun n => if n = 1 then 900 else n) (fun i : Nat => (⟨(upd (upd (upd (upd (upd (upd J 1 (.ptr 0 0)) 3 (.mv 1)) 4 (.fn 38 [])) 10 (.sl false L.length (linkL L))) 11 (.int .i64 L.length)) 12 (.int .i64 i)), (upd (upd B0 0 (.var [S, .sl false L.length (linkL L)])) 1 (.obj (mpObjK kvP 0 (mpSeen ((L.take i).map Link.plug))))), 0⟩ : St)) (fun i => i ≤ L.length ∧ ∀ j, j < i → Jn j = true) (fun i => L.length - i) (0) (by repeat (first | exact TmW.nil | refine TmW.upd ?_ (by simp (config := zd) [hsc, hseen0]))) (by repeat (first | exact BxW.nil | refine BxW.upd ?_ (by simp (config := zd) [hsc, hseen0]))) (⟨by omega, by simp⟩) (fun i hi IH => ?_)
 by_cases h1 : i < L.length
 · have h1' : (i : Int) < L.length := by omega
   have h6 : IntKind.i64.wrap ((i : Int) + 1) = i + 1 := wrap_i64 (by omega) (by omega)
   obtain ⟨h4, h3⟩ := link_load L i h1
   have hi2 := hi.2
   have hno := hno h1
   have hst : Jn i = true → ∀ j, j < i + 1 → Jn j = true := fun h j hj => by
     by_cases h7 : j = i
     · subst h7; exact h
     · exact hi2 j (by omega)
   rw [hJ] at hno hst
   have p1 := cp (nth L i).out
   have p2 := cp (nth L i).inn
   have t1 := ct (nth L i).from_
   have t2 := ct (nth L i).to_
   have htk : (L.take (i + 1)).map Link.plug = (L.take i).map Link.plug ++ [(nth L i).plug] := by rw [take_nth h1, List.map_append]; rfl
   have hkl := hkl i
   have hpe : (nth L i).plug = ((nth L i).from_, (nth L i).out) := rfl
   obtain ⟨x, hx⟩ : ∃ x, nth L i = x := ⟨_, rfl⟩
   simp only [hx] at h4 hno hst p1 p2 t1 t2 htk hpe
   obtain ⟨ks, hks⟩ : ∃ ks, (L.take i).map Link.plug = ks := ⟨_, rfl⟩
   rw [hpe, hks] at htk hno hst
   rw [hks] at hkl ⊢
   have hsn := mpSeen_snoc ks (x.from_, x.out)
   rw [← htk] at hsn
   obtain ⟨c, hvl, hcp, hcl⟩ : ∃ c : Nat, mpVal (mpSeen ks) (x.from_, x.out) = c ∧ (0 < c ↔ (x.from_, x.out) ∈ ks) ∧ c ≤ ks.length := mpSeen_in ks _
   obtain ⟨M, hM⟩ : ∃ M, mpSeen ks = M := ⟨_, rfl⟩
   rw [hM] at hvl hsn ⊢
   rw [hvl] at hsn
   have hput := mpVal_put M (x.from_, x.out) ((c : Int) + 1) (x.from_, x.out)
   rw [if_pos rfl] at hput
   have wc : IntKind.i64.wrap ((c : Int) + 1) = c + 1 := wrap_i64 (by omega) (by omega)
   obtain ⟨b1, e1⟩ : ∃ b, Th x.from_ = b := ⟨_, rfl⟩
   obtain ⟨b2, e2⟩ : ∃ b, Th x.to_ = b := ⟨_, rfl⟩
   obtain ⟨b3, e3⟩ : ∃ b, Po x.out = b := ⟨_, rfl⟩
   obtain ⟨b4, e4⟩ : ∃ b, Po x.inn = b := ⟨_, rfl⟩
   rw [e1] at t1 hno hst
   rw [e2] at t2 hno hst
   rw [e3] at p1 hno hst
   rw [e4] at p2 hno hst
   clear e1 e2 e3 e4 hM hks hx hpe hJ ct cp hi ha hseen0
   by_cases hc0 : 0 < c
   · have hin := hcp.1 hc0
     have e := hno (by rw [decide_eq_true hin]; rfl)
     have hc1 : (1 : Int) < (c : Int) + 1 := by omega
     subst e
     clear hno hst IH t1 t2 p1 p2 hcp hsn htk hin
     repeat' (first | apply WK.s | apply WK.b | apply WK.k | refine WK.cT rfl ?_ | (apply hQ.h; clear hQ hA) | (refine WK.R (id := 0) Tryz.ntmps26 ?_; intro A hA Q hQ; simp [Link.enc, *]) | (refine WK.R (id := 1) Tryz.ntmps26 ?_; intro A hA Q hQ; simp [Link.enc, *]) | (refine WK.R (id := 2) Tryz.ntmps26 ?_; intro A hA Q hQ; simp [Link.enc, *]) | (refine WK.R (id := 3) Tryz.ntmps26 ?_; intro A hA Q hQ; simp [Link.enc, *]) | (refine WK.R (id := 4) Tryz.ntmps26 ?_; intro A hA Q hQ; simp [Link.enc, *]) | (refine WK.R (id := 5) Tryz.ntmps26 ?_; intro A hA Q hQ; simp [Link.enc, *]) | (refine WK.R (id := 6) Tryz.ntmps26 ?_; intro A hA Q hQ; simp [Link.enc, *]))
     refine regInc (a := x.from_) (b := x.out) (M := M) (v := (c : Int) + 1) rfl rfl rfl rfl rfl rfl rfl rfl rfl rfl (by decide +kernel) Tryz.ntmps26 (by kernel_rfl) rfl rfl rfl rfl (by decide) (by rw [hvl]; exact wc.symm) ?_
     simp only [keP, Nat.zero_add]
     repeat' (first | apply WK.s | refine WK.cT rfl ?_ | (apply hQ.h; clear hQ hA) | (refine WK.R Tryz.ntmps26 ?_; intro A hA Q hQ; simp [Link.enc, *]) | (refine RunQ.g rfl (by rw [hA.h]; rfl) ?_; simp [Link.enc, *]) | (refine RunQ.lookup (k := (x.from_, x.out)) mpOkP rfl rfl rfl rfl rfl rfl ?_; refine RunQ.evalH ?_; simp [Link.enc, *]) | (refine WK.t Tryz.func26 ?_ ?_ <;> simp (config := zd) [Tryz.results26, Link.enc, *]))
   have hin : ¬ (x.from_, x.out) ∈ ks := fun h => hc0 (hcp.2 h)
   have hc1 : ¬ (1 : Int) < (c : Int) + 1 := by omega
   rw [decide_eq_false hin] at hno hst
   clear hcp hin
   cases b1
   · have e := hno rfl
     subst e
     clear hno hst IH t2 p1 p2 hsn htk
     repeat' (first | apply WK.s | apply WK.b | apply WK.k | refine WK.cT rfl ?_ | (apply hQ.h; clear hQ hA) | (refine WK.R (id := 0) Tryz.ntmps26 ?_; intro A hA Q hQ; simp [Link.enc, *]) | (refine WK.R (id := 1) Tryz.ntmps26 ?_; intro A hA Q hQ; simp [Link.enc, *]) | (refine WK.R (id := 2) Tryz.ntmps26 ?_; intro A hA Q hQ; simp [Link.enc, *]) | (refine WK.R (id := 3) Tryz.ntmps26 ?_; intro A hA Q hQ; simp [Link.enc, *]) | (refine WK.R (id := 4) Tryz.ntmps26 ?_; intro A hA Q hQ; simp [Link.enc, *]) | (refine WK.R (id := 5) Tryz.ntmps26 ?_; intro A hA Q hQ; simp [Link.enc, *]) | (refine WK.R (id := 6) Tryz.ntmps26 ?_; intro A hA Q hQ; simp [Link.enc, *]))
     refine regInc (a := x.from_) (b := x.out) (M := M) (v := (c : Int) + 1) rfl rfl rfl rfl rfl rfl rfl rfl rfl rfl (by decide +kernel) Tryz.ntmps26 (by kernel_rfl) rfl rfl rfl rfl (by decide) (by rw [hvl]; exact wc.symm) ?_
     simp only [keP, Nat.zero_add]
     repeat' (first | apply WK.s | refine WK.cT rfl ?_ | (apply hQ.h; clear hQ hA) | (refine WK.R Tryz.ntmps26 ?_; intro A hA Q hQ; simp [Link.enc, *]) | (refine RunQ.g rfl (by rw [hA.h]; rfl) ?_; simp [Link.enc, *]) | (refine RunQ.lookup (k := (x.from_, x.out)) mpOkP rfl rfl rfl rfl rfl rfl ?_; refine RunQ.evalH ?_; simp [Link.enc, *]) | (refine RunQW.k rfl rfl rfl rfl ?_ (t1) ?_ ?_ <;> simp (config := zd) [Link.enc, *] <;> refine ⟨?_⟩) | (refine WK.t Tryz.func26 ?_ ?_ <;> simp (config := zd) [Tryz.results26, Link.enc, *]))
   cases b2
   · have e := hno rfl
     subst e
     clear hno hst IH p1 p2 hsn htk
     repeat' (first | apply WK.s | apply WK.b | apply WK.k | refine WK.cT rfl ?_ | (apply hQ.h; clear hQ hA) | (refine WK.R (id := 0) Tryz.ntmps26 ?_; intro A hA Q hQ; simp [Link.enc, *]) | (refine WK.R (id := 1) Tryz.ntmps26 ?_; intro A hA Q hQ; simp [Link.enc, *]) | (refine WK.R (id := 2) Tryz.ntmps26 ?_; intro A hA Q hQ; simp [Link.enc, *]) | (refine WK.R (id := 3) Tryz.ntmps26 ?_; intro A hA Q hQ; simp [Link.enc, *]) | (refine WK.R (id := 4) Tryz.ntmps26 ?_; intro A hA Q hQ; simp [Link.enc, *]) | (refine WK.R (id := 5) Tryz.ntmps26 ?_; intro A hA Q hQ; simp [Link.enc, *]) | (refine WK.R (id := 6) Tryz.ntmps26 ?_; intro A hA Q hQ; simp [Link.enc, *]))
     refine regInc (a := x.from_) (b := x.out) (M := M) (v := (c : Int) + 1) rfl rfl rfl rfl rfl rfl rfl rfl rfl rfl (by decide +kernel) Tryz.ntmps26 (by kernel_rfl) rfl rfl rfl rfl (by decide) (by rw [hvl]; exact wc.symm) ?_
     simp only [keP, Nat.zero_add]
     repeat' (first | apply WK.s | refine WK.cT rfl ?_ | (apply hQ.h; clear hQ hA) | (refine WK.R Tryz.ntmps26 ?_; intro A hA Q hQ; simp [Link.enc, *]) | (refine RunQ.g rfl (by rw [hA.h]; rfl) ?_; simp [Link.enc, *]) | (refine RunQ.lookup (k := (x.from_, x.out)) mpOkP rfl rfl rfl rfl rfl rfl ?_; refine RunQ.evalH ?_; simp [Link.enc, *]) | (refine RunQW.k rfl rfl rfl rfl ?_ (t1) ?_ ?_ <;> simp (config := zd) [Link.enc, *] <;> refine ⟨?_⟩) | (refine RunQW.k rfl rfl rfl rfl ?_ (t2) ?_ ?_ <;> simp (config := zd) [Link.enc, *] <;> refine ⟨?_⟩) | (refine WK.t Tryz.func26 ?_ ?_ <;> simp (config := zd) [Tryz.results26, Link.enc, *]))
   cases b3
   · have e := hno rfl
     subst e
     clear hno hst IH p2 hsn htk
     repeat' (first | apply WK.s | apply WK.b | apply WK.k | refine WK.cT rfl ?_ | (apply hQ.h; clear hQ hA) | (refine WK.R (id := 0) Tryz.ntmps26 ?_; intro A hA Q hQ; simp [Link.enc, *]) | (refine WK.R (id := 1) Tryz.ntmps26 ?_; intro A hA Q hQ; simp [Link.enc, *]) | (refine WK.R (id := 2) Tryz.ntmps26 ?_; intro A hA Q hQ; simp [Link.enc, *]) | (refine WK.R (id := 3) Tryz.ntmps26 ?_; intro A hA Q hQ; simp [Link.enc, *]) | (refine WK.R (id := 4) Tryz.ntmps26 ?_; intro A hA Q hQ; simp [Link.enc, *]) | (refine WK.R (id := 5) Tryz.ntmps26 ?_; intro A hA Q hQ; simp [Link.enc, *]) | (refine WK.R (id := 6) Tryz.ntmps26 ?_; intro A hA Q hQ; simp [Link.enc, *]))
     refine regInc (a := x.from_) (b := x.out) (M := M) (v := (c : Int) + 1) rfl rfl rfl rfl rfl rfl rfl rfl rfl rfl (by decide +kernel) Tryz.ntmps26 (by kernel_rfl) rfl rfl rfl rfl (by decide) (by rw [hvl]; exact wc.symm) ?_
     simp only [keP, Nat.zero_add]
     repeat' (first | apply WK.s | refine WK.cT rfl ?_ | (apply hQ.h; clear hQ hA) | (refine WK.R Tryz.ntmps26 ?_; intro A hA Q hQ; simp [Link.enc, *]) | (refine RunQ.g rfl (by rw [hA.h]; rfl) ?_; simp [Link.enc, *]) | (refine RunQ.lookup (k := (x.from_, x.out)) mpOkP rfl rfl rfl rfl rfl rfl ?_; refine RunQ.evalH ?_; simp [Link.enc, *]) | (refine RunQW.k rfl rfl rfl rfl ?_ (t1) ?_ ?_ <;> simp (config := zd) [Link.enc, *] <;> refine ⟨?_⟩) | (refine RunQW.k rfl rfl rfl rfl ?_ (t2) ?_ ?_ <;> simp (config := zd) [Link.enc, *] <;> refine ⟨?_⟩) | (refine RunQW.k rfl rfl rfl rfl ?_ (p1) ?_ ?_ <;> simp (config := zd) [Link.enc, *] <;> refine ⟨?_⟩) | (refine WK.t Tryz.func26 ?_ ?_ <;> simp (config := zd) [Tryz.results26, Link.enc, *]))
   cases b4
   · have e := hno rfl
     subst e
     clear hno hst IH hsn htk
     repeat' (first | apply WK.s | apply WK.b | apply WK.k | refine WK.cT rfl ?_ | (apply hQ.h; clear hQ hA) | (refine WK.R (id := 0) Tryz.ntmps26 ?_; intro A hA Q hQ; simp [Link.enc, *]) | (refine WK.R (id := 1) Tryz.ntmps26 ?_; intro A hA Q hQ; simp [Link.enc, *]) | (refine WK.R (id := 2) Tryz.ntmps26 ?_; intro A hA Q hQ; simp [Link.enc, *]) | (refine WK.R (id := 3) Tryz.ntmps26 ?_; intro A hA Q hQ; simp [Link.enc, *]) | (refine WK.R (id := 4) Tryz.ntmps26 ?_; intro A hA Q hQ; simp [Link.enc, *]) | (refine WK.R (id := 5) Tryz.ntmps26 ?_; intro A hA Q hQ; simp [Link.enc, *]) | (refine WK.R (id := 6) Tryz.ntmps26 ?_; intro A hA Q hQ; simp [Link.enc, *]))
     refine regInc (a := x.from_) (b := x.out) (M := M) (v := (c : Int) + 1) rfl rfl rfl rfl rfl rfl rfl rfl rfl rfl (by decide +kernel) Tryz.ntmps26 (by kernel_rfl) rfl rfl rfl rfl (by decide) (by rw [hvl]; exact wc.symm) ?_
     simp only [keP, Nat.zero_add]
     repeat' (first | apply WK.s | refine WK.cT rfl ?_ | (apply hQ.h; clear hQ hA) | (refine WK.R Tryz.ntmps26 ?_; intro A hA Q hQ; simp [Link.enc, *]) | (refine RunQ.g rfl (by rw [hA.h]; rfl) ?_; simp [Link.enc, *]) | (refine RunQ.lookup (k := (x.from_, x.out)) mpOkP rfl rfl rfl rfl rfl rfl ?_; refine RunQ.evalH ?_; simp [Link.enc, *]) | (refine RunQW.k rfl rfl rfl rfl ?_ (t1) ?_ ?_ <;> simp (config := zd) [Link.enc, *] <;> refine ⟨?_⟩) | (refine RunQW.k rfl rfl rfl rfl ?_ (t2) ?_ ?_ <;> simp (config := zd) [Link.enc, *] <;> refine ⟨?_⟩) | (refine RunQW.k rfl rfl rfl rfl ?_ (p1) ?_ ?_ <;> simp (config := zd) [Link.enc, *] <;> refine ⟨?_⟩) | (refine RunQW.k rfl rfl rfl rfl ?_ (p2) ?_ ?_ <;> simp (config := zd) [Link.enc, *] <;> refine ⟨?_⟩) | (refine WK.t Tryz.func26 ?_ ?_ <;> simp (config := zd) [Tryz.results26, Link.enc, *]))
   · have hst := hst rfl
     have hsn2 := hsn
     rw [List.map_take] at hsn2
     clear hno htk
     repeat' (first | apply WK.s | apply WK.b | apply WK.k | refine WK.cT rfl ?_ | (apply hQ.h; clear hQ hA) | (refine WK.R (id := 0) Tryz.ntmps26 ?_; intro A hA Q hQ; simp [Link.enc, *]) | (refine WK.R (id := 1) Tryz.ntmps26 ?_; intro A hA Q hQ; simp [Link.enc, *]) | (refine WK.R (id := 2) Tryz.ntmps26 ?_; intro A hA Q hQ; simp [Link.enc, *]) | (refine WK.R (id := 3) Tryz.ntmps26 ?_; intro A hA Q hQ; simp [Link.enc, *]) | (refine WK.R (id := 4) Tryz.ntmps26 ?_; intro A hA Q hQ; simp [Link.enc, *]) | (refine WK.R (id := 5) Tryz.ntmps26 ?_; intro A hA Q hQ; simp [Link.enc, *]) | (refine WK.R (id := 6) Tryz.ntmps26 ?_; intro A hA Q hQ; simp [Link.enc, *]))
     refine regInc (a := x.from_) (b := x.out) (M := M) (v := (c : Int) + 1) rfl rfl rfl rfl rfl rfl rfl rfl rfl rfl (by decide +kernel) Tryz.ntmps26 (by kernel_rfl) rfl rfl rfl rfl (by decide) (by rw [hvl]; exact wc.symm) ?_
     simp only [keP, Nat.zero_add]
     repeat' (first | apply WK.s | apply WK.n | apply WK.k | refine WK.cF rfl ?_ | (apply hQ.h; clear hQ hA) | (refine WK.R Tryz.ntmps26 ?_; intro A hA Q hQ; simp [Link.enc, *]) | (refine RunQ.g rfl (by rw [hA.h]; rfl) ?_; simp [Link.enc, *]) | (refine RunQ.lookup (k := (x.from_, x.out)) mpOkP rfl rfl rfl rfl rfl rfl ?_; refine RunQ.evalH ?_; simp [Link.enc, *]) | (refine RunQW.k rfl rfl rfl rfl ?_ (t1) ?_ ?_ <;> simp (config := zd) [Link.enc, *] <;> refine ⟨?_⟩) | (refine RunQW.k rfl rfl rfl rfl ?_ (t2) ?_ ?_ <;> simp (config := zd) [Link.enc, *] <;> refine ⟨?_⟩) | (refine RunQW.k rfl rfl rfl rfl ?_ (p1) ?_ ?_ <;> simp (config := zd) [Link.enc, *] <;> refine ⟨?_⟩) | (refine RunQW.k rfl rfl rfl rfl ?_ (p2) ?_ ?_ <;> simp (config := zd) [Link.enc, *] <;> refine ⟨?_⟩))
     refine WK.N (fun n => n) (IH (i + 1) (⟨by omega, hst⟩) (by first | omega | (dsimp only; omega))) (by repeat (first | exact TmW.nil | refine TmW.upd ?_ (by simp (config := zd) [hsc, hsn, hsn2]))) (by repeat (first | exact BxW.nil | refine BxW.upd ?_ (by simp (config := zd) [hsc, hsn, hsn2])))
 · have h1' : ¬ (i : Int) < L.length := by omega
   have e := ha (fun j hj => hi.2 j (by omega))
   subst e
   clear ha hno hJ ct cp IH hi hkl
   repeat' (first | apply WK.s | refine WK.exit rfl ?_ | refine WK.cF rfl ?_ | (apply hQ.h; clear hQ hA) | (refine WK.R Tryz.ntmps26 ?_; intro A hA Q hQ; simp [*]) | (refine WK.t Tryz.func26 ?_ ?_ <;> simp (config := zd) [Tryz.results26, *]))
theorem lright1_c (s : Switch) (hs : SwB s) : FnP Tryz.prog 27 [.agg s.enc] (.bool (!stRight s)) := by
 have c := stright_c s hs
 obtain ⟨b, hb⟩ : ∃ b, stRight s = b := ⟨_, rfl⟩
 rw [hb] at c ⊢
 have hcl := Switch.cl s
 have hl := Switch.len s
 obtain ⟨S, hS⟩ : ∃ S, s.enc = S := ⟨_, rfl⟩
 rw [hS] at c hcl hl ⊢
 have ht : S.take 5 = S := List.take_of_length_le (by omega)
 clear hb hS hs
 refine FnP.i Tryz.func27 rfl rfl fun G w => ?_
 repeat' (first | apply WK.s | (apply hQ.h; clear hQ hA) | (refine WK.R Tryz.ntmps27 ?_; intro A hA Q hQ; simp [*]) | (refine RunQ.k rfl rfl rfl rfl rfl ?_ (c) ?_ ?_ <;> simp (config := zd) [*] <;> refine ⟨?_⟩) | (refine WK.t Tryz.func27 ?_ ?_ <;> simp (config := zd) [Tryz.results27, *]))
theorem lright_c (n : Net) (hl : n.links.length ≤ 1000000) (hn : n.sws.length ≤ 1000000) (hs : ∀ s, s ∈ n.sws → SwB s) : FnP Tryz.prog 9 [.agg n.enc] (.bool (nRight n)) := by
 have cj := ljoins_c n hl
 have cs := containsf_sw 27 [] (fun s => !stRight s) n.sws (by simp) hn (fun x hx => lright1_c x (hs x hx))
 rw [any_not_all] at cs
 unfold nRight
 obtain ⟨b1, h1⟩ : ∃ b, nJoins n = b := ⟨_, rfl⟩
 obtain ⟨b2, h2⟩ : ∃ b, n.sws.all stRight = b := ⟨_, rfl⟩
 rw [h1] at cj ⊢
 rw [h2] at cs ⊢
 have e0 : n.enc = [swS n.sws, linkS n.links] := rfl
 rw [e0] at cj ⊢
 obtain ⟨S, hS, c1⟩ : ∃ S, swS n.sws = S ∧ Cl S = true := ⟨_, rfl, swS_cl _⟩
 obtain ⟨L, hL, c2⟩ : ∃ S, linkS n.links = S ∧ Cl S = true := ⟨_, rfl, linkS_cl _⟩
 rw [hS] at cj cs ⊢
 rw [hL] at cj ⊢
 clear h1 h2 e0 hS hL hs
 cases b1
 · clear cs
   refine FnP.i Tryz.func9 rfl rfl fun G w => ?_
   repeat' (first | apply WK.s | (apply hQ.h; clear hQ hA) | (refine WK.R Tryz.ntmps9 ?_; intro A hA Q hQ; simp [*]) | (refine RunQ.g rfl (by rw [hA.h]; rfl) ?_; simp [*]) | (refine RunQ.k rfl rfl rfl rfl rfl ?_ (cj) ?_ ?_ <;> simp (config := zd) [*] <;> refine ⟨?_⟩) | (refine WK.t Tryz.func9 ?_ ?_ <;> simp (config := zd) [Tryz.results9, *]))
 · refine FnP.i Tryz.func9 rfl rfl fun G w => ?_
   repeat' (first | apply WK.s | (apply hQ.h; clear hQ hA) | (refine WK.R Tryz.ntmps9 ?_; intro A hA Q hQ; simp [*]) | (refine RunQ.g rfl (by rw [hA.h]; rfl) ?_; simp [*]) | (refine RunQ.k rfl rfl rfl rfl rfl ?_ (cj) ?_ ?_ <;> simp (config := zd) [*] <;> refine ⟨?_⟩) | (refine RunQW.k rfl rfl rfl rfl ?_ (cs) ?_ ?_ <;> simp (config := zd) [*] <;> refine ⟨?_⟩) | (refine WK.t Tryz.func9 ?_ ?_ <;> simp (config := zd) [Tryz.results9, *]))

theorem plug_in {L : List Link} {i k : Nat} {p : Int × Int} (hk : k < i) (hi : i ≤ L.length) (h : (nth L k).plug = p) : p ∈ (L.take i).map Link.plug := by
 have h2 : k < (L.take i).length := by simp; omega
 rw [List.mem_map]
 refine ⟨(L.take i)[k], List.getElem_mem h2, ?_⟩
 rw [List.getElem_take, ← h, nth_eq (by omega)]
theorem plug_out {L : List Link} {i : Nat} {p : Int × Int} (hi : i ≤ L.length) (h : ∀ k, k < i → (nth L k).plug ≠ p) : ¬ p ∈ (L.take i).map Link.plug := by
 intro hm
 rw [List.mem_map] at hm
 obtain ⟨x, hx, e⟩ := hm
 obtain ⟨k, hk, rfl⟩ := List.getElem_of_mem hx
 have hk' : k < i := by simp at hk; omega
 refine h k hk' ?_
 rw [← e, List.getElem_take, nth_eq (by omega)]
theorem nRight_true {n : Net} (h1 : ∀ i, i < n.sws.length → stRight (nth n.sws i) = true) (h2 : ∀ i, i < n.links.length → nJoin1 n i = true) : nRight n = true := by
 unfold nRight
 rw [nJoins_true h2, Bool.true_and, List.all_eq_true]
 intro x hx
 obtain ⟨i, hi, rfl⟩ := List.getElem_of_mem hx
 rw [← nth_eq hi]; exact h1 i hi
theorem nRight_false1 {n : Net} {i : Nat} (hi : i < n.sws.length) (h : stRight (nth n.sws i) = false) : nRight n = false := by
 unfold nRight
 rw [Bool.and_eq_false_iff]; right
 rw [List.all_eq_false]; exact ⟨_, nth_mem hi, by simp [h]⟩
theorem nRight_false2 {n : Net} {i : Nat} (hi : i < n.links.length) (h : nJoin1 n i = false) : nRight n = false := by
 unfold nRight
 rw [nJoins_false hi h]; rfl
set_option maxHeartbeats 4000000 in
set_option maxRecDepth 100000 in
theorem rlright_c (n : Net) (hl : n.links.length ≤ 1000000) (hn : n.sws.length ≤ 1000000) (hs : ∀ s, s ∈ n.sws → SwB s) : FnP Tryz.prog 10 [.agg n.enc] (.bool (nRight n)) := by
 have ct : ∀ x, FnP Tryz.prog 25 [.agg n.enc, .int .i64 x] (.bool (nThere n x)) := fun x => rlthere_c n x
 have cp := rlport_c
 have cs : ∀ i, i < n.sws.length → FnP Tryz.prog 29 [.agg (nth n.sws i).enc] (.bool (stRight (nth n.sws i))) := fun i hi => rstright_c _ (hs _ (nth_mem hi))
 have ha := nRight_true (n := n)
 have hno1 := fun {i : Nat} => nRight_false1 (n := n) (i := i)
 have hno2 := fun {i : Nat} => nRight_false2 (n := n) (i := i)
 have hJ : ∀ i, nJoin1 n i = (!(decide ((nth n.links i).plug ∈ (n.links.take i).map Link.plug)) && (nThere n (nth n.links i).from_ && (nThere n (nth n.links i).to_ && (nPort (nth n.links i).out && nPort (nth n.links i).inn)))) := fun _ => rfl
 obtain ⟨R, hR⟩ : ∃ R, nRight n = R := ⟨_, rfl⟩
 rw [hR] at ha ⊢
 simp only [hR] at hno1 hno2
 have e0 : n.enc = [swS n.sws, linkS n.links] := rfl
 rw [e0] at ct ⊢
 obtain ⟨Jn, hJe⟩ : ∃ Jn : Nat → Bool, ∀ i, nJoin1 n i = Jn i := ⟨_, fun _ => rfl⟩
 obtain ⟨Th, hTh⟩ : ∃ Th : Int → Bool, ∀ x, nThere n x = Th x := ⟨_, fun _ => rfl⟩
 obtain ⟨Po, hPo⟩ : ∃ Po : Int → Bool, ∀ x, nPort x = Po x := ⟨_, fun _ => rfl⟩
 obtain ⟨Sr, hSr⟩ : ∃ Sr : Switch → Bool, ∀ x, stRight x = Sr x := ⟨_, fun _ => rfl⟩
 simp only [hJe] at ha hno2 hJ
 simp only [hTh] at ct hJ
 simp only [hPo] at cp hJ
 simp only [hSr] at cs ha hno1
 clear hR e0 hJe hTh hPo hSr hs
 obtain ⟨S, L⟩ := n
 simp only at *
 unfold linkS swS at *
 refine FnP.i Tryz.func10 rfl rfl fun G w => ?_
 repeat' (first | apply WK.s | apply WK.b | (apply hQ.h; clear hQ hA) | (refine WK.R Tryz.ntmps10 ?_; intro A hA Q hQ; simp [*]))
 refine WK.L (fun n => n) (fun i : Nat => (⟨(upd (upd J 1 (.ptr 0 0)) 3 (.int .i64 i)), (upd B0 0 (.var [.sl false S.length (swL S), .sl false L.length (linkL L)])), 0⟩ : St)) (fun i => i ≤ S.length ∧ ∀ j, j < i → Sr (nth S j) = true) (fun i => S.length - i) (0) (by repeat (first | exact TmW.nil | refine TmW.upd ?_ (by simp (config := zd)))) (by repeat (first | exact BxW.nil | refine BxW.upd ?_ (by simp (config := zd)))) (⟨by omega, by simp⟩) (fun i hi IH => ?_)
 by_cases h1 : i < S.length
 · have h1' : (i : Int) < S.length := by omega
   have h6 : IntKind.i64.wrap ((i : Int) + 1) = i + 1 := wrap_i64 (by omega) (by omega)
   obtain ⟨h4, h3⟩ := sw_load S i h1
   have hi2 := hi.2
   have hno := hno1 (i := i) h1
   have hst : Sr (nth S i) = true → ∀ j, j < i + 1 → Sr (nth S j) = true := fun h j hj => by
     by_cases h7 : j = i
     · subst h7; exact h
     · exact hi2 j (by omega)
   have c := cs i h1
   obtain ⟨x, hx⟩ : ∃ x, nth S i = x := ⟨_, rfl⟩
   rw [hx] at h4 hno hst c
   have hxl := Switch.len x
   have hxc := Switch.cl x
   obtain ⟨X, hX⟩ : ∃ X, x.enc = X := ⟨_, rfl⟩
   rw [hX] at h4 c hxl hxc
   have hxt : X.take 5 = X := List.take_of_length_le (by omega)
   obtain ⟨b, hb⟩ : ∃ b, Sr x = b := ⟨_, rfl⟩
   rw [hb] at c hno hst
   clear hb hX hx ha hno1 hno2 hJ ct cp cs hi
   cases b
   · have e := hno rfl
     subst e
     clear hst IH hno
     repeat' (first | apply WK.s | apply WK.b | apply WK.k | refine WK.cT rfl ?_ | (apply hQ.h; clear hQ hA) | (refine WK.R Tryz.ntmps10 ?_; intro A hA Q hQ; simp [*]) | (refine RunQ.k rfl rfl rfl rfl rfl ?_ (c) ?_ ?_ <;> simp (config := zd) [*] <;> refine ⟨?_⟩) | (refine WK.t Tryz.func10 ?_ ?_ <;> simp (config := zd) [Tryz.results10, *]))
   · have hst := hst rfl
     clear hno
     repeat' (first | apply WK.s | apply WK.b | apply WK.n | apply WK.k | refine WK.cT rfl ?_ | refine WK.cF rfl ?_ | (apply hQ.h; clear hQ hA) | (refine WK.R Tryz.ntmps10 ?_; intro A hA Q hQ; simp [*]) | (refine RunQ.k rfl rfl rfl rfl rfl ?_ (c) ?_ ?_ <;> simp (config := zd) [*] <;> refine ⟨?_⟩))
     refine WK.N (fun n => n) (IH (i + 1) (⟨by omega, hst⟩) (by first | omega | (dsimp only; omega)))
 have h1' : ¬ (i : Int) < S.length := by omega
 have ha := ha (fun j hj => hi.2 j (by omega))
 clear hno1 IH hi cs
 repeat' (first | apply WK.s | apply WK.b | refine WK.exit rfl ?_ | refine WK.cF rfl ?_ | (apply hQ.h; clear hQ hA) | (refine WK.R Tryz.ntmps10 ?_; intro A hA Q hQ; simp [*]))
 refine WK.L (fun n => n) (fun i : Nat => (⟨(upd (upd J 1 (.ptr 0 0)) 4 (.int .i64 i)), (upd B0 0 (.var [.sl false S.length (swL S), .sl false L.length (linkL L)])), 0⟩ : St)) (fun i => i ≤ L.length ∧ ∀ j, j < i → Jn j = true) (fun i => L.length - i) (0) (by repeat (first | exact TmW.nil | refine TmW.upd ?_ (by simp (config := zd)))) (by repeat (first | exact BxW.nil | refine BxW.upd ?_ (by simp (config := zd)))) (⟨by omega, by simp⟩) (fun i hi IH => ?_)
 by_cases h1 : i < L.length
 · have h1' : (i : Int) < L.length := by omega
   have h6 : IntKind.i64.wrap ((i : Int) + 1) = i + 1 := wrap_i64 (by omega) (by omega)
   obtain ⟨h4, h3⟩ := link_load L i h1
   have hi2 := hi.2
   have hno := hno2 (i := i) h1
   have hst : Jn i = true → ∀ j, j < i + 1 → Jn j = true := fun h j hj => by
     by_cases h7 : j = i
     · subst h7; exact h
     · exact hi2 j (by omega)
   rw [hJ] at hno hst
   have p1 := cp (nth L i).out
   have p2 := cp (nth L i).inn
   have t1 := ct (nth L i).from_
   have t2 := ct (nth L i).to_
   have hpe : (nth L i).plug = ((nth L i).from_, (nth L i).out) := rfl
   have hin := fun {k : Nat} (h : k < i) => plug_in (L := L) (p := (nth L i).plug) h (by omega)
   have hout := plug_out (L := L) (p := (nth L i).plug) (i := i) (by omega)
   obtain ⟨x, hx⟩ : ∃ x, nth L i = x := ⟨_, rfl⟩
   rw [hx] at h4 hno hst p1 p2 t1 t2 hpe hout
   simp only [hx] at hin
   obtain ⟨b1, e1⟩ : ∃ b, Th x.from_ = b := ⟨_, rfl⟩
   obtain ⟨b2, e2⟩ : ∃ b, Th x.to_ = b := ⟨_, rfl⟩
   obtain ⟨b3, e3⟩ : ∃ b, Po x.out = b := ⟨_, rfl⟩
   obtain ⟨b4, e4⟩ : ∃ b, Po x.inn = b := ⟨_, rfl⟩
   rw [e1] at t1 hno hst
   rw [e2] at t2 hno hst
   rw [e3] at p1 hno hst
   rw [e4] at p2 hno hst
   clear e1 e2 e3 e4 hx hJ ct cp hi ha hno2
   cases b1
   · have e := hno (by simp)
     subst e
     clear hno hst IH t2 p1 p2 hin hout hpe
     repeat' (first | apply WK.s | apply WK.b | apply WK.k | refine WK.cT rfl ?_ | (apply hQ.h; clear hQ hA) | (refine WK.R Tryz.ntmps10 ?_; intro A hA Q hQ; simp [Link.enc, *]) | (refine RunQ.g rfl (by rw [hA.h]; rfl) ?_; simp [Link.enc, *]) | (refine RunQ.k rfl rfl rfl rfl rfl ?_ (t1) ?_ ?_ <;> simp (config := zd) [Link.enc, *] <;> refine ⟨?_⟩) | (refine WK.t Tryz.func10 ?_ ?_ <;> simp (config := zd) [Tryz.results10, Link.enc, *]))
   cases b2
   · have e := hno (by simp)
     subst e
     clear hno hst IH p1 p2 hin hout hpe
     repeat' (first | apply WK.s | apply WK.b | apply WK.k | refine WK.cT rfl ?_ | (apply hQ.h; clear hQ hA) | (refine WK.R Tryz.ntmps10 ?_; intro A hA Q hQ; simp [Link.enc, *]) | (refine RunQ.g rfl (by rw [hA.h]; rfl) ?_; simp [Link.enc, *]) | (refine RunQ.k rfl rfl rfl rfl rfl ?_ (t1) ?_ ?_ <;> simp (config := zd) [Link.enc, *] <;> refine ⟨?_⟩) | (refine RunQ.k rfl rfl rfl rfl rfl ?_ (t2) ?_ ?_ <;> simp (config := zd) [Link.enc, *] <;> refine ⟨?_⟩) | (refine RunQW.k rfl rfl rfl rfl ?_ (t1) ?_ ?_ <;> simp (config := zd) [Link.enc, *] <;> refine ⟨?_⟩) | (refine RunQW.k rfl rfl rfl rfl ?_ (t2) ?_ ?_ <;> simp (config := zd) [Link.enc, *] <;> refine ⟨?_⟩) | (refine WK.t Tryz.func10 ?_ ?_ <;> simp (config := zd) [Tryz.results10, Link.enc, *]))
   cases b3
   · have e := hno (by simp)
     subst e
     clear hno hst IH p2 hin hout hpe
     repeat' (first | apply WK.s | apply WK.b | apply WK.k | refine WK.cT rfl ?_ | (apply hQ.h; clear hQ hA) | (refine WK.R Tryz.ntmps10 ?_; intro A hA Q hQ; simp [Link.enc, *]) | (refine RunQ.g rfl (by rw [hA.h]; rfl) ?_; simp [Link.enc, *]) | (refine RunQ.k rfl rfl rfl rfl rfl ?_ (t1) ?_ ?_ <;> simp (config := zd) [Link.enc, *] <;> refine ⟨?_⟩) | (refine RunQ.k rfl rfl rfl rfl rfl ?_ (t2) ?_ ?_ <;> simp (config := zd) [Link.enc, *] <;> refine ⟨?_⟩) | (refine RunQW.k rfl rfl rfl rfl ?_ (t1) ?_ ?_ <;> simp (config := zd) [Link.enc, *] <;> refine ⟨?_⟩) | (refine RunQW.k rfl rfl rfl rfl ?_ (t2) ?_ ?_ <;> simp (config := zd) [Link.enc, *] <;> refine ⟨?_⟩) | (refine RunQW.k rfl rfl rfl rfl ?_ (p1) ?_ ?_ <;> simp (config := zd) [Link.enc, *] <;> refine ⟨?_⟩) | (refine WK.t Tryz.func10 ?_ ?_ <;> simp (config := zd) [Tryz.results10, Link.enc, *]))
   cases b4
   · have e := hno (by simp)
     subst e
     clear hno hst IH hin hout hpe
     repeat' (first | apply WK.s | apply WK.b | apply WK.k | refine WK.cT rfl ?_ | (apply hQ.h; clear hQ hA) | (refine WK.R Tryz.ntmps10 ?_; intro A hA Q hQ; simp [Link.enc, *]) | (refine RunQ.g rfl (by rw [hA.h]; rfl) ?_; simp [Link.enc, *]) | (refine RunQ.k rfl rfl rfl rfl rfl ?_ (t1) ?_ ?_ <;> simp (config := zd) [Link.enc, *] <;> refine ⟨?_⟩) | (refine RunQ.k rfl rfl rfl rfl rfl ?_ (t2) ?_ ?_ <;> simp (config := zd) [Link.enc, *] <;> refine ⟨?_⟩) | (refine RunQW.k rfl rfl rfl rfl ?_ (t1) ?_ ?_ <;> simp (config := zd) [Link.enc, *] <;> refine ⟨?_⟩) | (refine RunQW.k rfl rfl rfl rfl ?_ (t2) ?_ ?_ <;> simp (config := zd) [Link.enc, *] <;> refine ⟨?_⟩) | (refine RunQW.k rfl rfl rfl rfl ?_ (p1) ?_ ?_ <;> simp (config := zd) [Link.enc, *] <;> refine ⟨?_⟩) | (refine RunQW.k rfl rfl rfl rfl ?_ (p2) ?_ ?_ <;> simp (config := zd) [Link.enc, *] <;> refine ⟨?_⟩) | (refine WK.t Tryz.func10 ?_ ?_ <;> simp (config := zd) [Tryz.results10, Link.enc, *]))
   have hno := fun h => hno (by rw [decide_eq_true h]; rfl)
   have hst := fun h => hst (by rw [decide_eq_false h]; rfl)
   repeat' (first | apply WK.s | apply WK.b | apply WK.k | refine WK.cT rfl ?_ | refine WK.cF rfl ?_ | (apply hQ.h; clear hQ hA) | (refine WK.R Tryz.ntmps10 ?_; intro A hA Q hQ; simp [Link.enc, *]) | (refine RunQ.g rfl (by rw [hA.h]; rfl) ?_; simp [Link.enc, *]) | (refine RunQ.k rfl rfl rfl rfl rfl ?_ (t1) ?_ ?_ <;> simp (config := zd) [Link.enc, *] <;> refine ⟨?_⟩) | (refine RunQ.k rfl rfl rfl rfl rfl ?_ (t2) ?_ ?_ <;> simp (config := zd) [Link.enc, *] <;> refine ⟨?_⟩) | (refine RunQW.k rfl rfl rfl rfl ?_ (t1) ?_ ?_ <;> simp (config := zd) [Link.enc, *] <;> refine ⟨?_⟩) | (refine RunQW.k rfl rfl rfl rfl ?_ (t2) ?_ ?_ <;> simp (config := zd) [Link.enc, *] <;> refine ⟨?_⟩) | (refine RunQW.k rfl rfl rfl rfl ?_ (p1) ?_ ?_ <;> simp (config := zd) [Link.enc, *] <;> refine ⟨?_⟩) | (refine RunQW.k rfl rfl rfl rfl ?_ (p2) ?_ ?_ <;> simp (config := zd) [Link.enc, *] <;> refine ⟨?_⟩))
   refine WK.L (fun n => if n = 1 then 105 else n) (fun j : Nat => (⟨(upd (upd (upd (upd J 1 (.ptr 0 0)) 4 (.int .i64 i)) 5 (.ptr 1 0)) 6 (.int .i64 j)), (upd (upd B0 0 (.var [.sl false S.length (swL S), .sl false L.length (linkL L)])) 1 (.var [.int .i64 x.from_, .int .i64 x.out, .int .i64 x.to_, .int .i64 x.inn])), 0⟩ : St)) (fun j => j ≤ i ∧ ∀ k, k < j → (nth L k).plug ≠ x.plug) (fun j => i - j) (0) (by repeat (first | exact TmW.nil | refine TmW.upd ?_ (by simp (config := zd)))) (by repeat (first | exact BxW.nil | refine BxW.upd ?_ (by simp (config := zd)))) (⟨by omega, by simp⟩) (fun j hj IHj => ?_)
   by_cases g1 : j < i
   · have g1' : (j : Int) < i := by omega
     have g6 : IntKind.i64.wrap ((j : Int) + 1) = j + 1 := wrap_i64 (by omega) (by omega)
     have gL : (j : Int) < L.length := by omega
     have q0 := link_get0 L j (by omega)
     have q1 := link_get1 L j (by omega)
     have r0 : j * 4 < L.length * 4 := by omega
     have r1 : j * 4 + 1 < L.length * 4 := by omega
     have hj2 := hj.2
     have hsj : (nth L j).plug ≠ x.plug → ∀ k, k < j + 1 → (nth L k).plug ≠ x.plug := fun h k hk => by
       by_cases h7 : k = j
       · subst h7; exact h
       · exact hj2 k (by omega)
     have hin := hin g1
     have hpy : (nth L j).plug = ((nth L j).from_, (nth L j).out) := rfl
     obtain ⟨y, hy⟩ : ∃ y, nth L j = y := ⟨_, rfl⟩
     simp only [hy] at q0 q1 hsj hin hpy
     clear hy h4 h3 hst hout hj hi2 hj2
     cases k1 : (y.from_ == x.from_)
     · have hsj := hsj (by rw [hpy, hpe]; simp at k1; simp [k1])
       clear hno hin IH
       repeat' (first | apply WK.s | apply WK.b | apply WK.n | apply WK.k | refine WK.cT rfl ?_ | refine WK.cF rfl ?_ | (refine hQ.h _ _ ?_; clear hQ hA) | (refine WK.R Tryz.ntmps10 ?_; intro A hA Q hQ; simp [*]) | (refine WK.X Tryz.ntmps10 ?_; intro A hA Q hQ; simp [*]) | (refine hQ.h _ _ _ (by decide +kernel) ?_; clear hQ hA) | (refine RunX.gd rfl (by rw [hA.h]; rfl) ?_; simp [*]))
       refine WK.N (fun n => n) (IHj (j + 1) (⟨by omega, hsj⟩) (by first | omega | (dsimp only; omega)))
     cases k2 : (y.out == x.out)
     · have hsj := hsj (by rw [hpy, hpe]; simp at k2; simp [k2])
       clear hno hin IH
       repeat' (first | apply WK.s | apply WK.b | apply WK.n | apply WK.k | refine WK.cT rfl ?_ | refine WK.cF rfl ?_ | (refine hQ.h _ _ ?_; clear hQ hA) | (refine WK.R Tryz.ntmps10 ?_; intro A hA Q hQ; simp [*]) | (refine WK.X Tryz.ntmps10 ?_; intro A hA Q hQ; simp [*]) | (refine hQ.h _ _ _ (by decide +kernel) ?_; clear hQ hA) | (refine RunX.gd rfl (by rw [hA.h]; rfl) ?_; simp [*]))
       refine WK.N (fun n => n) (IHj (j + 1) (⟨by omega, hsj⟩) (by first | omega | (dsimp only; omega)))
     · have e := hno (hin (by rw [hpy, hpe]; simp at k1 k2; simp [k1, k2]))
       subst e
       clear hno hsj IH IHj hin
       repeat' (first | apply WK.s | apply WK.b | apply WK.k | refine WK.cT rfl ?_ | (refine hQ.h _ _ ?_; clear hQ hA) | (refine WK.R Tryz.ntmps10 ?_; intro A hA Q hQ; simp [*]) | (refine WK.X Tryz.ntmps10 ?_; intro A hA Q hQ; simp [*]) | (refine hQ.h _ _ _ (by decide +kernel) ?_; clear hQ hA) | (refine RunX.gd rfl (by rw [hA.h]; rfl) ?_; simp [*]) | (refine WK.t Tryz.func10 ?_ ?_ <;> simp (config := zd) [Tryz.results10, *]))
   · have g1' : ¬ (j : Int) < i := by omega
     have hst := hst (hout (fun k hk => hj.2 k (by omega)))
     clear IHj hno hin hout hj hi2
     repeat' (first | apply WK.s | apply WK.n | refine WK.exit rfl ?_ | refine WK.cF rfl ?_ | (apply hQ.h; clear hQ hA) | (refine WK.R Tryz.ntmps10 ?_; intro A hA Q hQ; simp [*]))
     refine WK.N (fun n => n) (IH (i + 1) (⟨by omega, hst⟩) (by first | omega | (dsimp only; omega)))
 · have h1' : ¬ (i : Int) < L.length := by omega
   have e := ha (fun j hj => hi.2 j (by omega))
   subst e
   clear ha hJ ct cp IH hi hno2
   repeat' (first | apply WK.s | refine WK.exit rfl ?_ | refine WK.cF rfl ?_ | (apply hQ.h; clear hQ hA) | (refine WK.R Tryz.ntmps10 ?_; intro A hA Q hQ; simp [*]) | (refine WK.t Tryz.func10 ?_ ?_ <;> simp (config := zd) [Tryz.results10, *]))
def nGroups (l : List Switch) : List Group := l.flatMap Switch.groups
theorem nGroups_succ {l : List Switch} {i : Nat} (h : i < l.length) : nGroups (l.take (i + 1)) = nGroups (l.take i) ++ (nth l i).groups := by unfold nGroups; rw [take_nth h, List.flatMap_append]; simp
theorem nGroups_le (l : List Switch) (m : Nat) (h : ∀ s, s ∈ l → s.groups.length ≤ m) : (nGroups l).length ≤ l.length * m := by
 induction l with
 | nil => simp [nGroups]
 | cons x t ih =>
   have := ih (fun s hs => h s (by simp [hs]))
   have hx := h x (by simp)
   unfold nGroups at *
   rw [List.flatMap_cons, List.length_append, List.length_cons, Nat.add_mul]
   omega
theorem gFind_drop (l : List Group) (i : Nat) (h : i < l.length) : gFind (l.drop i) (nth l i).id = (nth l i, true) := by
 rw [List.drop_eq_getElem_cons h, nth_eq h]
 unfold gFind gAt
 rw [List.findIdx?_cons]
 simp [nth, h]
theorem grpL_drop (l : List Group) (i : Nat) (h : i ≤ l.length) : (grpL l).drop (i * 3) = grpL (l.drop i) := by
 conv => lhs; rw [← List.take_append_drop i l, grpL_app]
 have : (grpL (l.take i)).length = i * 3 := by rw [grpL_len, List.length_take]; omega
 rw [← this, List.drop_left]
set_option maxHeartbeats 4000000 in
set_option maxRecDepth 100000 in
theorem lgroups_c (n : Net) (hn : n.sws.length ≤ 1000) (hs : ∀ s, s ∈ n.sws → s.groups.length ≤ 1000 ∧ ∀ g, g ∈ s.groups → GrB g) : FnP Tryz.prog 12 [.agg n.enc] (grpS (nGroups n.sws)) := by
 have hi0 : nGroups [] = [] := rfl
 have e0 : n.enc = [swS n.sws, linkS n.links] := rfl
 rw [e0]
 obtain ⟨S, L⟩ := n
 simp only at *
 obtain ⟨L, hL, hLc⟩ : ∃ l, linkS L = l ∧ Cl l = true := ⟨_, rfl, linkS_cl _⟩
 rw [hL]
 clear e0 hL
 unfold swS grpS
 refine FnP.i Tryz.func12 rfl rfl fun G w => ?_
 repeat' (first | apply WK.s | (apply hQ.h; clear hQ hA) | (refine WK.R (id := 0) Tryz.ntmps12 ?_; intro A hA Q hQ; simp [*]) | (refine WK.R (id := 1) Tryz.ntmps12 ?_; intro A hA Q hQ; simp [*]))
 refine WK.ghost (Ghost.own 3 900 3 rfl rfl) ?_
 repeat' (first | apply WK.b | (apply hQ.h; clear hQ hA) | (refine WK.R Tryz.ntmps12 ?_; intro A hA Q hQ; simp [*]))
 refine WK.L (fun n => if n = 1 then 900 else n) (fun i : Nat => (⟨(upd (upd (upd (upd J 3 (.msl 1 0 (nGroups (S.take i)).length)) 11 (.sl false S.length (swL S))) 12 (.int .i64 S.length)) 13 (.int .i64 i)), (upd B0 1 (.buf 3 (grpL (nGroups (S.take i))))), 0⟩ : St)) (fun i => i ≤ S.length) (fun i => S.length - i) (0) (by repeat (first | exact TmW.nil | refine TmW.upd ?_ (by simp (config := zd) [hi0]))) (by repeat (first | exact BxW.nil | refine BxW.upd ?_ (by simp (config := zd) [hi0]))) (by omega) (fun i hi IH => ?_)
 by_cases h1 : i < S.length
 · have h1' : (i : Int) < S.length := by omega
   have h6 : IntKind.i64.wrap ((i : Int) + 1) = i + 1 := wrap_i64 (by omega) (by omega)
   obtain ⟨h4, h3⟩ := sw_load S i h1
   have hx := hs _ (nth_mem h1)
   have hsu := nGroups_succ h1
   have hle := nGroups_le (S.take i) 1000 (fun s h => (hs s (List.mem_of_mem_take h)).1)
   have hl2 : (S.take i).length ≤ 1000 := by rw [List.length_take]; omega
   obtain ⟨N, hN⟩ : ∃ N, nGroups (S.take i) = N := ⟨_, rfl⟩
   obtain ⟨M, hM⟩ : ∃ N, nGroups (S.take (i + 1)) = N := ⟨_, rfl⟩
   have hNl : N.length ≤ 1000000 := by rw [hN] at hle; omega
   rw [hN, hM] at hsu
   rw [hN]
   have he : (nth S i).enc = [flowS ((nth S i).tab 0), flowS ((nth S i).tab 1), flowS ((nth S i).tab 2), flowS ((nth S i).tab 3), grpS (nth S i).groups] := rfl
   rw [he] at h4
   obtain ⟨gs, hgs⟩ : ∃ gs, (nth S i).groups = gs := ⟨_, rfl⟩
   rw [hgs] at hx hsu h4
   obtain ⟨T0, k0, c0⟩ : ∃ s, flowS ((nth S i).tab 0) = s ∧ Cl s = true := ⟨_, rfl, flowS_cl _⟩
   obtain ⟨T1, k1, c1⟩ : ∃ s, flowS ((nth S i).tab 1) = s ∧ Cl s = true := ⟨_, rfl, flowS_cl _⟩
   obtain ⟨T2, k2, c2⟩ : ∃ s, flowS ((nth S i).tab 2) = s ∧ Cl s = true := ⟨_, rfl, flowS_cl _⟩
   obtain ⟨T3, k3, c3⟩ : ∃ s, flowS ((nth S i).tab 3) = s ∧ Cl s = true := ⟨_, rfl, flowS_cl _⟩
   rw [k0, k1, k2, k3] at h4
   unfold grpS at h4
   obtain ⟨hgl, hgB⟩ := hx
   clear he hgs k0 k1 k2 k3 hle hl2 hs hN
   repeat' (first | apply WK.s | apply WK.b | apply WK.k | refine WK.cT rfl ?_ | (apply hQ.h; clear hQ hA) | (refine WK.R Tryz.ntmps12 ?_; intro A hA Q hQ; simp [*]))
   have hi0' : N ++ gs.take 0 = N := by simp
   refine WK.L (fun n => if n = 2 then 102 else n) (fun j : Nat => (⟨(upd (upd (upd (upd (upd (upd (upd (upd J 3 (.msl 1 0 (N ++ gs.take j).length)) 5 (.ptr 2 0)) 11 (.sl false S.length (swL S))) 12 (.int .i64 S.length)) 13 (.int .i64 i)) 18 (.sl false gs.length (grpL gs))) 19 (.int .i64 gs.length)) 20 (.int .i64 j)), (upd (upd B0 1 (.buf 3 (grpL (N ++ gs.take j)))) 2 (.var [T0, T1, T2, T3, .sl false gs.length (grpL gs)])), 0⟩ : St)) (fun j => j ≤ gs.length) (fun j => gs.length - j) (0) (by repeat (first | exact TmW.nil | refine TmW.upd ?_ (by simp (config := zd) [hi0', c0, c1, c2, c3]))) (by repeat (first | exact BxW.nil | refine BxW.upd ?_ (by simp (config := zd) [hi0', c0, c1, c2, c3]))) (by omega) (fun j hj IHj => ?_)
   by_cases g1 : j < gs.length
   · have g1' : (j : Int) < gs.length := by omega
     have g1'' : (j : Int) ≤ gs.length := by omega
     have g6 : IntKind.i64.wrap ((j : Int) + 1) = j + 1 := wrap_i64 (by omega) (by omega)
     obtain ⟨g4, g3⟩ := grp_load gs j g1
     have f := gfind_c (gs.drop j) (nth gs j).id (by rw [List.length_drop]; omega) (fun g hg => hgB g (List.mem_of_mem_drop hg))
     rw [gFind_drop gs j g1] at f
     simp only at f
     have hdt : ((grpL gs).drop (j * 3)).take ((gs.length - j) * 3) = grpL (gs.drop j) := by rw [grpL_drop gs j (by omega)]; exact List.take_of_length_le (by simp)
     have hdl : (gs.drop j).length = gs.length - j := List.length_drop
     unfold grpS at f
     rw [hdl] at f
     have hcl : ClL (grpL (gs.drop j)) = true := by simp
     have hsn : grpL (N ++ gs.take j) ++ (nth gs j).enc = grpL (N ++ gs.take (j + 1)) := by rw [take_nth g1, ← List.append_assoc, grpL_snoc]
     have hnl : (N ++ gs.take (j + 1)).length = (N ++ gs.take j).length + 1 := by rw [take_nth g1]; simp; omega
     have hml : (N ++ gs.take j).length ≤ 1001000 := by rw [List.length_append, List.length_take]; omega
     have hb : ((N ++ gs.take j).length + 1) * 40 ≤ 140737488355328 := by omega
     obtain ⟨K, hK⟩ : ∃ K, N ++ gs.take j = K := ⟨_, rfl⟩
     rw [hK] at hsn hnl hml hb ⊢
     obtain ⟨X, hX⟩ : ∃ X, nth gs j = X := ⟨_, rfl⟩
     rw [hX] at g4 f hsn
     obtain ⟨Y, hY⟩ : ∃ Y, gs.drop j = Y := ⟨_, rfl⟩
     rw [hY] at hdt hdl f hcl
     unfold Group.enc at *
     clear hK hX hY IH hsu hi hi0' hgB
     repeat' (first | apply WK.s | apply WK.b | apply WK.n | apply WK.k | refine WK.cT rfl ?_ | (refine hQ.h _ _ ?_; clear hQ hA) | (refine WK.R Tryz.ntmps12 ?_; intro A hA Q hQ; simp [*]) | (refine WK.X Tryz.ntmps12 ?_; intro A hA Q hQ; simp [*]) | (refine hQ.h _ _ _ (by decide +kernel) ?_; clear hQ hA) | (refine RunQ.append 901 app_grp rfl rfl rfl rfl rfl rfl rfl rfl rfl ?_ ?_ ?_ ?_ ?_; (focus first | omega | simp [*]; done); (focus first | omega | simp [*]; done); (focus first | omega | simp [*]; done); (focus first | omega | simp [*]; done); refine RunQ.evalH ?_; simp [*]) | (refine RunX.k rfl rfl rfl rfl ?_ (f) ?_ ?_ <;> simp (config := zd) [*] <;> refine ⟨?_⟩))
     refine WK.N (fun n => if n = 1 then 901 else n) (IHj (j + 1) (by omega) (by first | omega | (dsimp only; omega))) (by repeat (first | exact TmW.nil | refine TmW.upd ?_ (by simp (config := zd) [hsn, hnl, c0, c1, c2, c3]))) (by repeat (first | exact BxW.nil | refine BxW.upd ?_ (by simp (config := zd) [hsn, hnl, c0, c1, c2, c3])))
   · have hjl : j = gs.length := by omega
     have g1' : ¬ (j : Int) < gs.length := by omega
     subst hjl
     rw [List.take_length, ← hsu, ← hM]
     clear hM hsu IHj hgB hi0'
     repeat' (first | apply WK.s | apply WK.n | refine WK.exit rfl ?_ | refine WK.cF rfl ?_ | (apply hQ.h; clear hQ hA) | (refine WK.R Tryz.ntmps12 ?_; intro A hA Q hQ; simp [*]))
     refine WK.N (fun n => n) (IH (i + 1) (by omega) (by first | omega | (dsimp only; omega)))
 · have hil : i = S.length := by omega
   have h1' : ¬ (i : Int) < S.length := by omega
   subst hil
   rw [List.take_length]
   clear IH hi hi0 hs
   repeat' (first | apply WK.s | refine WK.exit rfl ?_ | refine WK.cF rfl ?_ | (apply hQ.h; clear hQ hA) | (refine WK.R Tryz.ntmps12 ?_; intro A hA Q hQ; simp [*]))
   have hft : (grpL (nGroups S)).take ((nGroups S).length * 3) = grpL (nGroups S) := List.take_of_length_le (by simp)
   refine WK.ghost (Ghost.frzSl 2 3 rfl rfl) ?_
   repeat' (first | (refine WK.t Tryz.func12 ?_ ?_ <;> simp (config := zd) [Tryz.results12, *]))
set_option maxHeartbeats 4000000 in
set_option maxRecDepth 100000 in
theorem rlgroups_c (n : Net) (hn : n.sws.length ≤ 1000) (hs : ∀ s, s ∈ n.sws → s.groups.length ≤ 1000) : FnP Tryz.prog 13 [.agg n.enc] (grpS (nGroups n.sws)) := by
 have hi0 : nGroups [] = [] := rfl
 have e0 : n.enc = [swS n.sws, linkS n.links] := rfl
 rw [e0]
 obtain ⟨S, L⟩ := n
 simp only at *
 obtain ⟨L, hL, hLc⟩ : ∃ l, linkS L = l ∧ Cl l = true := ⟨_, rfl, linkS_cl _⟩
 rw [hL]
 clear e0 hL
 unfold swS grpS
 refine FnP.i Tryz.func13 rfl rfl fun G w => ?_
 repeat' (first | apply WK.s | (apply hQ.h; clear hQ hA) | (refine WK.R (id := 0) Tryz.ntmps13 ?_; intro A hA Q hQ; simp [*]) | (refine WK.R (id := 1) Tryz.ntmps13 ?_; intro A hA Q hQ; simp [*]))
 refine WK.ghost (Ghost.own 3 900 3 rfl rfl) ?_
 repeat' (first | apply WK.b | (apply hQ.h; clear hQ hA) | (refine WK.R Tryz.ntmps13 ?_; intro A hA Q hQ; simp [*]))
 refine WK.L (fun n => if n = 1 then 900 else n) (fun i : Nat => (⟨(upd (upd (upd J 1 (.ptr 0 0)) 3 (.msl 1 0 (nGroups (S.take i)).length)) 4 (.int .i64 i)), (upd (upd B0 0 (.var [.sl false S.length (swL S), L])) 1 (.buf 3 (grpL (nGroups (S.take i))))), 0⟩ : St)) (fun i => i ≤ S.length) (fun i => S.length - i) (0) (by repeat (first | exact TmW.nil | refine TmW.upd ?_ (by simp (config := zd) [hi0, hLc]))) (by repeat (first | exact BxW.nil | refine BxW.upd ?_ (by simp (config := zd) [hi0, hLc]))) (by omega) (fun i hi IH => ?_)
 by_cases h1 : i < S.length
 · have h1' : (i : Int) < S.length := by omega
   have h6 : IntKind.i64.wrap ((i : Int) + 1) = i + 1 := wrap_i64 (by omega) (by omega)
   have hx := hs _ (nth_mem h1)
   have hsu := nGroups_succ h1
   have hle := nGroups_le (S.take i) 1000 (fun s h => hs s (List.mem_of_mem_take h))
   have hl2 : (S.take i).length ≤ 1000 := by rw [List.length_take]; omega
   have hk : i * 5 + 4 < (swL S).length := by rw [swL_len]; omega
   have hg := sw_get S i 4 h1 (by omega) hk
   have hg' : (swL S)[i * 5 + 4] = .sl false (nth S i).groups.length (grpL (nth S i).groups) := by rw [hg]; rfl
   have hk' : i * 5 + 4 < S.length * 5 := by omega
   obtain ⟨N, hN⟩ : ∃ N, nGroups (S.take i) = N := ⟨_, rfl⟩
   obtain ⟨M, hM⟩ : ∃ N, nGroups (S.take (i + 1)) = N := ⟨_, rfl⟩
   have hNl : N.length ≤ 1000000 := by rw [hN] at hle; omega
   rw [hN, hM] at hsu
   rw [hN]
   obtain ⟨gs, hgs⟩ : ∃ gs, (nth S i).groups = gs := ⟨_, rfl⟩
   rw [hgs] at hx hsu hg'
   have hb : (N.length + gs.length) * 40 ≤ 140737488355328 := by omega
   have hMl : M.length = N.length + gs.length := by rw [hsu, List.length_append]
   have hMi : grpL N ++ grpL gs = grpL M := by rw [hsu, grpL_app]
   clear hgs hle hl2 hs hN hg hsu hx
   repeat' (first | apply WK.s | apply WK.b | apply WK.n | apply WK.k | refine WK.cT rfl ?_ | (apply hQ.h; clear hQ hA) | (refine WK.R Tryz.ntmps13 ?_; intro A hA Q hQ; simp [*]) | (refine RunQ.append 901 app_grp rfl rfl rfl rfl rfl rfl rfl rfl rfl ?_ ?_ ?_ ?_ ?_; (focus first | omega | simp [*]; done); (focus first | omega | simp [*]; done); (focus first | omega | simp [*]; done); (focus first | omega | simp [*]; done); refine RunQ.evalH ?_; simp [*]))
   refine WK.N (fun n => if n = 1 then 901 else n) (IH (i + 1) (by omega) (by first | omega | (dsimp only; omega))) (by repeat (first | exact TmW.nil | refine TmW.upd ?_ (by simp (config := zd) [hMl, hMi, hM, hLc]))) (by repeat (first | exact BxW.nil | refine BxW.upd ?_ (by simp (config := zd) [hMl, hMi, hM, hLc])))
 · have hil : i = S.length := by omega
   have h1' : ¬ (i : Int) < S.length := by omega
   subst hil
   rw [List.take_length]
   clear IH hi hi0 hs
   repeat' (first | apply WK.s | refine WK.exit rfl ?_ | refine WK.cF rfl ?_ | (apply hQ.h; clear hQ hA) | (refine WK.R Tryz.ntmps13 ?_; intro A hA Q hQ; simp [*]))
   have hft : (grpL (nGroups S)).take ((nGroups S).length * 3) = grpL (nGroups S) := List.take_of_length_le (by simp)
   refine WK.ghost (Ghost.frzSl 2 3 rfl rfl) ?_
   repeat' (first | (refine WK.t Tryz.func13 ?_ ?_ <;> simp (config := zd) [Tryz.results13, *]))
end Go.Proofs.YtmhapglejjehbaaGreat

namespace Go.Proofs.YtmhapglejjehbaaGreat
open Go Go.AI Go.Proofs Go.Shelf
def sortRen : Go.Shelf.Ren := ⟨fun | 189 => 33 | 125 => 59 | 257 => 58 | 128 => 116 | 129 => 117 | 294 => 107 | 295 => 108 | 296 => 109 | 297 => 110 | 298 => 111 | 299 => 112 | 216 => 113 | 300 => 114 | 301 => 115 | 328 => 163 | 329 => 164 | 330 => 165 | 331 => 166 | 332 => 167 | 215 => 168 | 343 => 203 | n => n, fun | 28 => 34 | 3 => 3 | 46 => 104 | 0 => 0 | 51 => 147 | 53 => 78 | 4 => 4 | 183 => 140 | 182 => 139 | 131 => 144 | 5 => 5 | 9 => 9 | 218 => 194 | 222 => 198 | 228 => 220 | 229 => 221 | n => n, fun n => n⟩
theorem sortLays : Lays.n189 Tryz.prog sortRen := {
 mixed := by kernel_rfl
 f125 := Tryz.func59.trans (congrArg some (by kernel_rfl))
 f128 := Tryz.func116.trans (congrArg some (by kernel_rfl))
 f129 := Tryz.func117.trans (congrArg some (by kernel_rfl))
 f189 := Tryz.func33.trans (congrArg some (by kernel_rfl))
 f215 := Tryz.func168.trans (congrArg some (by kernel_rfl))
 f216 := Tryz.func113.trans (congrArg some (by kernel_rfl))
 f257 := Tryz.func58.trans (congrArg some (by kernel_rfl))
 f294 := Tryz.func107.trans (congrArg some (by kernel_rfl))
 f295 := Tryz.func108.trans (congrArg some (by kernel_rfl))
 f296 := Tryz.func109.trans (congrArg some (by kernel_rfl))
 f297 := Tryz.func110.trans (congrArg some (by kernel_rfl))
 f298 := Tryz.func111.trans (congrArg some (by kernel_rfl))
 f299 := Tryz.func112.trans (congrArg some (by kernel_rfl))
 f300 := Tryz.func114.trans (congrArg some (by kernel_rfl))
 f301 := Tryz.func115.trans (congrArg some (by kernel_rfl))
 f328 := Tryz.func163.trans (congrArg some (by kernel_rfl))
 f329 := Tryz.func164.trans (congrArg some (by kernel_rfl))
 f330 := Tryz.func165.trans (congrArg some (by kernel_rfl))
 f331 := Tryz.func166.trans (congrArg some (by kernel_rfl))
 f332 := Tryz.func167.trans (congrArg some (by kernel_rfl))
 f343 := Tryz.func203.trans (congrArg some (by kernel_rfl))
 t0 := Tryz.underlying0
 a0 := Tryz.isAgg0
 z0 := Tryz.sizeOf0
 v0 := Tryz.zeroValue0
 t3 := Tryz.underlying3
 a3 := Tryz.isAgg3
 z3 := Tryz.sizeOf3
 v3 := Tryz.zeroValue3
 t4 := Tryz.underlying4
 a4 := Tryz.isAgg4
 z4 := Tryz.sizeOf4
 v4 := Tryz.zeroValue4
 t5 := Tryz.underlying5
 a5 := Tryz.isAgg5
 z5 := Tryz.sizeOf5
 v5 := Tryz.zeroValue5
 t9 := Tryz.underlying9
 a9 := Tryz.isAgg9
 z9 := Tryz.sizeOf9
 v9 := Tryz.zeroValue9
 t28 := Tryz.underlying34
 a28 := Tryz.isAgg34
 z28 := Tryz.sizeOf34
 v28 := Tryz.zeroValue34
 t46 := Tryz.underlying104
 a46 := Tryz.isAgg104
 z46 := Tryz.sizeOf104
 v46 := Tryz.zeroValue104
 t51 := Tryz.underlying147
 a51 := Tryz.isAgg147
 z51 := Tryz.sizeOf147
 v51 := Tryz.zeroValue147
 t53 := Tryz.underlying78
 a53 := Tryz.isAgg78
 z53 := Tryz.sizeOf78
 v53 := Tryz.zeroValue78
 t131 := Tryz.underlying144
 a131 := Tryz.isAgg144
 z131 := Tryz.sizeOf144
 v131 := Tryz.zeroValue144
 t182 := Tryz.underlying139
 a182 := Tryz.isAgg139
 z182 := Tryz.sizeOf139
 v182 := Tryz.zeroValue139
 t183 := Tryz.underlying140
 a183 := Tryz.isAgg140
 z183 := Tryz.sizeOf140
 v183 := Tryz.zeroValue140
 t218 := Tryz.underlying194
 a218 := Tryz.isAgg194
 z218 := Tryz.sizeOf194
 v218 := Tryz.zeroValue194
 t222 := Tryz.underlying198
 a222 := Tryz.isAgg198
 z222 := Tryz.sizeOf198
 v222 := Tryz.zeroValue198
 t228 := Tryz.underlying220
 a228 := Tryz.isAgg220
 z228 := Tryz.sizeOf220
 v228 := Tryz.zeroValue220
 t229 := Tryz.underlying221
 a229 := Tryz.isAgg221
 z229 := Tryz.sizeOf221
 v229 := Tryz.zeroValue221 }
theorem sort_c (zs : List Int) (hl : zs.length ≤ 1000000) : FnB Tryz.prog 33 [.msl 0 0 zs.length] (.buf 1 (intL zs)) (.tup []) (.buf 1 (intL (zs.mergeSort fun x y => decide (x ≤ y)))) :=
 FnB.sortInt sortLays ⟨_, Tryz.func33, by kernel_rfl, by kernel_rfl⟩ zs hl
end Go.Proofs.YtmhapglejjehbaaGreat

namespace Go.Proofs.YtmhapglejjehbaaGreat
open Go Go.AI Go.Proofs
theorem mpPut_keys (es : List (Int × Int)) (k v : Int) : (mpPut es k v).map Prod.fst = if k ∈ es.map Prod.fst then es.map Prod.fst else es.map Prod.fst ++ [k] := by
 induction es with
 | nil => simp [mpPut]
 | cons x t ih =>
   rw [mpPut]
   by_cases h : k = x.1
   · simp [h]
   · rw [if_neg h, List.map_cons, ih, List.map_cons]
     simp only [List.mem_cons, h, false_or]
     split <;> simp
theorem mpSeen_keys (ks : List Int) : ((mpSeen ks).map Prod.fst).Nodup ∧ ∀ x, x ∈ (mpSeen ks).map Prod.fst ↔ x ∈ ks := by
 have : ∀ n, ∀ ks : List Int, ks.length = n → ((mpSeen ks).map Prod.fst).Nodup ∧ ∀ x, x ∈ (mpSeen ks).map Prod.fst ↔ x ∈ ks := by
   intro n
   induction n with
   | zero => intro ks h; have := List.eq_nil_of_length_eq_zero h; subst this; simp [mpSeen]
   | succ n ih =>
     intro ks h
     have hne : ks ≠ [] := fun e => by rw [e] at h; simp at h
     have e := List.dropLast_concat_getLast hne
     obtain ⟨a, b⟩ := ih ks.dropLast (by simp [h])
     rw [← e, mpSeen_snoc, mpPut_keys]
     split
     · rename_i hm
       refine ⟨a, fun x => ?_⟩
       rw [b x, List.mem_append, List.mem_singleton]
       exact ⟨.inl, fun h => h.elim id fun h => by rw [h]; exact (b _).1 hm⟩
     · rename_i hm
       refine ⟨?_, fun x => by rw [List.mem_append, List.mem_append, b x]⟩
       rw [List.nodup_append]
       exact ⟨a, by simp, fun x hx y hy => by simp only [List.mem_singleton] at hy; rintro rfl; subst hy; exact hm hx⟩
 exact this _ ks rfl
theorem asc_ext : ∀ (a b : List Int), a.Pairwise (· < ·) → b.Pairwise (· < ·) → (∀ x, x ∈ a ↔ x ∈ b) → a = b
 | [], [], _, _, _ => rfl
 | [], y :: b, _, _, h => absurd ((h y).2 (by simp)) (by simp)
 | x :: a, [], _, _, h => absurd ((h x).1 (by simp)) (by simp)
 | x :: a, y :: b, h1, h2, h => by
   rw [List.pairwise_cons] at h1 h2
   have hxy : x = y := by
     have e1 := (h x).1 (by simp)
     have e2 := (h y).2 (by simp)
     rw [List.mem_cons] at e1 e2
     rcases e1 with e1 | e1
     · exact e1
     · rcases e2 with e2 | e2
       · exact e2.symm
       · have := h2.1 x e1; have := h1.1 y e2; omega
   subst hxy
   rw [asc_ext a b h1.2 h2.2 fun z => ?_]
   constructor
   · intro hz
     have := (h z).1 (by simp [hz])
     rw [List.mem_cons] at this
     rcases this with rfl | this
     · have := h1.1 _ hz; omega
     · exact this
   · intro hz
     have := (h z).2 (by simp [hz])
     rw [List.mem_cons] at this
     rcases this with rfl | this
     · have := h2.1 _ hz; omega
     · exact this
def insP : List Int → Int → List Int
 | [], p => [p]
 | x :: t, p => if x < p then x :: insP t p else if x = p then x :: t else p :: x :: t
theorem insP_mem (out : List Int) (p x : Int) : x ∈ insP out p ↔ x ∈ out ∨ x = p := by
 induction out with
 | nil => simp [insP]
 | cons y t ih =>
   rw [insP]
   split
   · rw [List.mem_cons, ih, List.mem_cons, or_assoc]
   · split
     · rename_i h; subst h; constructor
       · exact .inl
       · rintro (h | rfl)
         · exact h
         · simp
     · simp only [List.mem_cons]
       constructor
       · rintro (h | h); exact .inr h; exact .inl h
       · rintro (h | h); exact .inr h; exact .inl h
theorem insP_asc (out : List Int) (p : Int) (h : out.Pairwise (· < ·)) : (insP out p).Pairwise (· < ·) := by
 induction out with
 | nil => simp [insP]
 | cons y t ih =>
   rw [List.pairwise_cons] at h
   rw [insP]
   split
   · rename_i h1
     rw [List.pairwise_cons]
     refine ⟨fun z hz => ?_, ih h.2⟩
     rcases (insP_mem _ _ _).1 hz with hz | rfl
     · exact h.1 z hz
     · exact h1
   · split
     · rw [List.pairwise_cons]; exact h
     · rw [List.pairwise_cons]
       refine ⟨fun z hz => ?_, by rw [List.pairwise_cons]; exact h⟩
       rw [List.mem_cons] at hz
       rcases hz with rfl | hz
       · omega
       · have := h.1 z hz; omega
theorem insP_at : ∀ (out : List Int) (p : Int) (k : Nat), k ≤ out.length → (∀ j, j < k → nth out j < p) → (k < out.length → p ≤ nth out k) → insP out p = if k < out.length ∧ nth out k = p then out else out.take k ++ p :: out.drop k
 | [], p, k, h, _, _ => by
   have : k = 0 := by simpa using h
   subst this; simp [insP]
 | x :: t, p, 0, h, h1, h2 => by
   have := h2 (by simp)
   have e : nth (x :: t) 0 = x := rfl
   rw [e] at this
   rw [insP, if_neg (by omega)]
   by_cases he : x = p
   · simp [he, nth]
   · simp [he, nth]
 | x :: t, p, k + 1, h, h1, h2 => by
   have h0 := h1 0 (by omega)
   have e : nth (x :: t) 0 = x := rfl
   rw [e] at h0
   have en : ∀ j, nth (x :: t) (j + 1) = nth t j := fun j => by simp [nth]
   rw [insP, if_pos h0, insP_at t p k (by simpa using h) (fun j hj => by rw [← en]; exact h1 _ (by omega)) (fun hk => by rw [← en]; exact h2 (by simpa using hk)), en]
   simp only [List.length_cons, Nat.add_lt_add_iff_right, List.take_succ_cons, List.drop_succ_cons]
   split <;> simp
def insAll (ps : List Int) : List Int := ps.foldl insP []
theorem insAll_snoc (ps : List Int) (p : Int) : insAll (ps ++ [p]) = insP (insAll ps) p := by simp [insAll]
theorem insAll_ok (ps : List Int) : (insAll ps).Pairwise (· < ·) ∧ ∀ x, x ∈ insAll ps ↔ x ∈ ps := by
 have : ∀ (ps out : List Int), out.Pairwise (· < ·) → (ps.foldl insP out).Pairwise (· < ·) ∧ ∀ x, x ∈ ps.foldl insP out ↔ x ∈ out ∨ x ∈ ps := by
   intro ps
   induction ps with
   | nil => intro out h; exact ⟨h, by simp⟩
   | cons p t ih =>
     intro out h
     obtain ⟨a, b⟩ := ih (insP out p) (insP_asc out p h)
     refine ⟨a, fun x => ?_⟩
     rw [List.foldl_cons, b x, insP_mem, List.mem_cons, or_assoc]
 obtain ⟨a, b⟩ := this ps [] List.Pairwise.nil
 exact ⟨a, fun x => by unfold insAll; rw [b x]; simp⟩
theorem insAll_len (ps : List Int) : (insAll ps).length ≤ ps.length := by
 have : ∀ (ps out : List Int), (ps.foldl insP out).length ≤ out.length + ps.length := by
   have hi : ∀ (out : List Int) (p : Int), (insP out p).length ≤ out.length + 1 := by
     intro out p
     induction out with
     | nil => simp [insP]
     | cons y t ih =>
       rw [insP]
       split
       · simpa using ih
       · split <;> simp
   intro ps
   induction ps with
   | nil => simp
   | cons p t ih => intro out; have := ih (insP out p); have := hi out p; simp only [List.foldl_cons, List.length_cons]; omega
 simpa [insAll] using this ps []
theorem sorted_keys (ps : List Int) (vs : List Nat) (hn : vs.Nodup) (hs : ∀ v, v ∈ vs → v < (mpSeen ps).length) (ha : ∀ j, j < (mpSeen ps).length → j ∈ vs) :
   (vs.map fun v => (nth (mpSeen ps) v).1).mergeSort (fun x y => decide (x ≤ y)) = insAll ps := by
 obtain ⟨hk1, hk2⟩ := mpSeen_keys ps
 obtain ⟨E, hE⟩ : ∃ E, mpSeen ps = E := ⟨_, rfl⟩
 simp only [hE] at hk1 hk2 hs ha ⊢
 have hperm : vs.Perm (List.range E.length) := by
   rw [List.perm_ext_iff_of_nodup hn List.nodup_range]
   intro x; rw [List.mem_range]; exact ⟨hs x, ha x⟩
 have hmap : (List.range E.length).map (fun v => (nth E v).1) = E.map Prod.fst := by
   apply List.ext_getElem (by simp)
   intro i h1 h2
   have hi : i < E.length := by simpa using h2
   simp [nth, hi]
 have hp2 : (vs.map fun v => (nth E v).1).Perm (E.map Prod.fst) := by rw [← hmap]; exact hperm.map _
 have hp3 := (List.mergeSort_perm (vs.map fun v => (nth E v).1) (fun x y => decide (x ≤ y))).trans hp2
 have hsrt := List.pairwise_mergeSort (le := fun x y : Int => decide (x ≤ y)) (fun a b c h1 h2 => by simp only [decide_eq_true_eq] at *; omega) (fun a b => by simp only [Bool.or_eq_true, decide_eq_true_eq]; omega) (vs.map fun v => (nth E v).1)
 have hnd := hp3.nodup_iff.2 hk1
 obtain ⟨a, b⟩ := insAll_ok ps
 refine asc_ext _ _ ?_ a fun x => by rw [b x, ← hk2 x]; exact hp3.mem_iff
 have := hsrt.and hnd
 exact this.imp fun ⟨h1, h2⟩ => by simp only [decide_eq_true_eq] at h1; omega
end Go.Proofs.YtmhapglejjehbaaGreat

namespace Go.Proofs.YtmhapglejjehbaaGreat
open Go Go.AI Go.Proofs
attribute [local irreducible] FnP FnO FnB FnT WK RunQ RunQW RunX RunXW RunN
def pOf (L : List Link) (at_ : Int) : List Int := (L.filter fun l => l.from_ == at_).map Link.out
theorem pOf_yes {L : List Link} {at_ : Int} {i : Nat} (h : i < L.length) (h1 : ((nth L i).from_ == at_) = true) : pOf (L.take (i + 1)) at_ = pOf (L.take i) at_ ++ [(nth L i).out] := by
 unfold pOf; rw [take_nth h, List.filter_append, List.map_append]; simp [h1]
theorem pOf_no {L : List Link} {at_ : Int} {i : Nat} (h : i < L.length) (h1 : ((nth L i).from_ == at_) = false) : pOf (L.take (i + 1)) at_ = pOf (L.take i) at_ := by
 unfold pOf; rw [take_nth h, List.filter_append, List.map_append]; simp [h1]
theorem pOf_len (L : List Link) (at_ : Int) : (pOf L at_).length ≤ L.length := by
 unfold pOf; rw [List.length_map]; exact List.length_filter_le _ _
def nPorts (n : Net) (at_ : Int) : List Int := insAll (pOf n.links at_)
theorem mpSeen_len (ks : List Int) : (mpSeen ks).length ≤ ks.length := by
 have hp : ∀ (es : List (Int × Int)) (k v : Int), (mpPut es k v).length ≤ es.length + 1 := by
   intro es k v
   induction es with
   | nil => simp [mpPut]
   | cons x t ih => rw [mpPut]; split <;> simp <;> omega
 have : ∀ (ks : List Int) (es : List (Int × Int)), (ks.foldl (fun es k => mpPut es k (mpVal es k + 1)) es).length ≤ es.length + ks.length := by
   intro ks
   induction ks with
   | nil => intro es; simp
   | cons k t ih => intro es; have h1 := ih (mpPut es k (mpVal es k + 1)); have h2 := hp es k (mpVal es k + 1); simp only [List.foldl_cons, List.length_cons]; omega
 simpa [mpSeen] using this ks []
set_option maxHeartbeats 8000000 in
set_option maxRecDepth 100000 in
theorem lports_c (n : Net) (at_ : Int) (hl : n.links.length ≤ 1000000) : FnP Tryz.prog 15 [.agg n.enc, .int .i64 at_] (intS (nPorts n at_)) := by
 have hsk := fun vs => sorted_keys (pOf n.links at_) vs
 have hel := mpSeen_len (pOf n.links at_)
 have hpl := pOf_len n.links at_
 have e0 : n.enc = [swS n.sws, linkS n.links] := rfl
 unfold nPorts intS
 rw [e0]
 obtain ⟨S, L⟩ := n
 simp only at *
 obtain ⟨S, hS, hsc⟩ : ∃ s, swS S = s ∧ Cl s = true := ⟨_, rfl, swS_cl _⟩
 rw [hS]
 clear hS e0
 unfold linkS
 have hseen0 : mpObj [] = mpObj (mpSeen []) := rfl
 have hp0 : pOf [] at_ = [] := rfl
 refine FnP.i Tryz.func15 rfl rfl fun G w => ?_
 repeat' (first | apply WK.s | apply WK.b | (apply hQ.h; clear hQ hA) | (refine WK.R Tryz.ntmps15 ?_; intro A hA Q hQ; simp [*]) | (refine RunQ.makeMap 900 rfl rfl rfl ?_ ?_; (focus simp [*]; done); refine RunQ.evalH ?_; simp [*]))
 refine WK.L (fun n => if n = 1 then 900 else n) (fun i : Nat => (⟨(upd (upd (upd (upd (upd J 1 (.int .i64 at_)) 5 (.mv 1)) 12 (.sl false L.length (linkL L))) 13 (.int .i64 L.length)) 14 (.int .i64 i)), (upd B0 1 (.obj (mpObj (mpSeen (pOf (L.take i) at_))))), 0⟩ : St)) (fun i => i ≤ L.length) (fun i => L.length - i) (0) (by repeat (first | exact TmW.nil | refine TmW.upd ?_ (by simp (config := zd) [hseen0, hp0]))) (by repeat (first | exact BxW.nil | refine BxW.upd ?_ (by simp (config := zd) [hseen0, hp0]))) (by omega) (fun i hi IH => ?_)
 by_cases h1 : i < L.length
 · have h1' : (i : Int) < L.length := by omega
   have h6 : IntKind.i64.wrap ((i : Int) + 1) = i + 1 := wrap_i64 (by omega) (by omega)
   obtain ⟨h4, h3⟩ := link_load L i h1
   have hy := pOf_yes (at_ := at_) h1
   have hn := pOf_no (at_ := at_) h1
   have hll := pOf_len (L.take i) at_
   have hl2 : (L.take i).length ≤ 1000000 := by rw [List.length_take]; omega
   obtain ⟨x, hx⟩ : ∃ x, nth L i = x := ⟨_, rfl⟩
   rw [hx] at h4 hy hn
   obtain ⟨ks, hks⟩ : ∃ ks, pOf (L.take i) at_ = ks := ⟨_, rfl⟩
   obtain ⟨ks', hks'⟩ : ∃ ks, pOf (L.take (i + 1)) at_ = ks := ⟨_, rfl⟩
   rw [hks, hks'] at hy hn
   rw [hks] at hll ⊢
   clear hx hks hsk hel hpl
   cases k1 : (x.from_ == at_)
   · have hn := hn k1
     clear hy
     repeat' (first | apply WK.s | apply WK.b | apply WK.n | apply WK.k | refine WK.cT rfl ?_ | refine WK.cF rfl ?_ | (apply hQ.h; clear hQ hA) | (refine WK.R Tryz.ntmps15 ?_; intro A hA Q hQ; simp [Link.enc, *]))
     rw [hn] at hks'
     refine WK.N (fun n => n) (IH (i + 1) (by omega) (by first | omega | (dsimp only; omega))) (by repeat (first | exact TmW.nil | refine TmW.upd ?_ (by simp (config := zd) [hks']))) (by repeat (first | exact BxW.nil | refine BxW.upd ?_ (by simp (config := zd) [hks'])))
   · have hy := hy k1
     clear hn
     have hsn := mpSeen_snoc ks x.out
     obtain ⟨c, hvl, hcp, hcl⟩ : ∃ c : Nat, mpVal (mpSeen ks) x.out = c ∧ (0 < c ↔ x.out ∈ ks) ∧ c ≤ ks.length := mpSeen_in ks _
     rw [hvl] at hsn
     have wc : IntKind.i64.wrap ((c : Int) + 1) = c + 1 := wrap_i64 (by omega) (by omega)
     rw [← hy] at hsn
     obtain ⟨M, hM⟩ : ∃ M, mpSeen ks = M := ⟨_, rfl⟩
     rw [hM] at hvl hsn ⊢
     rw [← hks'] at hsn
     clear hM hcp hks' hy
     repeat' (first | apply WK.s | apply WK.b | apply WK.n | apply WK.k | refine WK.cT rfl ?_ | (apply hQ.h; clear hQ hA) | (refine WK.R Tryz.ntmps15 ?_; intro A hA Q hQ; simp [Link.enc, *]) | (refine RunQ.lookup mpOkInt rfl rfl rfl rfl rfl rfl ?_; refine RunQ.evalH ?_; simp [Link.enc, *]) | (refine RunQ.mapUpdate mpOkInt rfl rfl rfl rfl rfl rfl rfl ?_; refine RunQ.evalH ?_; simp [Link.enc, *]))
     refine WK.N (fun n => n) (IH (i + 1) (by omega) (by first | omega | (dsimp only; omega))) (by repeat (first | exact TmW.nil | refine TmW.upd ?_ (by simp (config := zd) [hsn]))) (by repeat (first | exact BxW.nil | refine BxW.upd ?_ (by simp (config := zd) [hsn])))
 have hil : i = L.length := by omega
 have h1' : ¬ (i : Int) < L.length := by omega
 subst hil
 rw [List.take_length]
 clear IH hi hseen0 hp0
 have hbig : (insAll (pOf L at_)).length ≤ 1000000 := Nat.le_trans (insAll_len _) (by omega)
 have hsorted := insAll_ok (pOf L at_)
 obtain ⟨E, hE⟩ : ∃ E, mpSeen (pOf L at_) = E := ⟨_, rfl⟩
 obtain ⟨R, hR⟩ : ∃ R, insAll (pOf L at_) = R := ⟨_, rfl⟩
 rw [hE] at hel hsk ⊢
 rw [hR] at hsk hbig ⊢
 clear hE hR hsorted
 repeat' (first | apply WK.s | refine WK.exit rfl ?_ | refine WK.cF rfl ?_ | (apply hQ.h; clear hQ hA) | (refine WK.R (id := 0) Tryz.ntmps15 ?_; intro A hA Q hQ; simp [*]) | (refine WK.R (id := 1) Tryz.ntmps15 ?_; intro A hA Q hQ; simp [*]) | (refine WK.R (id := 2) Tryz.ntmps15 ?_; intro A hA Q hQ; simp [*]) | (refine WK.R (id := 3) Tryz.ntmps15 ?_; intro A hA Q hQ; simp [*]) | (refine WK.R (id := 4) Tryz.ntmps15 ?_; intro A hA Q hQ; simp [*]) | (refine WK.R (id := 5) Tryz.ntmps15 ?_; intro A hA Q hQ; simp [*]) | (refine WK.R (id := 6) Tryz.ntmps15 ?_; intro A hA Q hQ; simp [*]) | (refine WK.R (id := 7) Tryz.ntmps15 ?_; intro A hA Q hQ; simp [*]) | (refine WK.R (id := 8) Tryz.ntmps15 ?_; intro A hA Q hQ; simp [*]))
 refine WK.ghost (Ghost.own 8 901 1 rfl rfl) ?_
 refine WK.named 1 rfl fun m => ?_
 refine WK.regN Tryz.ntmps15 (by kernel_rfl) ?_
 intro A hA Q hQ
 simp [*]
 refine RunN.range 2 mpOkInt rfl rfl rfl rfl (by simp) List.mem_cons_self ?_
 refine RunN.evalH ?_
 simp
 refine hQ.h _ _ ?_
 clear hQ hA
 have hz0 : intL (([] : List Nat).map fun v => (nth E v).1) = [] := rfl
 repeat (apply WK.b)
 refine WK.L (fun n => if n = 3 then 901 else n) (fun vs : List Nat => (⟨(upd (upd J 8 (.msl 3 0 vs.length)) 29 (.ptr 2 0)), (upd (upd (upd B0 1 (.obj (mpObjK (Value.int .i64) 0 E))) 2 (.obj (itObj m 0 E.length vs))) 3 (.buf 1 (intL (vs.map fun v => (nth E v).1)))), 0⟩ : St)) (fun vs => vs.Nodup ∧ ∀ v, v ∈ vs → v < E.length) (fun vs => E.length - vs.length) ([]) (by repeat (first | exact TmW.nil | refine TmW.upd ?_ (by simp (config := zd) [hz0]))) (by repeat (first | exact BxW.nil | refine BxW.upd ?_ (by simp (config := zd) [hz0]))) (⟨by simp, by simp⟩) (fun vs hv IHv => ?_)
 repeat apply WK.s
 refine WK.regN Tryz.ntmps15 (by kernel_rfl) ?_
 intro A hA Q hQ
 simp [*]
 refine RunN.next rfl rfl rfl rfl rfl List.mem_cons_self (fun h0 => ?_) (fun k hk hnv => ?_)
 · refine RunN.evalH ?_
   simp
   refine hQ.h _ _ ?_
   clear hQ hA
   have hsk := hsk vs hv.1 hv.2 h0
   have hvl : (vs.map fun v => (nth E v).1).length = vs.length := List.length_map ..
   have hvb := nodup_lt_length E.length vs hv.1 hv.2
   obtain ⟨zs, hzs⟩ : ∃ zs, (vs.map fun v => (nth E v).1) = zs := ⟨_, rfl⟩
   rw [hzs] at hsk hvl ⊢
   have hso := sort_c zs (by omega)
   rw [hsk] at hso
   have hRl : R.length = vs.length := by rw [← hsk, ← hvl]; exact List.length_mergeSort _
   rw [hvl] at hso
   clear hzs hsk h0 IHv
   refine WK.unname ?_
   repeat' (first | apply WK.s | refine WK.exit rfl ?_ | refine WK.cF rfl ?_ | (apply hQ.h; clear hQ hA) | (refine WK.R Tryz.ntmps15 ?_; intro A hA Q hQ; simp [*]) | (refine RunQ.callB 3 rfl rfl rfl rfl rfl (hso) ?_ ?_ rfl rfl ?_ ?_ ?_; (focus simp (config := zd) [*]; done); (focus simp (config := zd) [*]; done); (focus simp [*]; done); (focus simp [*]; done); refine RunQ.evalH ?_; simp [*]))
   have hft : (intL R).take vs.length = intL R := List.take_of_length_le (by rw [intL_len]; omega)
   refine WK.ghost (Ghost.frzSl 4 1 rfl rfl) ?_
   repeat' (first | (refine WK.t Tryz.func15 ?_ ?_ <;> simp (config := zd) [Tryz.results15, *]))
 · refine RunN.evalH ?_
   simp
   refine hQ.h _ _ ?_
   clear hQ hA
   have hge : (E[k]).1 = (nth E k).1 := by rw [nth_eq hk]
   obtain ⟨n1, n2, n3⟩ := nodup_add hv hk hnv
   have hsn : intL (vs.map fun v => (nth E v).1) ++ [AV.int .i64 (nth E k).1] = intL ((vs ++ [k]).map fun v => (nth E v).1) := by simp [intL]
   have hlen : (vs ++ [k]).length = vs.length + 1 := by simp
   have hvl : (vs.map fun v => (nth E v).1).length = vs.length := List.length_map ..
   have hb : (vs.length + 1) * 8 ≤ 140737488355328 := by omega
   obtain ⟨x, hx⟩ : ∃ x, (nth E k).1 = x := ⟨_, rfl⟩
   rw [hx] at hge hsn
   obtain ⟨zs, hzs⟩ : ∃ zs, (vs.map fun v => (nth E v).1) = zs := ⟨_, rfl⟩
   rw [hzs] at hsn hvl ⊢
   obtain ⟨zs', hzs'⟩ : ∃ zs, ((vs ++ [k]).map fun v => (nth E v).1) = zs := ⟨_, rfl⟩
   rw [hzs'] at hsn
   clear hsk hx hzs
   repeat' (first | apply WK.s | apply WK.b | apply WK.k | refine WK.cT rfl ?_)
   refine WK.regN Tryz.ntmps15 (by kernel_rfl) ?_
   intro A hA Q hQ
   simp [*]
   refine RunN.entry rfl rfl rfl rfl rfl List.mem_cons_self hk ?_
   refine RunN.evalH ?_
   simp [hge]
   refine hQ.h _ _ ?_
   clear hQ hA
   repeat' (first | apply WK.n | (apply hQ.h; clear hQ hA) | (refine WK.R Tryz.ntmps15 ?_; intro A hA Q hQ; simp [*]) | (refine RunQ.append 901 appInt rfl rfl rfl rfl rfl rfl rfl rfl rfl ?_ ?_ ?_ ?_ ?_; (focus first | omega | simp [*]; done); (focus first | omega | simp [*]; done); (focus first | omega | simp [*]; done); (focus first | omega | simp [*]; done); refine RunQ.evalH ?_; simp [*]))
   have hz2 : intL zs' = intL ((vs.map fun v => (nth E v).1) ++ [(nth E k).1]) := by rw [← hzs']; simp
   refine WK.N (fun n => if n = 3 then 901 else n) (IHv (vs ++ [k]) (⟨n1, n2⟩) (by first | omega | (dsimp only; omega))) (by repeat (first | exact TmW.nil | refine TmW.upd ?_ (by simp (config := zd) [hlen, hsn, hz2]))) (by repeat (first | exact BxW.nil | refine BxW.upd ?_ (by simp (config := zd) [hlen, hsn, hz2])))
end Go.Proofs.YtmhapglejjehbaaGreat
