/- What the program's values are: the plain structures, and how they lie in cells. -/
import Derived.Test.YtmhapglejjehbaaGreatAd
import Derived.ChangeShapes
import Derived.ChangeSame
import Derived.ChangeReads
import Derived.Below
import Derived.RowKit
import Derived.RowKit3
import Derived.WalkKit
import Derived.ProofKit
import Derived.OpenShut
import Derived.Carry
import Derived.Handed
set_option linter.all false
set_option linter.unnecessarySimpa false
namespace Go.AI
def uI (x : BitVec 64) : Int := x.toNat
theorem uI_inj {x y : BitVec 64} : uI x = uI y ↔ x = y := by
 unfold uI
 constructor
 · intro h; exact BitVec.eq_of_toNat_eq (by omega)
 · intro h; rw [h]
theorem ofInt_uI (x : BitVec 64) : BitVec.ofInt 64 (uI x) = x := by unfold uI; simp
theorem wrap_u64 (x : BitVec 64) : IntKind.wrap .u64 (x.toNat : Int) = uI x := by
 have := x.isLt
 simp only [IntKind.wrap, IntKind.bits, IntKind.signed, Bool.false_and, Bool.false_eq_true, if_false, uI]
 omega
@[simp] theorem bAnd_uI (x y : BitVec 64) : bAnd .u64 (uI x) (uI y) = uI (x &&& y) := by
 show IntKind.wrap .u64 ((BitVec.ofInt 64 (uI x) &&& BitVec.ofInt 64 (uI y) : BitVec 64).toNat : Int) = _
 rw [ofInt_uI, ofInt_uI, wrap_u64]
@[simp] theorem bOr_uI (x y : BitVec 64) : bOr .u64 (uI x) (uI y) = uI (x ||| y) := by
 show IntKind.wrap .u64 ((BitVec.ofInt 64 (uI x) ||| BitVec.ofInt 64 (uI y) : BitVec 64).toNat : Int) = _
 rw [ofInt_uI, ofInt_uI, wrap_u64]
@[simp] theorem bXor_uI (x y : BitVec 64) : bXor .u64 (uI x) (uI y) = uI (x ^^^ y) := by
 show IntKind.wrap .u64 ((BitVec.ofInt 64 (uI x) ^^^ BitVec.ofInt 64 (uI y) : BitVec 64).toNat : Int) = _
 rw [ofInt_uI, ofInt_uI, wrap_u64]
@[simp] theorem bNot_uI (x y : BitVec 64) : bNot .u64 (uI x) (uI y) = uI (x &&& ~~~y) := by
 show IntKind.wrap .u64 ((BitVec.ofInt 64 (uI x) &&& ~~~(BitVec.ofInt 64 (uI y)) : BitVec 64).toNat : Int) = _
 rw [ofInt_uI, ofInt_uI, wrap_u64]
@[simp] theorem uI_eq (x y : BitVec 64) : (uI x == uI y) = (x == y) := by
 rw [Bool.eq_iff_iff, beq_iff_eq, beq_iff_eq, uI_inj]
theorem uZ_ : uI 0#64 = 0 := rfl
@[simp] theorem uI_eq0 (x : BitVec 64) : (uI x == 0) = (x == 0#64) := by rw [← uZ_, uI_eq]
structure Wide where
 hi : BitVec 64
 lo : BitVec 64
 deriving DecidableEq, Inhabited
structure Tern where
 value : Wide
 mask : Wide
 deriving DecidableEq, Inhabited
def Wide.enc (w : Wide) : List AV := [.int .u64 (uI w.hi), .int .u64 (uI w.lo)]
def Tern.enc (t : Tern) : List AV := [.int .u64 (uI t.value.hi), .int .u64 (uI t.value.lo), .int .u64 (uI t.mask.hi), .int .u64 (uI t.mask.lo)]
def wideZ : Wide := ⟨0#64, 0#64⟩
def ternZ : Tern := ⟨wideZ, wideZ⟩
@[simp] theorem Wide.cl (w : Wide) : ClL w.enc = true := by simp [Wide.enc, ClL, Cl]
@[simp] theorem Tern.cl (w : Tern) : ClL w.enc = true := by simp [Tern.enc, Wide.enc, ClL, Cl]
@[simp] theorem Wide.take (w : Wide) : w.enc.take 2 = w.enc := rfl
@[simp] theorem Wide.drop (w : Wide) : w.enc.drop 2 = [] := rfl
@[simp] theorem Tern.drop (t : Tern) : t.enc.drop 4 = [] := rfl
@[simp] theorem Tern.take (t : Tern) : t.enc.take 4 = t.enc := rfl
namespace Wide
def and (a b : Wide) : Wide := ⟨a.hi &&& b.hi, a.lo &&& b.lo⟩
def or (a b : Wide) : Wide := ⟨a.hi ||| b.hi, a.lo ||| b.lo⟩
def xor (a b : Wide) : Wide := ⟨a.hi ^^^ b.hi, a.lo ^^^ b.lo⟩
def less (a b : Wide) : Wide := ⟨a.hi &&& ~~~b.hi, a.lo &&& ~~~b.lo⟩
def zero (a : Wide) : Bool := (a.hi ||| a.lo) == 0#64
theorem zero_eq (a : Wide) : a.zero = (a.hi == 0#64 && a.lo == 0#64) := by
 rw [Bool.eq_iff_iff]; simp [zero]
end Wide
namespace Tern
def clean (t : Tern) : Tern := ⟨t.value.and t.mask, t.mask⟩
def has (t : Tern) (v : Wide) : Bool := ((t.value.xor v).and t.mask).zero
def meetOk (a b : Tern) : Bool := ((a.value.xor b.value).and (a.mask.and b.mask)).zero
def meet (a b : Tern) : Tern := ⟨a.clean.value.or b.clean.value, a.mask.or b.mask⟩
end Tern
end Go.AI

section
namespace Go.AI
theorem ClL_append : ∀ (xs ys : List AV), ClL (xs ++ ys) = (ClL xs && ClL ys)
 | [], ys => by simp [ClL]
 | x :: xs, ys => by simp [ClL, ClL_append xs ys, Bool.and_assoc]
attribute [simp] ClL_append
theorem ClL_flatMap {α : Type} (f : α → List AV) (h : ∀ x, ClL (f x) = true) : ∀ l : List α, ClL (l.flatMap f) = true
 | [] => rfl
 | x :: l => by simp [h, ClL_flatMap f h l]
theorem ClL_map {α : Type} (f : α → AV) (h : ∀ x, Cl (f x) = true) : ∀ l : List α, ClL (l.map f) = true
 | [] => rfl
 | x :: l => by simp [ClL, h, ClL_map f h l]
section
variable {α : Type} {f : α → List AV} {s : Nat}
theorem fm_length (hf : ∀ x, (f x).length = s) : ∀ l : List α, (l.flatMap f).length = l.length * s
 | [] => by simp
 | x :: l => by simp [hf, fm_length hf l, Nat.add_mul, Nat.add_comm]
theorem fm_drop (hf : ∀ x, (f x).length = s) : ∀ (l : List α) (i : Nat), (l.flatMap f).drop (i * s) = (l.drop i).flatMap f
 | l, 0 => by simp
 | [], i + 1 => by simp
 | x :: l, i + 1 => by
   have : (i + 1) * s = (f x).length + i * s := by rw [hf, Nat.add_mul, Nat.one_mul, Nat.add_comm]
   rw [List.flatMap_cons, this, List.drop_append, List.drop_succ_cons, List.drop_of_length_le (by omega), Nat.add_sub_cancel_left, fm_drop hf l i]; rfl
theorem fm_take (hf : ∀ x, (f x).length = s) : ∀ (l : List α) (i : Nat), (l.flatMap f).take (i * s) = (l.take i).flatMap f
 | l, 0 => by simp
 | [], i + 1 => by simp
 | x :: l, i + 1 => by
   have : (i + 1) * s = (f x).length + i * s := by rw [hf, Nat.add_mul, Nat.one_mul, Nat.add_comm]
   rw [List.flatMap_cons, this, List.take_append, List.take_succ_cons, List.flatMap_cons, List.take_of_length_le (by omega)]
   congr 1
   rw [Nat.add_sub_cancel_left]
   exact fm_take hf l i
theorem fm_sub (hf : ∀ x, (f x).length = s) (l : List α) (i : Nat) (h : i < l.length) : ((l.flatMap f).drop (i * s)).take s = f l[i] := by
 rw [fm_drop hf, List.drop_eq_getElem_cons h, List.flatMap_cons]
 have := List.take_append_of_le_length (l₁ := f l[i]) (l₂ := (l.drop (i + 1)).flatMap f) (i := s) (by rw [hf]; exact Nat.le_refl _)
 rw [this, List.take_of_length_le (by rw [hf]; exact Nat.le_refl _)]
theorem fm_splice (hf : ∀ x, (f x).length = s) (l : List α) (i : Nat) (x : α) (h : i < l.length) : splice (l.flatMap f) (i * s) (f x) = (l.set i x).flatMap f := by
 unfold splice
 rw [fm_take hf, hf, show i * s + s = (i + 1) * s by rw [Nat.add_mul, Nat.one_mul], fm_drop hf, List.set_eq_take_append_cons_drop]
 simp [h]
end
def encN {α : Type} (n : Nat) (f : α → List AV) (c : Nat → α) : List AV := (List.range n).flatMap fun i => f (c i)
section
variable {α : Type} {f : α → List AV} {s n : Nat}
theorem encN_eq (c : Nat → α) : encN n f c = ((List.range n).map c).flatMap f := by unfold encN; rw [List.flatMap_map]
theorem encN_length (hf : ∀ x, (f x).length = s) (c : Nat → α) : (encN n f c).length = n * s := by rw [encN_eq, fm_length hf]; simp
theorem encN_sub (hf : ∀ x, (f x).length = s) (c : Nat → α) (i : Nat) (h : i < n) : ((encN n f c).drop (i * s)).take s = f (c i) := by
 rw [encN_eq, fm_sub hf _ i (by simpa using h)]; simp
theorem encN_congr (c d : Nat → α) (h : ∀ i, i < n → c i = d i) : encN n f c = encN n f d := by
 rw [encN_eq, encN_eq]; congr 1
 exact List.map_congr_left fun i hi => h i (by simpa using hi)
theorem encN_splice (hf : ∀ x, (f x).length = s) (c : Nat → α) (i : Nat) (x : α) (h : i < n) : splice (encN n f c) (i * s) (f x) = encN n f (fun j => if j = i then x else c j) := by
 rw [encN_eq, fm_splice hf _ i x (by simpa using h), encN_eq]
 congr 1
 apply List.ext_getElem?
 intro j
 rw [List.getElem?_set, List.getElem?_map, List.getElem?_map]
 by_cases hj : j < n
 · rw [List.getElem?_range hj]
   by_cases hij : i = j
   · subst hij; simp [h]
   · simp [hij, Ne.symm hij]
 · rw [List.getElem?_eq_none (by simpa using hj)]
   have : ¬ i = j := by omega
   simp [this]
theorem encN_cl (hf : ∀ x, ClL (f x) = true) (c : Nat → α) : ClL (encN n f c) = true := by rw [encN_eq]; exact ClL_flatMap f hf _
theorem encN_const (x : α) (y : AV) (hx : f x = List.replicate s y) : encN n f (fun _ => x) = List.replicate (n * s) y := by
 unfold encN
 simp only [hx]
 rw [List.flatMap_def]
 have : (List.range n).map (fun _ => List.replicate s y) = List.replicate n (List.replicate s y) := by
   apply List.ext_getElem?
   intro j
   by_cases hj : j < n <;> simp [hj]
 rw [this, List.flatten_replicate_replicate]
end
theorem eqK_append {k k' : List Bool} {xs xs' ys ys' : List AV} {a b : Bool} (h : eqK k xs ys = some a) (h' : eqK k' xs' ys' = some b) : eqK (k ++ k') (xs ++ xs') (ys ++ ys') = some (a && b) := by
 induction k generalizing xs ys a with
 | nil =>
   obtain ⟨h1, h2⟩ := eqK_length h
   have h1 := List.eq_nil_of_length_eq_zero h1
   have h2 := List.eq_nil_of_length_eq_zero h2
   subst h1 h2
   simp only [eqK, Option.some.injEq] at h
   simp [h', ← h]
 | cons c k ih =>
   match xs, ys, h with
   | x :: xs, y :: ys, h =>
     simp only [eqK] at h
     cases hr : eqK k xs ys with
     | none => simp [hr] at h
     | some r =>
       simp only [hr] at h
       simp only [List.cons_append, eqK, ih hr]
       split at h
       · split at h
         · simp only [Option.some.injEq] at h
           rename_i hj
           simp only [hj, if_true, ← h, Bool.and_assoc]
         · cases h
       · simp only [Option.some.injEq] at h
         simp [← h, Bool.and_assoc]
       · cases h
   | [], _, h => simp [eqK] at h
   | _ :: _, [], h => simp [eqK] at h
theorem eqK_encN {α : Type} [BEq α] {f : α → List AV} {k : List Bool} (hf : ∀ x y, eqK k (f x) (f y) = some (x == y)) (c d : Nat → α) : ∀ n,
   eqK (List.replicate n k).flatten (encN n f c) (encN n f d) = some ((List.range n).all fun i => c i == d i)
 | 0 => by simp [encN, eqK]
 | n + 1 => by
   have ih := eqK_encN hf c d n
   have e1 : ∀ c : Nat → α, encN (n + 1) f c = encN n f c ++ f (c n) := fun c => by simp [encN, List.range_succ]
   rw [e1, e1, List.replicate_succ', List.flatten_append, List.flatten_singleton, eqK_append ih (hf _ _)]
   simp [List.range_succ]
@[simp] theorem Wide.len (w : Wide) : w.enc.length = 2 := rfl
@[simp] theorem Tern.len (t : Tern) : t.enc.length = 4 := rfl
abbrev Cube := Nat → Tern
abbrev Header := Nat → Wide
def encC (c : Cube) : List AV := encN 24 Tern.enc c
@[simp] theorem encC_len (c : Cube) : (encC c).length = 96 := encN_length Tern.len c
@[simp] theorem encC_cl (c : Cube) : ClL (encC c) = true := encN_cl Tern.cl c
@[simp] theorem encC_take (c : Cube) : (encC c).take 96 = encC c := List.take_of_length_le (by simp)
@[simp] theorem encC_drop (c : Cube) : (encC c).drop 96 = [] := List.drop_of_length_le (by simp)
theorem encC_sub (c : Cube) (i : Nat) (h : i < 24) : ((encC c).drop (i * 4)).take 4 = (c i).enc := encN_sub Tern.len c i h
theorem encC_set (c : Cube) (i : Nat) (t : Tern) (h : i < 24) : (encC c).take (i * 4) ++ (t.enc ++ (encC c).drop (i * 4 + 4)) = encC (fun j => if j = i then t else c j) := by
 have := encN_splice (n := 24) Tern.len c i t h
 simpa [splice, encC] using this
def cubeZ : Cube := fun _ => ternZ
@[simp] theorem encC_zero : repl 96 (AV.int .u64 0) = encC cubeZ := (encN_const (n := 24) (s := 4) ternZ (.int .u64 0) rfl).symm
theorem Wide.beq (a b : Wide) : (a == b) = (a.hi == b.hi && a.lo == b.lo) := by
 rw [Bool.eq_iff_iff]; cases a; cases b; simp
theorem Tern.beq (a b : Tern) : (a == b) = (a.value.hi == b.value.hi && (a.value.lo == b.value.lo && (a.mask.hi == b.mask.hi && a.mask.lo == b.mask.lo))) := by
 rw [Bool.eq_iff_iff]; obtain ⟨⟨_, _⟩, ⟨_, _⟩⟩ := a; obtain ⟨⟨_, _⟩, ⟨_, _⟩⟩ := b; simp [and_assoc]
@[simp] theorem eqK_tern (a b : Tern) : eqK [false, false, false, false] a.enc b.enc = some (a == b) := by
 simp [Tern.enc, eqK, Tern.beq]
@[simp] theorem eqK_wide (a b : Wide) : eqK [false, false] a.enc b.enc = some (a == b) := by
 simp [Wide.enc, eqK, Wide.beq]
def cubeEq (a b : Cube) : Bool := (List.range 24).all fun i => a i == b i
@[simp] theorem eqK_cube (a b : Cube) : eqK (repl 96 false) (encC a) (encC b) = some (cubeEq a b) := by
 have := eqK_encN eqK_tern a b 24
 rwa [show (List.replicate 24 [false, false, false, false]).flatten = repl 96 false from rfl] at this
def cubeMeetOk (a b : Cube) : Bool := (List.range 24).all fun i => (a i).meetOk (b i)
def cubeClean (c : Cube) : Cube := fun i => (c i).clean
theorem all_range_false {n i : Nat} {p : Nat → Bool} (h : i < n) (hp : p i = false) : (List.range n).all p = false := by
 rw [List.all_eq_false]; exact ⟨i, by simpa using h, by simp [hp]⟩
theorem all_range_true {n : Nat} {p : Nat → Bool} (h : ∀ i, i < n → p i = true) : (List.range n).all p = true := by
 rw [List.all_eq_true]; exact fun i hi => h i (by simpa using hi)
theorem wrap_i64 {n : Int} (h : -9223372036854775808 ≤ n) (h' : n < 9223372036854775808) : IntKind.wrap .i64 n = n := by
 unfold IntKind.wrap
 show (if (true && decide (n % 18446744073709551616 ≥ 9223372036854775808)) = true then n % 18446744073709551616 - 18446744073709551616 else n % 18446744073709551616) = n
 rw [Bool.true_and]
 split
 · rename_i h1
   have h1 := of_decide_eq_true h1
   omega
 · rename_i h1
   have h1 : ¬ (n % 18446744073709551616 ≥ 9223372036854775808) := fun h => h1 (decide_eq_true h)
   omega
end Go.AI
end

namespace Go.AI
def nth {α : Type} [Inhabited α] (l : List α) (i : Nat) : α := l.getD i default
theorem nth_eq {α : Type} [Inhabited α] {l : List α} {i : Nat} (h : i < l.length) : nth l i = l[i] := by
 unfold nth; rw [List.getD_eq_getElem?_getD, List.getElem?_eq_getElem h]; rfl
theorem take_nth {α : Type} [Inhabited α] {l : List α} {i : Nat} (h : i < l.length) : l.take (i + 1) = l.take i ++ [nth l i] := by
 rw [nth_eq h, List.take_add_one, List.getElem?_eq_getElem h]; rfl
theorem fm_nth {α : Type} [Inhabited α] {f : α → List AV} {s : Nat} (hf : ∀ x, (f x).length = s) (l : List α) (i : Nat) (h : i < l.length) :
   ((l.flatMap f).drop (i * s)).take s = f (nth l i) := by rw [fm_sub hf l i h, nth_eq h]
theorem nth_mem {α : Type} [Inhabited α] {l : List α} {i : Nat} (h : i < l.length) : nth l i ∈ l := by rw [nth_eq h]; exact List.getElem_mem h
theorem mem_nth {α : Type} [Inhabited α] {l : List α} {x : α} (h : x ∈ l) : ∃ i, i < l.length ∧ nth l i = x := by
 obtain ⟨i, hi, rfl⟩ := List.mem_iff_getElem.1 h
 exact ⟨i, hi, nth_eq hi⟩
structure Oxm where
 field : Int
 masked : Bool
 value : Wide
 mask : Wide
 deriving DecidableEq, Inhabited
structure Action where
 kind : Int
 port : Int
 max : Int
 group : Int
 ether : Int
 oxm : Oxm
 deriving DecidableEq, Inhabited
structure Inst where
 kind : Int
 table : Int
 value : Wide
 mask : Wide
 acts : List Action
 deriving DecidableEq, Inhabited
structure Flow where
 cookie : BitVec 64
 prio : Int
 idle : Int
 hard : Int
 flags : Int
 mat : List Oxm
 insts : List Inst
 deriving DecidableEq, Inhabited
structure FlowMod where
 cookie : BitVec 64
 cookieMask : BitVec 64
 table : Int
 command : Int
 idle : Int
 hard : Int
 prio : Int
 buffer : Int
 outPort : Int
 outGroup : Int
 flags : Int
 mat : List Oxm
 insts : List Inst
 deriving DecidableEq, Inhabited
def Oxm.enc (o : Oxm) : List AV := [.int .i64 o.field, .bool o.masked, .int .u64 (uI o.value.hi), .int .u64 (uI o.value.lo), .int .u64 (uI o.mask.hi), .int .u64 (uI o.mask.lo)]
def Action.enc (a : Action) : List AV := [.int .i64 a.kind, .int .i64 a.port, .int .i64 a.max, .int .i64 a.group, .int .i64 a.ether,
 .int .i64 a.oxm.field, .bool a.oxm.masked, .int .u64 (uI a.oxm.value.hi), .int .u64 (uI a.oxm.value.lo), .int .u64 (uI a.oxm.mask.hi), .int .u64 (uI a.oxm.mask.lo)]
def oxmL (l : List Oxm) : List AV := l.flatMap Oxm.enc
def actL (l : List Action) : List AV := l.flatMap Action.enc
def oxmS (l : List Oxm) : AV := .sl false l.length (oxmL l)
def actS (l : List Action) : AV := .sl false l.length (actL l)
def Inst.enc (i : Inst) : List AV := [.int .i64 i.kind, .int .i64 i.table, .int .u64 (uI i.value.hi), .int .u64 (uI i.value.lo), .int .u64 (uI i.mask.hi), .int .u64 (uI i.mask.lo), .sl false i.acts.length (actL i.acts)]
def instL (l : List Inst) : List AV := l.flatMap Inst.enc
def instS (l : List Inst) : AV := .sl false l.length (instL l)
def Flow.enc (f : Flow) : List AV := [.int .u64 (uI f.cookie), .int .i64 f.prio, .int .i64 f.idle, .int .i64 f.hard, .int .i64 f.flags, .sl false f.mat.length (oxmL f.mat), .sl false f.insts.length (instL f.insts)]
def flowL (l : List Flow) : List AV := l.flatMap Flow.enc
def flowS (l : List Flow) : AV := .sl false l.length (flowL l)
def FlowMod.enc (m : FlowMod) : List AV := [.int .u64 (uI m.cookie), .int .u64 (uI m.cookieMask), .int .i64 m.table, .int .i64 m.command, .int .i64 m.idle, .int .i64 m.hard, .int .i64 m.prio,
 .int .i64 m.buffer, .int .i64 m.outPort, .int .i64 m.outGroup, .int .i64 m.flags, .sl false m.mat.length (oxmL m.mat), .sl false m.insts.length (instL m.insts)]
def intL (l : List Int) : List AV := l.map (.int .i64)
def intS (l : List Int) : AV := .sl false l.length (intL l)
@[simp] theorem Oxm.len (o : Oxm) : o.enc.length = 6 := rfl
@[simp] theorem Action.len (o : Action) : o.enc.length = 11 := rfl
@[simp] theorem Inst.len (o : Inst) : o.enc.length = 7 := rfl
@[simp] theorem Flow.len (o : Flow) : o.enc.length = 7 := rfl
@[simp] theorem FlowMod.len (o : FlowMod) : o.enc.length = 13 := rfl
@[simp] theorem oxmL_len (l : List Oxm) : (oxmL l).length = l.length * 6 := fm_length Oxm.len l
@[simp] theorem actL_len (l : List Action) : (actL l).length = l.length * 11 := fm_length Action.len l
@[simp] theorem instL_len (l : List Inst) : (instL l).length = l.length * 7 := fm_length Inst.len l
@[simp] theorem flowL_len (l : List Flow) : (flowL l).length = l.length * 7 := fm_length Flow.len l
@[simp] theorem intL_len (l : List Int) : (intL l).length = l.length := by simp [intL]
@[simp] theorem Oxm.cl (o : Oxm) : ClL o.enc = true := by simp [Oxm.enc, ClL, Cl]
@[simp] theorem Action.cl (o : Action) : ClL o.enc = true := by simp [Action.enc, ClL, Cl]
@[simp] theorem oxmL_cl (l : List Oxm) : ClL (oxmL l) = true := ClL_flatMap _ Oxm.cl l
@[simp] theorem actL_cl (l : List Action) : ClL (actL l) = true := ClL_flatMap _ Action.cl l
@[simp] theorem Inst.cl (o : Inst) : ClL o.enc = true := by simp [Inst.enc, ClL, Cl]
@[simp] theorem instL_cl (l : List Inst) : ClL (instL l) = true := ClL_flatMap _ Inst.cl l
@[simp] theorem Flow.cl (o : Flow) : ClL o.enc = true := by simp [Flow.enc, ClL, Cl]
@[simp] theorem FlowMod.cl (o : FlowMod) : ClL o.enc = true := by simp [FlowMod.enc, ClL, Cl]
@[simp] theorem flowL_cl (l : List Flow) : ClL (flowL l) = true := ClL_flatMap _ Flow.cl l
@[simp] theorem intL_cl (l : List Int) : ClL (intL l) = true := ClL_map _ (fun _ => rfl) l
@[simp] theorem Oxm.take (o : Oxm) : o.enc.take 6 = o.enc := rfl
@[simp] theorem Action.take (o : Action) : o.enc.take 11 = o.enc := rfl
@[simp] theorem Inst.take (o : Inst) : o.enc.take 7 = o.enc := rfl
@[simp] theorem Flow.take (o : Flow) : o.enc.take 7 = o.enc := rfl
@[simp] theorem Oxm.drop (o : Oxm) : o.enc.drop 6 = [] := rfl
@[simp] theorem Action.drop (o : Action) : o.enc.drop 11 = [] := rfl
@[simp] theorem Inst.drop (o : Inst) : o.enc.drop 7 = [] := rfl
@[simp] theorem FlowMod.take13 (o : FlowMod) : o.enc.take 13 = o.enc := rfl
@[simp] theorem FlowMod.drop13 (o : FlowMod) : o.enc.drop 13 = [] := rfl
@[simp] theorem Flow.drop (o : Flow) : o.enc.drop 7 = [] := rfl
theorem oxm_sub (l : List Oxm) (i : Nat) (h : i < l.length) : ((oxmL l).drop (i * 6)).take 6 = (nth l i).enc := fm_nth Oxm.len l i h
theorem act_sub (l : List Action) (i : Nat) (h : i < l.length) : ((actL l).drop (i * 11)).take 11 = (nth l i).enc := fm_nth Action.len l i h
theorem inst_sub (l : List Inst) (i : Nat) (h : i < l.length) : ((instL l).drop (i * 7)).take 7 = (nth l i).enc := fm_nth Inst.len l i h
theorem flow_sub (l : List Flow) (i : Nat) (h : i < l.length) : ((flowL l).drop (i * 7)).take 7 = (nth l i).enc := fm_nth Flow.len l i h
theorem fm_get {α : Type} [Inhabited α] {f : α → List AV} {s : Nat} (hf : ∀ x, (f x).length = s) (l : List α) (i k : Nat) (h : i < l.length) (hk : k < s) (h' : i * s + k < (l.flatMap f).length) :
   (l.flatMap f)[i * s + k] = (f (nth l i))[k]'(by rw [hf]; exact hk) := by
 have h1 := fm_nth hf l i h
 have h2 := congrArg (fun x => x[k]?) h1
 simp only [List.getElem?_take, hk, if_true, List.getElem?_drop] at h2
 rw [List.getElem?_eq_getElem h', List.getElem?_eq_getElem (by rw [hf]; exact hk)] at h2
 simpa using h2
theorem oxm_get0 (l : List Oxm) (i : Nat) (h : i < l.length) (h' : i * 6 < (oxmL l).length) : (oxmL l)[i * 6] = .int .i64 (nth l i).field := fm_get Oxm.len l i 0 h (by omega) h'
theorem inst_get0 (l : List Inst) (i : Nat) (h : i < l.length) (h' : i * 7 < (instL l).length) : (instL l)[i * 7] = .int .i64 (nth l i).kind := fm_get Inst.len l i 0 h (by omega) h'
theorem inst_get6 (l : List Inst) (i : Nat) (h : i < l.length) (h' : i * 7 + 6 < (instL l).length) : (instL l)[i * 7 + 6] = .sl false (nth l i).acts.length (actL (nth l i).acts) := fm_get Inst.len l i 6 h (by omega) h'
theorem act_get0 (l : List Action) (i : Nat) (h : i < l.length) (h' : i * 11 < (actL l).length) : (actL l)[i * 11] = .int .i64 (nth l i).kind := fm_get Action.len l i 0 h (by omega) h'
theorem intL_get' (l : List Int) (i : Nat) (h : i < l.length) (h' : i < (intL l).length) : (intL l)[i] = .int .i64 (nth l i) := by
 unfold intL at h' ⊢; rw [List.getElem_map, nth_eq h]
theorem intL_get (l : List Int) (i : Nat) (h : i < l.length) : (intL l)[i]? = some (.int .i64 (nth l i)) := by
 unfold intL; rw [List.getElem?_map, List.getElem?_eq_getElem h, nth_eq h]; rfl
@[simp] theorem oxmS_cl (l : List Oxm) : Cl (oxmS l) = true := by simp [oxmS, Cl]
@[simp] theorem actS_cl (l : List Action) : Cl (actS l) = true := by simp [actS, Cl]
@[simp] theorem instS_cl (l : List Inst) : Cl (instS l) = true := by simp [instS, Cl]
@[simp] theorem flowS_cl (l : List Flow) : Cl (flowS l) = true := by simp [flowS, Cl]
@[simp] theorem intS_cl (l : List Int) : Cl (intS l) = true := by simp [intS, Cl]
@[simp] theorem oxmL_take (l : List Oxm) : (oxmL l).take (l.length * 6) = oxmL l := List.take_of_length_le (by simp)
@[simp] theorem actL_take (l : List Action) : (actL l).take (l.length * 11) = actL l := List.take_of_length_le (by simp)
@[simp] theorem instL_take (l : List Inst) : (instL l).take (l.length * 7) = instL l := List.take_of_length_le (by simp)
@[simp] theorem intL_take (l : List Int) : (intL l).take l.length = intL l := List.take_of_length_le (by simp)
theorem intL_one (x : Int) : intL [x] = [.int .i64 x] := rfl
@[simp] theorem intL_nil : intL [] = [] := rfl
@[simp] theorem oN_ : oxmL [] = [] := rfl
@[simp] theorem actL_nil : actL [] = [] := rfl
@[simp] theorem iN_ : instL [] = [] := rfl
theorem intL_app (l m : List Int) : intL (l ++ m) = intL l ++ intL m := by simp [intL]
theorem Oxm.beq (a b : Oxm) : (a == b) = (a.field == b.field && (a.masked == b.masked && (a.value.hi == b.value.hi && (a.value.lo == b.value.lo && (a.mask.hi == b.mask.hi && a.mask.lo == b.mask.lo))))) := by
 rw [Bool.eq_iff_iff]; obtain ⟨_, _, ⟨_, _⟩, ⟨_, _⟩⟩ := a; obtain ⟨_, _, ⟨_, _⟩, ⟨_, _⟩⟩ := b; simp [and_assoc]
theorem Action.beq (a b : Action) : (a == b) = (a.kind == b.kind && (a.port == b.port && (a.max == b.max && (a.group == b.group && (a.ether == b.ether && (a.oxm == b.oxm)))))) := by
 rw [Bool.eq_iff_iff]; obtain ⟨_, _, _, _, _, _⟩ := a; obtain ⟨_, _, _, _, _, _⟩ := b; simp
@[simp] theorem eqK_act (a b : Action) : eqK [false, false, false, false, false, false, true, false, false, false, false] a.enc b.enc = some (a == b) := by
 simp [Action.enc, eqK, Action.beq, Oxm.beq]
def fRows : List (Int × Int × Bool) := [(0, 32, false), (2, 64, true), (3, 48, true), (4, 48, true), (5, 16, false), (6, 13, true), (7, 3, false), (8, 6, false), (9, 2, false), (10, 8, false),
 (11, 32, true), (12, 32, true), (13, 16, false), (14, 16, false), (15, 16, false), (16, 16, false), (19, 8, false), (20, 8, false), (21, 16, false), (22, 32, true), (23, 32, true),
 (26, 128, true), (27, 128, true), (34, 20, false)]
def fRow (f : Int) : Int × Int × Bool := if 0 ≤ f ∧ f < 24 then nth fRows f.toNat else (-1, 0, false)
def fRight (f : Int) : Bool := decide (f ≥ 0) && decide (f < 24)
def fBits (f : Int) : Int := (fRow f).2.1
def rowEnc (r : Int × Int × Bool) : List AV := [.junk, .int .i64 r.1, .int .i64 r.2.1, .bool r.2.2]
def rowUp (f : Int) : Int × Int × Bool := if f = 12 then (13, 16, false) else if f = 13 then (14, 16, false) else if f = 14 then (15, 16, false) else if f = 15 then (16, 16, false) else
 if f = 16 then (19, 8, false) else if f = 17 then (20, 8, false) else if f = 18 then (21, 16, false) else if f = 19 then (22, 32, true) else if f = 20 then (23, 32, true) else
 if f = 21 then (26, 128, true) else if f = 22 then (27, 128, true) else if f = 23 then (34, 20, false) else (-1, 0, false)
def rowLow (f : Int) : Int × Int × Bool := if f = 0 then (0, 32, false) else if f = 1 then (2, 64, true) else if f = 2 then (3, 48, true) else if f = 3 then (4, 48, true) else
 if f = 4 then (5, 16, false) else if f = 5 then (6, 13, true) else if f = 6 then (7, 3, false) else if f = 7 then (8, 6, false) else if f = 8 then (9, 2, false) else
 if f = 9 then (10, 8, false) else if f = 10 then (11, 32, true) else if f = 11 then (12, 32, true) else rowUp f
theorem rowLow_eq (f : Int) : rowLow f = fRow f := by
 by_cases h : 0 ≤ f ∧ f < 24
 · obtain ⟨n, rfl⟩ : ∃ n : Nat, f = n := ⟨f.toNat, by omega⟩
   have h2 : n < 24 := by omega
   have : ∀ n : Nat, n < 24 → rowLow n = fRow n := by decide
   exact this n h2
 · unfold fRow
   rw [if_neg h]
   unfold rowLow rowUp
   repeat rw [if_neg (by omega)]
def low64 (n : Int) : BitVec 64 := if n ≥ 64 then BitVec.allOnes 64 else (1#64 <<< n.toNat) - 1#64
def clamp (n : Int) : Int := if 128 < (if n < 0 then 0 else n) then 128 else if n < 0 then 0 else n
theorem clamp_eq (n : Int) : (if 128 < (if n < 0 then 0 else n) then 128 else if n < 0 then 0 else n) = clamp n := rfl
theorem clamp_le (n : Int) : 0 ≤ clamp n ∧ clamp n ≤ 128 := by unfold clamp; split <;> (try split) <;> omega
theorem clamp_id {n : Int} (h : 0 ≤ n) (h' : n ≤ 128) : clamp n = n := by unfold clamp; rw [if_neg (show ¬ n < 0 by omega), if_neg (by omega)]
def lowW (n : Int) : Wide := ⟨low64 (clamp n - 64), low64 (clamp n)⟩
theorem low64_big : uI (low64 64) = 18446744073709551615 := by kernel_rfl
theorem low64_ge {n : Int} (h : 64 ≤ n) : low64 n = low64 64 := by unfold low64; rw [if_pos h, if_pos (by omega)]
theorem low64_all : ((List.range 64).all fun m => decide (IntKind.u64.wrap (bShl .u64 1 (m : Int) - 1) = uI (low64 m))) = true := by kernel_rfl
theorem low64_small {n : Int} (h : 0 ≤ n) (h' : n < 64) : IntKind.u64.wrap (bShl .u64 1 n - 1) = uI (low64 n) := by
 obtain ⟨m, rfl⟩ : ∃ m : Nat, n = m := ⟨n.toNat, by omega⟩
 have := List.all_eq_true.1 low64_all m (by simp; omega)
 simpa using this
theorem low64_neg {n : Int} (h : n < 0) : low64 n = low64 0 := by
 unfold low64; rw [if_neg (by omega), if_neg (by omega), show n.toNat = (0 : Int).toNat by omega]
theorem bit64_all : ((List.range 64).all fun m => decide (bShl .u64 1 (m : Int) = uI (1#64 <<< m))) = true := by kernel_rfl
theorem bit64 {m : Nat} (h : m < 64) : bShl .u64 1 (m : Int) = uI (1#64 <<< m) := by
 have := List.all_eq_true.1 bit64_all m (by simp; omega)
 simpa using this
def bitW (i : Nat) : Wide := if i < 64 then ⟨0#64, 1#64 <<< i⟩ else if i < 128 then ⟨1#64 <<< (i - 64), 0#64⟩ else wideZ
theorem lowW_step_all : ((List.range 128).all fun i => decide ((lowW i).or (bitW i) = lowW ((i : Int) + 1))) = true := by kernel_rfl
theorem lowW_zero' : lowW 0 = wideZ := by kernel_rfl
theorem lowW_step {i : Nat} (h : i < 128) : (lowW i).or (bitW i) = lowW ((i : Int) + 1) := by
 have := List.all_eq_true.1 lowW_step_all i (by simpa using h)
 simpa using this
def Oxm.tern (o : Oxm) : Tern := if fRight o.field = false then ternZ else if o.masked then ⟨o.value, o.mask⟩ else ⟨o.value, lowW (fBits o.field)⟩
def setC (c : Cube) (o : Oxm) : Cube := if fRight o.field then fun j => if (j : Int) = o.field then o.tern else c j else c
def matC (l : List Oxm) : Cube := l.foldl setC cubeZ
theorem matC_succ {l : List Oxm} {i : Nat} (h : i < l.length) : matC (l.take (i + 1)) = setC (matC (l.take i)) (nth l i) := by
 unfold matC; rw [take_nth h, List.foldl_append]; rfl
end Go.AI

section
namespace Go.AI
def GWh (W : World) : Heap := fun b o => W.cell? ⟨b, o, none⟩
theorem GWh_ok (W : World) : GW (GWh W) W := fun b o v h => h
section
variable {H : Type} {enc : TypeId × Value → H} {P : Program} {w : World} {sp : Nat → Bool} {held : Bool} {t : TypeId} {fuel : Nat} {cs : List Value} {x : DataW H × List MemPlace}
theorem mapM_some {α β : Type} {f : α → Option β} : ∀ {l : List α} {r : List β}, l.mapM f = some r → ∀ a, a ∈ l → ∃ y, f a = some y
 | [], r, h, a, ha => by cases ha
 | b :: l, r, h, a, ha => by
   simp only [List.mapM_cons, bind, Option.bind_eq_some_iff] at h
   obtain ⟨y, h1, ys, h2, h3⟩ := h
   rcases List.mem_cons.1 ha with rfl | ha
   · exact ⟨y, h1⟩
   · exact mapM_some h2 a ha
theorem mapM_get {α β : Type} {f : α → Option β} : ∀ {l : List α} {r : List β}, l.mapM f = some r → r.length = l.length ∧ ∀ (i : Nat) a, l[i]? = some a → ∃ y, r[i]? = some y ∧ f a = some y
 | [], r, h => by
   simp only [List.mapM_nil, pure, Option.some.injEq] at h
   subst h; simp
 | b :: l, r, h => by
   simp only [List.mapM_cons, bind, Option.bind_eq_some_iff, pure, Option.some.injEq] at h
   obtain ⟨y, h1, ys, h2, rfl⟩ := h
   obtain ⟨e1, e2⟩ := mapM_get h2
   refine ⟨by simp [e1], fun i a ha => ?_⟩
   cases i with
   | zero => simp at ha; subst ha; exact ⟨y, rfl, h1⟩
   | succ i => simp at ha; obtain ⟨z, h3, h4⟩ := e2 i a ha; exact ⟨z, by simpa using h3, h4⟩
theorem trod_int {k : IntKind} (ht : P.underlying t = some (.int k)) (h : DataW.trod enc P w 0 sp held fuel t cs = some x) : ∃ n, cs = [.int k n] ∧ (Lit.int k n).wf = true := by
 cases fuel with
 | zero => simp [DataW.trod] at h
 | succ fuel =>
   simp only [DataW.trod, ht] at h
   split at h
   all_goals first
     | (cases h; done)
     | (rename_i heq; simp only [Option.some.injEq, reduceCtorEq] at heq; done)
     | skip
   rename_i heq
   simp only [Option.some.injEq, TypeDesc.int.injEq] at heq
   subst heq
   split at h
   · rename_i hc
     obtain ⟨rfl, hw⟩ := hc
     exact ⟨_, rfl, hw⟩
   · cases h
theorem trod_bool (ht : P.underlying t = some .bool) (h : DataW.trod enc P w 0 sp held fuel t cs = some x) : ∃ b, cs = [.bool b] := by
 cases fuel with
 | zero => simp [DataW.trod] at h
 | succ fuel =>
   simp only [DataW.trod, ht] at h
   split at h
   all_goals first
     | exact ⟨_, rfl⟩
     | (cases h; done)
     | (rename_i heq; simp only [Option.some.injEq, reduceCtorEq] at heq; done)
theorem trod_struct {fs : Array Field} (ht : P.underlying t = some (.struct fs)) (h : DataW.trod enc P w 0 sp held fuel t cs = some x) :
   cs.length = P.cellsOf t ∧ ∃ fuel', ∀ f, f ∈ fs.toList → ∃ y, DataW.trod enc P w 0 sp held fuel' f.type ((cs.drop f.offset).take (P.cellsOf f.type)) = some y := by
 cases fuel with
 | zero => simp [DataW.trod] at h
 | succ fuel =>
   simp only [DataW.trod, ht] at h
   split at h
   · rename_i hl
     refine ⟨hl, fuel, fun f hf => ?_⟩
     simp only [Option.map_eq_some_iff] at h
     obtain ⟨xs, h1, _⟩ := h
     exact mapM_some h1 f hf
   · cases h
theorem trod_array {n : Nat} {e : TypeId} (ht : P.underlying t = some (.array n e)) (h : DataW.trod enc P w 0 sp held fuel t cs = some x) :
   cs.length = P.cellsOf t ∧ ∃ fuel', ∀ i, i < n → ∃ y, DataW.trod enc P w 0 sp held fuel' e ((cs.drop (i * P.cellsOf e)).take (P.cellsOf e)) = some y := by
 cases fuel with
 | zero => simp [DataW.trod] at h
 | succ fuel =>
   simp only [DataW.trod, ht] at h
   split at h
   · rename_i hl
     refine ⟨hl, fuel, fun i hi => ?_⟩
     simp only [Option.map_eq_some_iff] at h
     obtain ⟨xs, h1, _⟩ := h
     exact mapM_some h1 i (by simpa using hi)
   · cases h
theorem cells_read {a : Addr} {n : Nat} {vs : List Value} (h : w.cells? 0 a n = some vs) : vs.length = n ∧ ∀ j v, vs[j]? = some v → w.cell? (a.add j) = some v := by
 unfold World.cells? at h
 rw [if_pos (Nat.zero_le _)] at h
 obtain ⟨e1, e2⟩ := mapM_get h
 refine ⟨by simpa using e1, fun j v hj => ?_⟩
 have hlt : j < n := by have := (List.getElem?_eq_some_iff.1 hj).1; simp at e1; omega
 obtain ⟨y, h1, h2⟩ := e2 j j (by simp [hlt])
 rw [hj] at h1; simp only [Option.some.injEq] at h1; subst h1
 exact h2
theorem trod_slice {e : TypeId} (ht : P.underlying t = some (.slice e)) (h : DataW.trod enc P w 0 sp held fuel t cs = some x) :
   cs = [.slice none 0 0] ∨ ∃ a len cap, cs = [.slice (some a) len cap] ∧ len ≤ cap ∧ cap ≤ 9223372036854775807 ∧ ∃ fuel', ∀ i, i < len → ∃ vs y,
     vs.length = P.cellsOf e ∧ (∀ j v, vs[j]? = some v → w.cell? ((a.add (i * P.cellsOf e)).add j) = some v) ∧ DataW.trod enc P w 0 sp held fuel' e vs = some y := by
 cases fuel with
 | zero => simp [DataW.trod] at h
 | succ fuel =>
   simp only [DataW.trod, ht] at h
   split at h
   all_goals first
     | exact .inl rfl
     | (cases h; done)
     | (rename_i heq; simp only [Option.some.injEq, reduceCtorEq] at heq; done)
     | skip
   rename_i heq
   simp only [Option.some.injEq, TypeDesc.slice.injEq] at heq
   subst heq
   split at h
   · rename_i hc
     right
     refine ⟨_, _, _, rfl, hc.2.1, hc.2.2, fuel, fun i hi => ?_⟩
     simp only [Option.bind_eq_some_iff] at h
     obtain ⟨elems, h1, _⟩ := h
     obtain ⟨y, hy⟩ := mapM_some h1 i (by simpa using hi)
     simp only [Option.bind_eq_some_iff] at hy
     obtain ⟨vs, h2, h3⟩ := hy
     obtain ⟨h4, h5⟩ := cells_read h2
     exact ⟨vs, y, h4, h5, h3⟩
   · cases h
def Rd (enc : TypeId × Value → H) (P : Program) (w : World) (sp : Nat → Bool) (held : Bool) (t : TypeId) {α : Type} (f : α → List AV) : Prop :=
 ∀ fuel cs x, DataW.trod enc P w 0 sp held fuel t cs = some x → ∃ a, RelL E0 (GWh w) (f a) cs ∧ Ones cs
theorem cell_spot {a : Addr} {v : Value} (h : w.cell? a = some v) : a.spot = none := by
 unfold World.cell? at h
 split at h
 · cases hs : a.spot with
   | none => rfl
   | some s => simp [hs] at h
 · cases h
theorem rd_slice {α : Type} [Inhabited α] {f : α → List AV} {e : TypeId} {s : Nat} (ht : P.underlying t = some (.slice e)) (hs : P.cellsOf e = s) (hpos : 0 < s) (hf : ∀ a, (f a).length = s)
   (he : Rd enc P w sp held e f) (h : DataW.trod enc P w 0 sp held fuel t cs = some x) : ∃ (l : List α) (v : Value), cs = [v] ∧ Rel E0 (GWh w) (.sl false l.length (l.flatMap f)) v := by
 rcases trod_slice ht h with rfl | ⟨a, len, cap, rfl, h1, h2, fuel', h3⟩
 · exact ⟨[], _, rfl, by simp only [Rel]; exact .inl ⟨none, 0, rfl, rfl, fun _ => rfl, rfl⟩⟩
 · rw [hs] at h3
   by_cases h0 : len = 0
   · subst h0
     exact ⟨[], _, rfl, by simp only [Rel]; exact .inl ⟨_, _, rfl, rfl, fun h => (by cases h), rfl⟩⟩
   · obtain ⟨vs0, y0, g1, g2, _⟩ := h3 0 (by omega)
     have hspot : a.spot = none := by
       have hv : ∃ v, vs0[0]? = some v := ⟨vs0[0]'(by omega), List.getElem?_eq_getElem _⟩
       obtain ⟨v, hv⟩ := hv
       have := cell_spot (g2 0 v hv)
       simpa [Addr.add] using this
     obtain ⟨blk, off, sp'⟩ := a
     simp only at hspot
     subst hspot
     have key : ∀ n, n ≤ len → ∃ (l : List α) (vs : List Value), l.length = n ∧ RelL E0 (GWh w) (l.flatMap f) vs ∧ Ones vs ∧ vs.length = n * s ∧ InG (GWh w) blk off vs := by
       intro n
       induction n with
       | zero => intro _; exact ⟨[], [], rfl, RelL.nil, fun v hv => by simp at hv, by simp, fun j v hj => by simp at hj⟩
       | succ n ih =>
         intro hn
         obtain ⟨l, vs, e1, e2, e3, e4, e5⟩ := ih (by omega)
         obtain ⟨us, y, k1, k2, k3⟩ := h3 n (by omega)
         obtain ⟨b, r1, r2⟩ := he fuel' us y k3
         refine ⟨l ++ [b], vs ++ us, by simp [e1], by rw [List.flatMap_append]; exact e2.append (by simpa using r1), e3.append r2, by simp [e4, k1, Nat.add_mul], fun j v hj => ?_⟩
         by_cases hj2 : j < vs.length
         · rw [List.getElem?_append_left hj2] at hj; exact e5 j v hj
         · rw [List.getElem?_append_right (by omega)] at hj
           have := k2 _ v hj
           rw [addr_add, addr_add] at this
           unfold GWh
           rw [show off + j = off + n * s + (j - vs.length) by omega]
           exact this
     obtain ⟨l, vs, e1, e2, e3, e4, e5⟩ := key len (Nat.le_refl _)
     refine ⟨l, _, rfl, ?_⟩
     rw [e1]
     simp only [Rel]
     exact .inr ⟨blk, off, cap, vs, rfl, h1, by omega, fun h => (by cases h), e2, e5, e3⟩
theorem rd_u64 (ht : P.underlying t = some (.int .u64)) (h : DataW.trod enc P w 0 sp held fuel t cs = some x) : ∃ b : BitVec 64, cs = [.int .u64 (uI b)] := by
 obtain ⟨n, rfl, hw⟩ := trod_int ht h
 have hr : 0 ≤ n ∧ n ≤ 18446744073709551615 := by
   simp only [Lit.wf, Bool.and_eq_true, decide_eq_true_eq] at hw
   exact hw
 refine ⟨BitVec.ofNat 64 n.toNat, ?_⟩
 congr 2
 unfold uI
 rw [BitVec.toNat_ofNat]
 omega
theorem rd_int (ht : P.underlying t = some (.int .i64)) (h : DataW.trod enc P w 0 sp held fuel t cs = some x) : ∃ n : Int, cs = [.int .i64 n] := by
 obtain ⟨n, rfl, _⟩ := trod_int ht h
 exact ⟨n, rfl⟩
theorem rd_array {α : Type} [Inhabited α] {f : α → List AV} {e : TypeId} {n s : Nat} (ht : P.underlying t = some (.array n e)) (hs : P.cellsOf e = s) (hts : P.cellsOf t = n * s) (hf : ∀ a, (f a).length = s)
   (he : Rd enc P w sp held e f) (h : DataW.trod enc P w 0 sp held fuel t cs = some x) : ∃ c : Nat → α, RelL E0 (GWh w) (encN n f c) cs ∧ Ones cs := by
 obtain ⟨hl, fuel', h1⟩ := trod_array ht h
 rw [hs] at h1
 rw [hts] at hl
 have key : ∀ m, m ≤ n → ∃ c : Nat → α, RelL E0 (GWh w) (encN m f c) (cs.take (m * s)) ∧ Ones (cs.take (m * s)) := by
   intro m
   induction m with
   | zero => intro _; exact ⟨fun _ => default, by simp [encN, RelL.nil], by simp [Ones]⟩
   | succ m ih =>
     intro hm
     obtain ⟨c, e1, e2⟩ := ih (by omega)
     obtain ⟨y, hy⟩ := h1 m (by omega)
     obtain ⟨b, r1, r2⟩ := he fuel' _ y hy
     refine ⟨fun j => if j = m then b else c j, ?_, ?_⟩
     · have e : encN (m + 1) f (fun j => if j = m then b else c j) = encN m f c ++ f b := by
         have := encN_congr (f := f) (n := m) (fun j => if j = m then b else c j) c (fun i hi => by simp [Nat.ne_of_lt hi])
         rw [← this]; simp [encN, List.range_succ]
       rw [e, Nat.add_mul, Nat.one_mul, List.take_add]
       exact e1.append r1
     · rw [Nat.add_mul, Nat.one_mul, List.take_add]
       exact e2.append r2
 obtain ⟨c, e1, e2⟩ := key n (Nat.le_refl _)
 rw [List.take_of_length_le (by omega)] at e1 e2
 exact ⟨c, e1, e2⟩
end
end Go.AI
end

section
namespace Go.AI
open Go.ChangeShapes Go.WideShapes Go.ChangeAt Go.RowKit
theorem post_old {H : Type} {enc : TypeId × Value → H} {P : Program} {f : Func} {s : ChangeSpec} {apart fresh handsOn again : Bool} {W W' : World} {args : Array Value} {v : Value} {ds gs : List (DataW H)} {before pa pv : List MemPlace}
   (hW : DataW.Whole enc P f.params.toList s.vars apart W args.toList ds gs before)
   (hres : ∀ (b : Nat) (sp : Nat → Bool) (hd : Bool), DataW.TrodAll enc P W' b sp hd f.resultTypes.toList (v.resultList f.resultTypes.size) (s.fn H (ds ++ gs)).results [])
   (hargs : ∀ sp : Nat → Bool, (∀ p ∈ before, sp p.block = true) → DataW.TrodAll enc P W' 0 sp true f.params.toList args.toList (s.fn H (ds ++ gs)).args pa)
   (hvars : ∀ sp : Nat → Bool, (∀ p ∈ before, sp p.block = true) → DataW.TrodVars enc P W' sp s.vars (s.fn H (ds ++ gs)).vars pv)
   (hps : before = pa ++ pv) (hk : W.keptBut W' (· ∈ before)) (hfz : ∀ a, a.block < W.heap.size → W'.frozen? a = W.frozen? a)
   (hok : ∀ (j : Nat) (t : TypeId) (r : Value), f.resultTypes[j]? = some t → (v.resultList f.resultTypes.size)[j]? = some r → Value.okWide P W' .any 0 t r) :
   s.post enc P f apart fresh handsOn again W args v W' := by
 have hlt := hW.lt
 have hW2 := hW
 obtain ⟨_, _, _, _, _, hz, hn⟩ := hW2
 subst hps
 have ha0 := hargs (fun b => decide (b < W.heap.size)) (fun p hp => by simpa using hlt p hp)
 have hv0 := hvars (fun b => decide (b < W.heap.size)) (fun p hp => by simpa using hlt p hp)
 have ht := trodAll_append (hargs _ (fun _ _ => rfl)) (hres 0 (fun _ => true) true)
 rw [List.nil_append] at ht
 exact ⟨ds, gs, pa ++ pv, [], pa, pv, hW, hres _ _ _, ha0, hv0, World.keptBut_mono (fun p hp => ⟨hp, .inr (by simpa using hp)⟩) hk, fun _ => ⟨hok, _, _, pa ++ pv, ⟨pa, pv, ht, hvars _ (fun _ _ => rfl), rfl, fun b off hp => by rw [hfz _ (hlt _ hp)]; exact hz b off hp, hn⟩, fun p hp _ => hp⟩⟩
def RdV (P : Program) (t : TypeId) (p : AV → Prop) : Prop :=
 ∀ (H : Type) (enc : TypeId × Value → H) (W : World) (base : Nat) (v : Value) (d : DataW H) (q : List MemPlace), Value.okWide P W .any base t v → DataW.Trod enc P W 0 (fun _ => true) true t v d q →
   ∃ a, p a ∧ Rel E0 (GWh W) a v
def AllP : List (AV → Prop) → List AV → Prop
 | [], [] => True
 | p :: ps, a :: xs => p a ∧ AllP ps xs
 | _, _ => False
def RdVs (P : Program) : List TypeId → List (AV → Prop) → Prop
 | [], [] => True
 | t :: ts, p :: ps => RdV P t p ∧ RdVs P ts ps
 | _, _ => False
theorem RdVs.nil {P : Program} : RdVs P [] [] := trivial
theorem RdVs.cons {P : Program} {t : TypeId} {ts : List TypeId} {p : AV → Prop} {ps : List (AV → Prop)} (h : RdV P t p) (hs : RdVs P ts ps) : RdVs P (t :: ts) (p :: ps) := ⟨h, hs⟩
section
variable {H : Type} {enc : TypeId × Value → H} {P : Program} {W W' : World} {base : Nat}
theorem args_read : ∀ {ts : List TypeId} {ps : List (AV → Prop)} {vs : List Value} {ds : List (DataW H)} {q : List MemPlace}, RdVs P ts ps → (∀ (j : Nat) t v, ts[j]? = some t → vs[j]? = some v → Value.okWide P W .any base t v) →
   DataW.TrodAll enc P W 0 (fun _ => true) true ts vs ds q → ∃ xs, AllP ps xs ∧ RelL E0 (GWh W) xs vs
 | [], [], [], _, _, _, _, _ => ⟨[], trivial, RelL.nil⟩
 | [], [], _ :: _, [], _, _, _, h => h.elim
 | [], [], _ :: _, _ :: _, _, _, _, h => h.elim
 | [], _ :: _, _, _, _, h, _, _ => h.elim
 | _ :: _, [], _, _, _, h, _, _ => h.elim
 | t :: ts, p :: ps, [], _, _, _, _, h => by simp [DataW.TrodAll] at h
 | t :: ts, p :: ps, v :: vs, [], _, _, _, h => by simp [DataW.TrodAll] at h
 | t :: ts, p :: ps, v :: vs, d :: ds, q, hr, hok, h => by
   obtain ⟨q1, q2, h1, h2, _⟩ := h
   obtain ⟨a, ha, hra⟩ := hr.1 H enc W base v d q1 (hok 0 t v rfl rfl) h1
   obtain ⟨xs, hxs, hrxs⟩ := args_read hr.2 (fun j t v h h' => hok (j + 1) t v h h') h2
   exact ⟨a :: xs, ⟨ha, hxs⟩, RelL.cons hra hrxs⟩
theorem args_stay (hl : laidOutB P = true) (hb : Below W.heap.size W W') : ∀ {ts : List TypeId} {vs : List Value} {ds : List (DataW H)} {q : List MemPlace},
   (ts.all (fun t => P.readableRec t && decide (t < P.types.size))) = true → DataW.TrodAll enc P W 0 (fun _ => true) true ts vs ds q → (∀ x ∈ q, x.block < W.heap.size) →
   ∀ sp : Nat → Bool, (∀ x ∈ q, sp x.block = true) → DataW.TrodAll enc P W' 0 sp true ts vs ds q
 | [], [], [], _, _, h, _, _, _ => h
 | [], [], _ :: _, _, _, h, _, _, _ => h.elim
 | [], _ :: _, [], _, _, h, _, _, _ => h.elim
 | [], _ :: _, _ :: _, _, _, h, _, _, _ => h.elim
 | t :: ts, [], _, _, _, h, _, _, _ => by simp [DataW.TrodAll] at h
 | t :: ts, v :: vs, [], _, _, h, _, _, _ => by simp [DataW.TrodAll] at h
 | t :: ts, v :: vs, d :: ds, q, hr, ⟨q1, q2, h1, h2, e⟩, hlt, sp, hs => by
   subst e
   simp only [List.all_cons, Bool.and_eq_true, decide_eq_true_eq] at hr
   exact ⟨q1, q2, WideElems.Trod_stays hl hr.1.1 hr.1.2 h1 (fun x hx => hb.same (hlt x (List.mem_append_left _ hx))) (fun x hx => hs x (List.mem_append_left _ hx)),
     args_stay hl hb hr.2 h2 (fun x hx => hlt x (List.mem_append_right _ hx)) sp (fun x hx => hs x (List.mem_append_right _ hx)), rfl⟩
theorem below_of_ext {G G' : Heap} {w w' : World} (h : Ext B0 E0 G w B0 E0 G' w') : Below w.heap.size w w' :=
 ⟨h.os, h.tape, h.output, h.size, fun k hk => (h.frame k hk (Live_B0 _ _)).1⟩
theorem trodAll_len : ∀ {ts : List TypeId} {vs : List Value} {ds : List (DataW H)} {q : List MemPlace} {sp : Nat → Bool} {held : Bool}, DataW.TrodAll enc P W base sp held ts vs ds q → ds.length = ts.length
 | [], [], [], _, _, _, _ => rfl
 | [], [], _ :: _, _, _, _, h => h.elim
 | [], _ :: _, [], _, _, _, h => h.elim
 | [], _ :: _, _ :: _, _, _, _, h => h.elim
 | _ :: _, [], _, _, _, _, h => by simp [DataW.TrodAll] at h
 | _ :: _, _ :: _, [], _, _, _, h => by simp [DataW.TrodAll] at h
 | _ :: _, _ :: _, _ :: _, _, _, _, ⟨_, _, _, h2, _⟩ => by simp [trodAll_len h2]
end
theorem rdV_agg {P : Program} {t : TypeId} {α : Type} {f : α → List AV} (hk : (∃ fs, P.underlying t = some (.struct fs)) ∨ ∃ n e, P.underlying t = some (.array n e))
   (he : ∀ (H : Type) (enc : TypeId × Value → H) (W : World), Rd enc P W (fun _ => true) true t f) : RdV P t (fun a => ∃ x, a = .agg (f x)) := by
 intro H enc W base v d q hok h
 have hv : ∃ cs, v = .agg cs := by
   unfold Value.okWide at hok
   rcases hk with ⟨fs, hu⟩ | ⟨n, e, hu⟩
   · rw [hu] at hok; obtain ⟨cs, rfl, _⟩ := hok; exact ⟨cs, rfl⟩
   · rw [hu] at hok; obtain ⟨cs, rfl, _⟩ := hok; exact ⟨cs, rfl⟩
 obtain ⟨cs, rfl⟩ := hv
 obtain ⟨fuel, h⟩ := h
 obtain ⟨x, hr, ho⟩ := he H enc W fuel _ _ h
 refine ⟨_, ⟨x, rfl⟩, ?_⟩
 simp only [Rel]
 exact ⟨cs.toList, rfl, hr, ho⟩
theorem rdV_int {P : Program} {t : TypeId} (ht : P.underlying t = some (.int .i64)) : RdV P t (fun a => ∃ n : Int, a = .int .i64 n) := by
 intro H enc W base v d q hok h
 obtain ⟨fuel, h⟩ := h
 have hc : v.cells.toList = [v] := by
   unfold Value.okWide at hok
   rw [ht] at hok
   cases v <;> first | rfl | (simp [Cell.okWide, ht] at hok; done) | skip
   all_goals simp [Cell.okWide, Cell.ok, ht] at hok
 rw [hc] at h
 obtain ⟨n, e1⟩ := rd_int ht h
 simp only [List.cons.injEq, and_true] at e1
 subst e1
 exact ⟨_, ⟨n, rfl⟩, by simp [Rel]⟩
theorem law_lifted {C : Checked} {os : Os} {H : Type} {enc : TypeId × Value → H} {f : FuncId} {fn : Func} {s : ChangeSpec} {conds : List PathCond} {ps : List (AV → Prop)} {tb : TypeId}
   (own : ownKnob C.prog.godebug = none) (started : os.Started) (noInit : C.prog.inits.idxOf? f = none) (hfn : C.prog.funcs[f]? = some fn)
   (witness : ∃ (w : World) (tape : Tape) (i : Input), w.os = os ∧ (w.forCall tape i).Shaped C.prog ∧ i.vars = [] ∧ Input.okWide C.prog (w.forCall tape i) .any w.heap.size f i ∧
     s.pre6 enc C.prog fn conds false (w.forCall tape i).memory i.args ∧ ({} : Assume).holds C.prog (lone (Frame.enter C.prog f i.args .normal) [] (w.forCall tape i)))
   (laid : laidOutB C.prog = true) (rows : (fn.params.toList.all (fun t => C.prog.readableRec t && decide (t < C.prog.types.size))) = true)
   (rd : RdVs C.prog fn.params.toList ps) (svars : s.vars = [])
   (sfn : ∀ ds : List (DataW H), ds.length = fn.params.toList.length → (s.fn H ds).results = [.lit (.bool true)] ∧ (s.fn H ds).args = ds ∧ (s.fn H ds).vars = [])
   (hres : fn.resultTypes = #[tb]) (hb : C.prog.underlying tb = some .bool)
   (walk : ∀ xs, AllP ps xs → FnP C.prog f xs (.bool true)) :
   ReturnsInHanded {} C os f .any (s.pre6 enc C.prog fn conds false) (s.post enc C.prog fn false true false false) := by
 refine returnsInHanded_of_change own started noInit hfn witness ?_
 intro W base args ds gs before hval hW hcnd _
 have hW' := hW
 obtain ⟨p, q, hA, hV, rfl, hfz, hnd⟩ := hW
 rw [svars] at hV
 obtain ⟨rfl, rfl⟩ := trodVars_none hV
 have hlt := hW'.lt
 simp only [List.append_nil] at hlt
 have hlen := trodAll_len hA
 obtain ⟨e1, e2, e3⟩ := sfn ds hlen
 obtain ⟨xs, hxs, hrxs⟩ := args_read (base := base) rd (fun j t v h h' => hval j t v (by simpa using h) (by simpa using h')) hA
 have hc := (walk xs hxs).2 W (GWh W) args.toList (GWh_ok W) hrxs
 rw [show args.toList.toArray = args from rfl] at hc
 refine hc.mono fun e W' ⟨v, G', he, hv, hG, hx⟩ => ?_
 subst he
 simp only [Rel] at hv
 subst hv
 have bel := below_of_ext hx
 refine ⟨_, rfl, post_old (pa := p) (pv := []) hW' ?_ ?_ ?_ rfl (bel.frame _) hx.fz ?_⟩
 · intro b sp hd
   simp only [List.append_nil, e1, hres]
   exact trodAll_cons_mk (shut_bool hb _) trodAll_mk0
 · intro sp hsp
   simp only [List.append_nil, e2]
   simp only [List.append_nil] at hsp
   exact args_stay laid bel rows hA hlt sp hsp
 · intro sp hsp
   simp only [List.append_nil, e3, svars]
   rfl
 · exact ok_one hres rfl (okWide_bool_mk hb _)
end Go.AI
end
