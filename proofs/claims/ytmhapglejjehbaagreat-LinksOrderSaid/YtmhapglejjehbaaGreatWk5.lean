/- Buckets and their bytes, plain. -/
import Derived.Test.YtmhapglejjehbaaGreatWk4
import Derived.Test.YtmhapglejjehbaaGreatWk3
import Derived.Test.YtmhapglejjehbaaGreatDa
import Derived.Test.YtmhapglejjehbaaGreatAe
import Derived.Test.YtmhapglejjehbaaGreatAf
set_option linter.all false
set_option linter.unnecessarySimpa false
namespace Go.Proofs.YtmhapglejjehbaaGreat
open Go Go.AI Go.Proofs
structure Bucket where
 weight : Int
 watch : Int
 wgroup : Int
 acts : List Action
 deriving DecidableEq, Inhabited
def Bucket.enc (x : Bucket) : List AV := [.int .i64 x.weight, .int .i64 x.watch, .int .i64 x.wgroup, .sl false x.acts.length (actL x.acts)]
@[simp] theorem Bucket.len (x : Bucket) : x.enc.length = 4 := rfl
@[simp] theorem Bucket.cl (x : Bucket) : ClL x.enc = true := by simp [Bucket.enc, ClL, Cl]
def bukL (l : List Bucket) : List AV := l.flatMap Bucket.enc
def bukS (l : List Bucket) : AV := .sl false l.length (bukL l)
@[simp] theorem bukL_len (l : List Bucket) : (bukL l).length = l.length * 4 := fm_length Bucket.len l
@[simp] theorem bukL_cl (l : List Bucket) : ClL (bukL l) = true := ClL_flatMap _ Bucket.cl l
theorem buk_sub (l : List Bucket) (i : Nat) (h : i < l.length) : ((bukL l).drop (i * 4)).take 4 = (nth l i).enc := fm_nth Bucket.len l i h
theorem buk_load (l : List Bucket) (i : Nat) (h : i < l.length) : ((bukL l).drop (i * 4)).take 4 = (nth l i).enc ∧ 4 ≤ l.length * 4 - i * 4 := ⟨buk_sub l i h, by omega⟩
@[simp] theorem bukS_cl (l : List Bucket) : Cl (bukS l) = true := by simp [bukS, Cl]
@[simp] theorem bukL_take (l : List Bucket) : (bukL l).take (l.length * 4) = bukL l := List.take_of_length_le (by simp)
@[simp] theorem bukL_nil : bukL [] = [] := rfl
@[simp] theorem Bucket.take (x : Bucket) : x.enc.take 4 = x.enc := rfl
@[simp] theorem Bucket.drop (x : Bucket) : x.enc.drop 4 = [] := rfl
theorem buk_get (l : List Bucket) (i k : Nat) (h : i < l.length) (hk : k < 4) (h' : i * 4 + k < (bukL l).length) : (bukL l)[i * 4 + k] = ((nth l i).enc)[k]'(by rw [Bucket.len]; exact hk) := fm_get Bucket.len l i k h hk h'
def bkRight (x : Bucket) : Bool := (acEnc x.acts).2 == 0 && (numOk x.weight 2 && (numOk x.watch 4 && numOk x.wgroup 4))
def bkOne (x : Bucket) : List (BitVec 8) := beN (16 + (acEnc x.acts).1.length : Nat) 2 ++ (beN x.weight 2 ++ (beN x.watch 4 ++ (beN x.wgroup 4 ++ (List.replicate 4 0#8 ++ (acEnc x.acts).1))))
theorem bkOne_len (x : Bucket) : (bkOne x).length = 16 + (acEnc x.acts).1.length := by
 unfold bkOne; simp [beN_len]; omega

def bkEnc (l : List Bucket) : List (BitVec 8) × Int := if l.length ≤ 100 ∧ l.all bkRight = true ∧ (rwFlat bkOne l).length ≤ 60000 then (rwFlat bkOne l, 0) else ([], 1)
structure GroupMod where
 command : Int
 kind : Int
 id : Int
 buckets : List Bucket
 deriving DecidableEq, Inhabited
def GroupMod.enc (g : GroupMod) : List AV := [.int .i64 g.command, .int .i64 g.kind, .int .i64 g.id, .sl false g.buckets.length (bukL g.buckets)]
end Go.Proofs.YtmhapglejjehbaaGreat

namespace Go.Proofs.YtmhapglejjehbaaGreat
open Go Go.AI Go.Proofs Go.Proofs.YtmhapglejjehbaaGreat
theorem rdBucket {w : World} {H : Type} {enc : TypeId × Value → H} {sp : Nat → Bool} {held : Bool} : Rd enc Tryz.prog w sp held 98 Bucket.enc := by
 intro fuel cs x h
 obtain ⟨hl, fuel', hf⟩ := trod_struct Tryz.underlying98 h
 simp only [cellsOf_sz, sz98] at hl
 simp only [List.mem_cons, List.not_mem_nil, or_false, forall_eq_or_imp, forall_eq, cellsOf_sz, sz3, sz96] at hf
 match cs, hl, hf with
 | [c0, c1, c2, c3], _, ⟨⟨y0, h0⟩, ⟨y1, h1⟩, ⟨y2, h2⟩, ⟨y3, h3⟩⟩ =>
   obtain ⟨n0, e0⟩ := rd_int Tryz.underlying3 h0
   obtain ⟨n1, e1⟩ := rd_int Tryz.underlying3 h1
   obtain ⟨n2, e2⟩ := rd_int Tryz.underlying3 h2
   obtain ⟨l, u, e3, r3⟩ := rd_slice (s := 11) (f := Action.enc) Tryz.underlying96 (by kernel_rfl) (by omega) Action.len rdAction h3
   simp at e0 e1 e2 e3
   subst e0 e1 e2 e3
   exact ⟨⟨n0, n1, n2, l⟩, RelL.cons (by simp [Rel]) (RelL.cons (by simp [Rel]) (RelL.cons (by simp [Rel]) (RelL.cons r3 RelL.nil))),
     (Ones.append (vs := [_, _, _]) (by simp [Ones, Value.oneCell']) (Ones.single (one_of_sl r3)))⟩
end Go.Proofs.YtmhapglejjehbaaGreat

namespace Go.Proofs.YtmhapglejjehbaaGreat
open Go Go.AI Go.Proofs
structure Need where
 field : Int
 values : List Wide
 deriving DecidableEq, Inhabited
def w64 (x : BitVec 64) : Wide := ⟨0#64, x⟩
def nEth (vs : List (BitVec 64)) : Need := ⟨4, vs.map w64⟩
def nProto (x : BitVec 64) : Need := ⟨9, [w64 x]⟩
def needs (f : Int) : List Need :=
 if f = 6 then [⟨5, []⟩] else if f = 7 ∨ f = 8 ∨ f = 9 then [nEth [0x800#64, 0x86dd#64]] else if f = 10 ∨ f = 11 then [nEth [0x800#64]]
 else if f = 12 ∨ f = 13 then [nEth [0x800#64, 0x86dd#64], nProto 6#64] else if f = 14 ∨ f = 15 then [nEth [0x800#64, 0x86dd#64], nProto 17#64]
 else if f = 16 ∨ f = 17 then [nEth [0x800#64], nProto 1#64] else if f = 18 ∨ f = 19 ∨ f = 20 then [nEth [0x806#64]] else if f = 21 ∨ f = 22 then [nEth [0x86dd#64]]
 else if f = 23 then [nEth [0x8847#64, 0x8848#64]] else []
def mGives (o : Oxm) (n : Need) : Bool := o.field == n.field && (n.values.length == 0 || (!o.masked && n.values.any fun v => o.value == v))
def mMet (l : List Oxm) (f : Int) : Bool := (needs f).all fun n => l.any fun o => mGives o n
def mCheckF : List Oxm → List Oxm → Option Int
 | _, [] => none
 | acc, o :: r => if (acc.any fun p => p.field == o.field) = true then some 10 else if mMet acc o.field = false then some 9 else mCheckF (acc ++ [o]) r
def mCheck (l : List Oxm) : Option Int := mCheckF [] l
def mPad (n : Nat) : Nat := (n + 7) / 8 * 8
def oBytes (o : Oxm) : List (BitVec 8) := (oEnc o).1
def mWhole (l : List Oxm) : List (BitVec 8) := beN 1 2 ++ (beN (4 + (rwFlat oBytes l).length : Nat) 2 ++ (rwFlat oBytes l ++ List.replicate (mPad (4 + (rwFlat oBytes l).length) - (4 + (rwFlat oBytes l).length)) 0#8))
def mFit (l : List Oxm) : Bool := (mCheck l).isNone && l.all Oxm.right
def mEnc (l : List Oxm) : List (BitVec 8) × Int := if mFit l = true ∧ (rwFlat oBytes l).length ≤ 1000 then (mWhole l, 0) else ([], 1)
theorem mPad_ge (n : Nat) : n ≤ mPad n ∧ mPad n < n + 8 ∧ mPad n % 8 = 0 := by unfold mPad; omega
theorem mFit_facts {l : List Oxm} (h : mFit l = true) : mCheck l = none ∧ ∀ o, o ∈ l → Oxm.right o = true := by
 unfold mFit at h
 rw [Bool.and_eq_true, List.all_eq_true] at h
 exact ⟨by simpa using h.1, h.2⟩
theorem mEnc_bad1 {l : List Oxm} (h : ¬ (mFit l = true ∧ (rwFlat oBytes l).length ≤ 1000)) : mEnc l = ([], 1) := by unfold mEnc; rw [if_neg h]
theorem mWhole_len (l : List Oxm) : (mWhole l).length = mPad (4 + (rwFlat oBytes l).length) := by
 have := mPad_ge (4 + (rwFlat oBytes l).length)
 unfold mWhole; simp [beN_len]; omega

def firstI (p : Nat → Bool) (n : Nat) : Int := match (List.range n).find? p with | some i => i | none => -1
theorem firstI_some {p : Nat → Bool} {n i : Nat} (h : i < n) (hp : p i = true) (hn : ∀ j, j < i → p j = false) : firstI p n = i := by
 unfold firstI
 have : (List.range n).find? p = some i := by
   rw [List.find?_range_eq_some]
   exact ⟨hp, by simpa using h, fun j hj => by simp [hn j hj]⟩
 rw [this]
theorem firstI_none {p : Nat → Bool} {n : Nat} (hn : ∀ j, j < n → p j = false) : firstI p n = -1 := by
 unfold firstI
 have : (List.range n).find? p = none := by
   rw [List.find?_range_eq_none]
   exact fun i hi => by simp [hn i hi]
 rw [this]
theorem firstI_ge (p : Nat → Bool) (n : Nat) : decide (0 ≤ firstI p n) = (List.range n).any p := by
 unfold firstI
 cases h : (List.range n).find? p with
 | none =>
   rw [List.find?_range_eq_none] at h
   have : (List.range n).any p = false := by rw [List.any_eq_false]; intro x hx; have := h x (by simpa using hx); simpa using this
   simp [this]
 | some i =>
   rw [List.find?_range_eq_some] at h
   have : (List.range n).any p = true := List.any_eq_true.2 ⟨i, h.2.1, h.1⟩
   simp [this]
structure Tst (x : AV) (p : Flow → Bool) : Prop where
 f : ∃ fid caps, x = .fn fid caps ∧ ClL caps = true ∧ ∀ f, FPl f → FnP Tryz.prog fid (.agg f.enc :: caps) (.bool (p f))
theorem int_sub (l : List Int) (i : Nat) (h : i < l.length) (h' : i < (intL l).length) : (intL l)[i] = .int .i64 (nth l i) := by simp [intL, nth_eq h]
theorem index_c (l : List Int) (v : Int) (hl : l.length ≤ 1000000) : FnP Tryz.prog 34 [intS l, .int .i64 v] (.int .i64 (firstI (fun i => v == nth l i) l.length)) := by
 unfold intS
 refine FnP.i Tryz.func34 rfl rfl fun G w => ?_
 repeat (first | apply WK.s | apply WK.b | apply WK.n | apply WK.k | apply WK.label | apply WK.scope | apply WK.inScope | refine WK.exit rfl ?_)
 first | refine WK.g 100 Tryz.ntmps34 (by kernel_rfl) ?_ | refine WK.regD 100 clsOf (by kernel_rfl) Tryz.ntmps34 (by kernel_rfl) (by kernel_rfl) ?_
 intro A hA Q hQ
 simp
 apply hQ
 clear hQ hA
 repeat (first | apply WK.s | apply WK.b | apply WK.n | apply WK.k | apply WK.label | apply WK.scope | apply WK.inScope | refine WK.exit rfl ?_)
 first | refine WK.g 200 Tryz.ntmps34 (by kernel_rfl) ?_ | refine WK.regD 200 clsOf (by kernel_rfl) Tryz.ntmps34 (by kernel_rfl) (by kernel_rfl) ?_
 intro A hA Q hQ
 simp
 apply hQ
 clear hQ hA
 repeat (first | apply WK.s | apply WK.b | apply WK.n | apply WK.k | apply WK.label | apply WK.scope | apply WK.inScope | refine WK.exit rfl ?_)
 refine WK.lI (fun n => n) (fun i : Nat => (⟨(upd (upd (upd (upd J 0 (.sl false l.length (intL l))) 1 (.int .i64 v)) 7 (.int .i64 l.length)) 8 (.int .i64 i)), B0, 0⟩ : St)) (fun i => i ≤ l.length ∧ ∀ j, j < i → (v == nth l j) = false) (fun i => l.length - i) (0) (by repeat (first | exact TmW.nil | refine TmW.upd ?_ (by simp (maxDischargeDepth := 120)))) (by repeat (first | exact BxW.nil | refine BxW.upd ?_ (by simp (maxDischargeDepth := 120)))) InjW.id (⟨by omega, by simp⟩) (fun i hi IH => ?_)
 repeat (first | apply WK.s | apply WK.b | apply WK.n | apply WK.k | apply WK.label | apply WK.scope | apply WK.inScope | refine WK.exit rfl ?_)
 first | refine WK.g 300 Tryz.ntmps34 (by kernel_rfl) ?_ | refine WK.regD 300 clsOf (by kernel_rfl) Tryz.ntmps34 (by kernel_rfl) (by kernel_rfl) ?_
 intro A hA Q hQ
 simp
 apply hQ
 clear hQ hA
 repeat (first | apply WK.s | apply WK.b | apply WK.n | apply WK.k | apply WK.label | apply WK.scope | apply WK.inScope | refine WK.exit rfl ?_)
 refine WK.c2 rfl (fun h1 => ?_) (fun h1 => ?_)
 · simp at h1
   have h2 : i < l.length := by omega
   have h4 := int_sub l i h2
   have h6 : IntKind.i64.wrap ((i : Int) + 1) = i + 1 := wrap_i64 (by omega) (by omega)
   repeat (first | apply WK.s | apply WK.b | apply WK.n | apply WK.k | apply WK.label | apply WK.scope | apply WK.inScope | refine WK.exit rfl ?_)
   first | refine WK.g 400 Tryz.ntmps34 (by kernel_rfl) ?_ | refine WK.regD 400 clsOf (by kernel_rfl) Tryz.ntmps34 (by kernel_rfl) (by kernel_rfl) ?_
   intro A hA Q hQ
   simp
   apply hQ
   clear hQ hA
   repeat (first | apply WK.s | apply WK.b | apply WK.n | apply WK.k | apply WK.label | apply WK.scope | apply WK.inScope | refine WK.exit rfl ?_)
   first | refine WK.g 500 Tryz.ntmps34 (by kernel_rfl) ?_ | refine WK.regD 500 clsOf (by kernel_rfl) Tryz.ntmps34 (by kernel_rfl) (by kernel_rfl) ?_
   intro A hA Q hQ
   simp [h2, h4]
   apply hQ
   clear hQ hA
   repeat (first | apply WK.s | apply WK.b | apply WK.n | apply WK.k | apply WK.label | apply WK.scope | apply WK.inScope | refine WK.exit rfl ?_)
   refine WK.c2 rfl (fun h5 => ?_) (fun h5 => ?_)
   · have e := firstI_some (p := fun i => v == nth l i) h2 h5 hi.2
     repeat (first | apply WK.s | apply WK.b | apply WK.n | apply WK.k | apply WK.label | apply WK.scope | apply WK.inScope | refine WK.exit rfl ?_)
     first | refine WK.g 600 Tryz.ntmps34 (by kernel_rfl) ?_ | refine WK.regD 600 clsOf (by kernel_rfl) Tryz.ntmps34 (by kernel_rfl) (by kernel_rfl) ?_
     intro A hA Q hQ
     simp
     apply hQ
     clear hQ hA
     repeat (first | apply WK.s | apply WK.b | apply WK.n | apply WK.k | apply WK.label | apply WK.scope | apply WK.inScope | refine WK.exit rfl ?_)
     refine WK.t Tryz.func34 (by simp (maxDischargeDepth := 120) [Tryz.results34, e]) (by simp [e])
   · repeat (first | apply WK.s | apply WK.b | apply WK.n | apply WK.k | apply WK.label | apply WK.scope | apply WK.inScope | refine WK.exit rfl ?_)
     first | refine WK.g 700 Tryz.ntmps34 (by kernel_rfl) ?_ | refine WK.regD 700 clsOf (by kernel_rfl) Tryz.ntmps34 (by kernel_rfl) (by kernel_rfl) ?_
     intro A hA Q hQ
     simp [h6]
     apply hQ
     clear hQ hA
     repeat (first | apply WK.s | apply WK.b | apply WK.n | apply WK.k | apply WK.label | apply WK.scope | apply WK.inScope | refine WK.exit rfl ?_)
     refine WK.next (fun n => n) (IH (i + 1) (⟨by omega, fun j hj => by by_cases h7 : j = i; (subst h7; exact h5); exact hi.2 j (by omega)⟩) (by first | omega | (dsimp only; omega))) (by repeat (first | exact TmW.nil | refine TmW.upd ?_ (by simp (maxDischargeDepth := 120)))) (by repeat (first | exact BxW.nil | refine BxW.upd ?_ (by simp (maxDischargeDepth := 120)))) InjW.id
 · simp at h1
   have e := firstI_none (p := fun i => v == nth l i) (n := l.length) (fun j hj => hi.2 j (by omega))
   repeat (first | apply WK.s | apply WK.b | apply WK.n | apply WK.k | apply WK.label | apply WK.scope | apply WK.inScope | refine WK.exit rfl ?_)
   first | refine WK.g 800 Tryz.ntmps34 (by kernel_rfl) ?_ | refine WK.regD 800 clsOf (by kernel_rfl) Tryz.ntmps34 (by kernel_rfl) (by kernel_rfl) ?_
   intro A hA Q hQ
   simp
   apply hQ
   clear hQ hA
   repeat (first | apply WK.s | apply WK.b | apply WK.n | apply WK.k | apply WK.label | apply WK.scope | apply WK.inScope | refine WK.exit rfl ?_)
   refine WK.t Tryz.func34 (by simp (maxDischargeDepth := 120) [Tryz.results34, e]) (by simp [e])
theorem contains_c (l : List Int) (v : Int) (hl : l.length ≤ 1000000) : FnP Tryz.prog 18 [intS l, .int .i64 v] (.bool (l.any fun x => v == x)) := by
 have e := firstI_ge (fun i => v == nth l i) l.length
 have e2 : (List.range l.length).any (fun i => v == nth l i) = l.any fun x => v == x := by
   rw [Bool.eq_iff_iff, List.any_eq_true, List.any_eq_true]
   constructor
   · rintro ⟨i, hi, h⟩; exact ⟨nth l i, nth_mem (by simpa using hi), h⟩
   · rintro ⟨x, hx, h⟩; obtain ⟨i, hi, rfl⟩ := mem_nth hx; exact ⟨i, by simpa using hi, h⟩
 rw [e2] at e
 refine FnP.i Tryz.func18 rfl rfl fun G w => ?_
 repeat (first | apply WK.s | apply WK.b | apply WK.n | apply WK.k | apply WK.label | apply WK.scope | apply WK.inScope | refine WK.exit rfl ?_)
 first | refine WK.g 100 Tryz.ntmps18 (by kernel_rfl) ?_ | refine WK.regD 100 clsOf (by kernel_rfl) Tryz.ntmps18 (by kernel_rfl) (by kernel_rfl) ?_
 intro A hA Q hQ
 simp
 apply hQ
 clear hQ hA
 repeat (first | apply WK.s | apply WK.b | apply WK.n | apply WK.k | apply WK.label | apply WK.scope | apply WK.inScope | refine WK.exit rfl ?_)
 first | refine WK.g 200 Tryz.ntmps18 (by kernel_rfl) ?_ | refine WK.regD 200 clsOf (by kernel_rfl) Tryz.ntmps18 (by kernel_rfl) (by kernel_rfl) ?_
 intro A hA Q hQ
 simp
 refine RunQ.call rfl rfl rfl rfl (by rfl) (by simp (maxDischargeDepth := 120)) (index_c l v hl) (by simp) ?_
 refine RunQ.eval ?_
 simp
 apply hQ
 clear hQ hA
 repeat (first | apply WK.s | apply WK.b | apply WK.n | apply WK.k | apply WK.label | apply WK.scope | apply WK.inScope | refine WK.exit rfl ?_)
 refine WK.t Tryz.func18 (by simp (maxDischargeDepth := 120) [Tryz.results18, e]) (by simp [e])
def someOk (n e : Int) (l : List Int) : Bool := n == e || l.any fun x => n == x

def Flow.out (f : Flow) (p g : Int) : Bool := someOk p 4294967295 (Flow.goPorts f) && someOk g 4294967295 (Flow.goGroups f)
theorem Tst.congr {x : AV} {p q : Flow → Bool} (h : Tst x p) (e : ∀ f, p f = q f) : Tst x q := by
 have : p = q := funext e
 rw [← this]; exact h

theorem intL_take {l : List Int} {i : Nat} (h : i < l.length) : intL (l.take (i + 1)) = intL (l.take i) ++ [.int .i64 (nth l i)] := by rw [take_nth h]; simp [intL]

def bare (m : FlowMod) : FlowMod := { m with cookieMask := 0#64, outPort := 4294967295, outGroup := 4294967295 }

theorem indexf_flow (fid : Nat) (caps : List AV) (p : Flow → Bool) (l : List Flow) (hcl : ClL caps = true) (hl : l.length ≤ 1000000)
   (hf : ∀ x, x ∈ l → FnP Tryz.prog fid (.agg x.enc :: caps) (.bool (p x))) :
   FnP Tryz.prog 87 [flowS l, .fn fid caps] (.int .i64 (idxI p l)) := by
 unfold flowS
 refine FnP.i Tryz.func87 rfl rfl fun G w => ?_
 repeat (first | apply WK.s | apply WK.b | apply WK.n | apply WK.k | apply WK.label | apply WK.scope | apply WK.inScope | refine WK.exit rfl ?_)
 first | refine WK.g 100 Tryz.ntmps87 (by kernel_rfl) ?_ | refine WK.regD 100 clsOf (by kernel_rfl) Tryz.ntmps87 (by kernel_rfl) (by kernel_rfl) ?_
 intro A hA Q hQ
 simp
 apply hQ
 clear hQ hA
 repeat (first | apply WK.s | apply WK.b | apply WK.n | apply WK.k | apply WK.label | apply WK.scope | apply WK.inScope | refine WK.exit rfl ?_)
 first | refine WK.g 200 Tryz.ntmps87 (by kernel_rfl) ?_ | refine WK.regD 200 clsOf (by kernel_rfl) Tryz.ntmps87 (by kernel_rfl) (by kernel_rfl) ?_
 intro A hA Q hQ
 simp
 apply hQ
 clear hQ hA
 repeat (first | apply WK.s | apply WK.b | apply WK.n | apply WK.k | apply WK.label | apply WK.scope | apply WK.inScope | refine WK.exit rfl ?_)
 refine WK.lI (fun n => n) (fun i : Nat => (⟨(upd (upd (upd (upd J 0 (.sl false l.length (flowL l))) 1 (.fn fid caps)) 7 (.int .i64 l.length)) 8 (.int .i64 i)), B0, 0⟩ : St)) (fun i => i ≤ l.length ∧ ∀ j, j < i → p (nth l j) = false) (fun i => l.length - i) (0) (by repeat (first | exact TmW.nil | refine TmW.upd ?_ (by simp (maxDischargeDepth := 120) [hcl]))) (by repeat (first | exact BxW.nil | refine BxW.upd ?_ (by simp (maxDischargeDepth := 120) [hcl]))) InjW.id (⟨by omega, by simp⟩) (fun i hi IH => ?_)
 repeat (first | apply WK.s | apply WK.b | apply WK.n | apply WK.k | apply WK.label | apply WK.scope | apply WK.inScope | refine WK.exit rfl ?_)
 first | refine WK.g 300 Tryz.ntmps87 (by kernel_rfl) ?_ | refine WK.regD 300 clsOf (by kernel_rfl) Tryz.ntmps87 (by kernel_rfl) (by kernel_rfl) ?_
 intro A hA Q hQ
 simp
 apply hQ
 clear hQ hA
 repeat (first | apply WK.s | apply WK.b | apply WK.n | apply WK.k | apply WK.label | apply WK.scope | apply WK.inScope | refine WK.exit rfl ?_)
 refine WK.c2 rfl (fun h1 => ?_) (fun h1 => ?_)
 · simp at h1
   have h2 : i < l.length := by omega
   have h3 : 7 ≤ l.length * 7 - i * 7 := by omega
   have h4 := flow_sub l i h2
   have h6 : IntKind.i64.wrap ((i : Int) + 1) = i + 1 := wrap_i64 (by omega) (by omega)
   repeat (first | apply WK.s | apply WK.b | apply WK.n | apply WK.k | apply WK.label | apply WK.scope | apply WK.inScope | refine WK.exit rfl ?_)
   first | refine WK.g 400 Tryz.ntmps87 (by kernel_rfl) ?_ | refine WK.regD 400 clsOf (by kernel_rfl) Tryz.ntmps87 (by kernel_rfl) (by kernel_rfl) ?_
   intro A hA Q hQ
   simp
   apply hQ
   clear hQ hA
   repeat (first | apply WK.s | apply WK.b | apply WK.n | apply WK.k | apply WK.label | apply WK.scope | apply WK.inScope | refine WK.exit rfl ?_)
   first | refine WK.g 500 Tryz.ntmps87 (by kernel_rfl) ?_ | refine WK.regD 500 clsOf (by kernel_rfl) Tryz.ntmps87 (by kernel_rfl) (by kernel_rfl) ?_
   intro A hA Q hQ
   simp [h2, h3, h4]
   refine RunQ.call rfl rfl rfl rfl (by rfl) (by simp (maxDischargeDepth := 120) [hcl]) (hf (nth l i) (nth_mem h2)) (by simp [hcl]) ?_
   refine RunQ.eval ?_
   simp [hcl]
   apply hQ
   clear hQ hA
   repeat (first | apply WK.s | apply WK.b | apply WK.n | apply WK.k | apply WK.label | apply WK.scope | apply WK.inScope | refine WK.exit rfl ?_)
   refine WK.c2 rfl (fun h5 => ?_) (fun h5 => ?_)
   · have e := idxI_some h2 h5 hi.2
     repeat (first | apply WK.s | apply WK.b | apply WK.n | apply WK.k | apply WK.label | apply WK.scope | apply WK.inScope | refine WK.exit rfl ?_)
     first | refine WK.g 600 Tryz.ntmps87 (by kernel_rfl) ?_ | refine WK.regD 600 clsOf (by kernel_rfl) Tryz.ntmps87 (by kernel_rfl) (by kernel_rfl) ?_
     intro A hA Q hQ
     simp
     apply hQ
     clear hQ hA
     repeat (first | apply WK.s | apply WK.b | apply WK.n | apply WK.k | apply WK.label | apply WK.scope | apply WK.inScope | refine WK.exit rfl ?_)
     refine WK.t Tryz.func87 (by simp (maxDischargeDepth := 120) [Tryz.results87, e]) (by simp [e])
   · repeat (first | apply WK.s | apply WK.b | apply WK.n | apply WK.k | apply WK.label | apply WK.scope | apply WK.inScope | refine WK.exit rfl ?_)
     first | refine WK.g 700 Tryz.ntmps87 (by kernel_rfl) ?_ | refine WK.regD 700 clsOf (by kernel_rfl) Tryz.ntmps87 (by kernel_rfl) (by kernel_rfl) ?_
     intro A hA Q hQ
     simp [h6]
     apply hQ
     clear hQ hA
     repeat (first | apply WK.s | apply WK.b | apply WK.n | apply WK.k | apply WK.label | apply WK.scope | apply WK.inScope | refine WK.exit rfl ?_)
     refine WK.next (fun n => n) (IH (i + 1) (⟨by omega, fun j hj => by by_cases h7 : j = i; (subst h7; exact h5); exact hi.2 j (by omega)⟩) (by first | omega | (dsimp only; omega))) (by repeat (first | exact TmW.nil | refine TmW.upd ?_ (by simp (maxDischargeDepth := 120) [hcl]))) (by repeat (first | exact BxW.nil | refine BxW.upd ?_ (by simp (maxDischargeDepth := 120) [hcl]))) InjW.id
 · simp at h1
   have e := idxI_none (p := p) (l := l) (fun j hj => hi.2 j (by omega))
   repeat (first | apply WK.s | apply WK.b | apply WK.n | apply WK.k | apply WK.label | apply WK.scope | apply WK.inScope | refine WK.exit rfl ?_)
   first | refine WK.g 800 Tryz.ntmps87 (by kernel_rfl) ?_ | refine WK.regD 800 clsOf (by kernel_rfl) Tryz.ntmps87 (by kernel_rfl) (by kernel_rfl) ?_
   intro A hA Q hQ
   simp
   apply hQ
   clear hQ hA
   repeat (first | apply WK.s | apply WK.b | apply WK.n | apply WK.k | apply WK.label | apply WK.scope | apply WK.inScope | refine WK.exit rfl ?_)
   refine WK.t Tryz.func87 (by simp (maxDischargeDepth := 120) [Tryz.results87, e]) (by simp [e])
theorem containsf_flow (fid : Nat) (caps : List AV) (p : Flow → Bool) (l : List Flow) (hcl : ClL caps = true) (hl : l.length ≤ 1000000)
   (hf : ∀ x, x ∈ l → FnP Tryz.prog fid (.agg x.enc :: caps) (.bool (p x))) :
   FnP Tryz.prog 48 [flowS l, .fn fid caps] (.bool (l.any p)) := by
 have e := idxI_ge p l
 simp only [ge_iff_le] at e
 refine FnP.i Tryz.func48 rfl rfl fun G w => ?_
 repeat (first | apply WK.s | apply WK.b | apply WK.n | apply WK.k | apply WK.label | apply WK.scope | apply WK.inScope | refine WK.exit rfl ?_)
 first | refine WK.g 100 Tryz.ntmps48 (by kernel_rfl) ?_ | refine WK.regD 100 clsOf (by kernel_rfl) Tryz.ntmps48 (by kernel_rfl) (by kernel_rfl) ?_
 intro A hA Q hQ
 simp
 apply hQ
 clear hQ hA
 repeat (first | apply WK.s | apply WK.b | apply WK.n | apply WK.k | apply WK.label | apply WK.scope | apply WK.inScope | refine WK.exit rfl ?_)
 first | refine WK.g 200 Tryz.ntmps48 (by kernel_rfl) ?_ | refine WK.regD 200 clsOf (by kernel_rfl) Tryz.ntmps48 (by kernel_rfl) (by kernel_rfl) ?_
 intro A hA Q hQ
 simp
 refine RunQ.call rfl rfl rfl rfl (by rfl) (by simp (maxDischargeDepth := 120) [hcl]) (indexf_flow fid caps p l hcl hl hf) (by simp [hcl]) ?_
 refine RunQ.eval ?_
 simp [hcl]
 apply hQ
 clear hQ hA
 repeat (first | apply WK.s | apply WK.b | apply WK.n | apply WK.k | apply WK.label | apply WK.scope | apply WK.inScope | refine WK.exit rfl ?_)
 refine WK.t Tryz.func48 (by simp (maxDischargeDepth := 120) [Tryz.results48, e]) (by simp [e])
def flowsPlain (l : List Flow) (n : Int) : Bool := decide ((l.length : Int) ≤ n) && l.all Flow.plain
theorem pflow1_c (f : Flow) : FnP Tryz.prog 60 [.agg f.enc] (.bool (!Flow.plain f)) := by
 refine FnP.i Tryz.func60 rfl rfl fun G w => ?_
 repeat (first | apply WK.s | apply WK.b | apply WK.n | apply WK.k | apply WK.label | apply WK.scope | apply WK.inScope | refine WK.exit rfl ?_)
 first | refine WK.g 100 Tryz.ntmps60 (by kernel_rfl) ?_ | refine WK.regD 100 clsOf (by kernel_rfl) Tryz.ntmps60 (by kernel_rfl) (by kernel_rfl) ?_
 intro A hA Q hQ
 simp
 apply hQ
 clear hQ hA
 repeat (first | apply WK.s | apply WK.b | apply WK.n | apply WK.k | apply WK.label | apply WK.scope | apply WK.inScope | refine WK.exit rfl ?_)
 first | refine WK.g 200 Tryz.ntmps60 (by kernel_rfl) ?_ | refine WK.regD 200 clsOf (by kernel_rfl) Tryz.ntmps60 (by kernel_rfl) (by kernel_rfl) ?_
 intro A hA Q hQ
 simp
 refine RunQ.call rfl rfl rfl rfl (by rfl) (by simp (maxDischargeDepth := 120)) (pFlow_c f) (by simp) ?_
 refine RunQ.eval ?_
 simp
 apply hQ
 clear hQ hA
 repeat (first | apply WK.s | apply WK.b | apply WK.n | apply WK.k | apply WK.label | apply WK.scope | apply WK.inScope | refine WK.exit rfl ?_)
 refine WK.t Tryz.func60 (by simp (maxDischargeDepth := 120) [Tryz.results60]) (by simp)
theorem pFlows_c (l : List Flow) (n : Int) (hn : n ≤ 1000000) : FnP Tryz.prog 36 [flowS l, .int .i64 n] (.bool (flowsPlain l n)) := by
 have e : (!(l.any fun f => !Flow.plain f)) = l.all Flow.plain := by rw [List.any_eq_not_all_not]; simp
 unfold flowS
 cases k : decide ((l.length : Int) ≤ n)
 · refine FnP.i Tryz.func36 rfl rfl fun G w => ?_
   repeat (first | apply WK.s | apply WK.b | apply WK.n | apply WK.k | apply WK.label | apply WK.scope | apply WK.inScope | refine WK.exit rfl ?_)
   first | refine WK.g 100 Tryz.ntmps36 (by kernel_rfl) ?_ | refine WK.regD 100 clsOf (by kernel_rfl) Tryz.ntmps36 (by kernel_rfl) (by kernel_rfl) ?_
   intro A hA Q hQ
   simp
   apply hQ
   clear hQ hA
   repeat (first | apply WK.s | apply WK.b | apply WK.n | apply WK.k | apply WK.label | apply WK.scope | apply WK.inScope | refine WK.exit rfl ?_)
   first | refine WK.g 200 Tryz.ntmps36 (by kernel_rfl) ?_ | refine WK.regD 200 clsOf (by kernel_rfl) Tryz.ntmps36 (by kernel_rfl) (by kernel_rfl) ?_
   intro A hA Q hQ
   have hg4 : (A[4]?).bind (·.dst) = some 9 := by rw [hA]; rfl
   simp [k, hg4]
   apply hQ
   clear hQ hA
   repeat (first | apply WK.s | apply WK.b | apply WK.n | apply WK.k | apply WK.label | apply WK.scope | apply WK.inScope | refine WK.exit rfl ?_)
   refine WK.t Tryz.func36 (by simp (maxDischargeDepth := 120) [Tryz.results36, flowsPlain, k]) (by simp [flowsPlain, k])
 · have hl : l.length ≤ 1000000 := by have := of_decide_eq_true k; omega
   refine FnP.i Tryz.func36 rfl rfl fun G w => ?_
   repeat (first | apply WK.s | apply WK.b | apply WK.n | apply WK.k | apply WK.label | apply WK.scope | apply WK.inScope | refine WK.exit rfl ?_)
   first | refine WK.g 100 Tryz.ntmps36 (by kernel_rfl) ?_ | refine WK.regD 100 clsOf (by kernel_rfl) Tryz.ntmps36 (by kernel_rfl) (by kernel_rfl) ?_
   intro A hA Q hQ
   simp
   apply hQ
   clear hQ hA
   repeat (first | apply WK.s | apply WK.b | apply WK.n | apply WK.k | apply WK.label | apply WK.scope | apply WK.inScope | refine WK.exit rfl ?_)
   first | refine WK.g 200 Tryz.ntmps36 (by kernel_rfl) ?_ | refine WK.regD 200 clsOf (by kernel_rfl) Tryz.ntmps36 (by kernel_rfl) (by kernel_rfl) ?_
   intro A hA Q hQ
   have hg4 : (A[4]?).bind (·.dst) = some 9 := by rw [hA]; rfl
   simp [k, hg4]
   refine RunQ.callG rfl rfl (by simp [hg4, flowS, e]) rfl (by rfl) (by simp (maxDischargeDepth := 120) [hg4, flowS, e]) (containsf_flow 60 [] (fun f => !Flow.plain f) l rfl hl (fun x _ => pflow1_c x)) (by simp [hg4, flowS, e]) ?_
   refine RunQ.eval ?_
   simp [hg4, flowS, e]
   apply hQ
   clear hQ hA
   repeat (first | apply WK.s | apply WK.b | apply WK.n | apply WK.k | apply WK.label | apply WK.scope | apply WK.inScope | refine WK.exit rfl ?_)
   refine WK.t Tryz.func36 (by simp (maxDischargeDepth := 120) [Tryz.results36, flowsPlain, k]) (by simp [flowsPlain, k])

theorem intL_nil : intL [] = [] := rfl
def hF : Header := fun i => if i = 0 then ⟨0#64, 1#64⟩ else wZ_
def ahead (k : Int → Int) (x y : Int) : Prop := k y < k x ∨ k x = k y ∧ x < y

def ro (f : Nat → Int) (n : Nat) : List Int := (List.range n).map f
@[simp] theorem ro_len (f : Nat → Int) (n : Nat) : (ro f n).length = n := by simp [ro]

def Srt (k : Int → Int) (f : Nat → Int) (a b : Nat) : Prop := ∀ x y, a ≤ x → x < y → y < b → ahead k (f x) (f y)

def Blk (k : Int → Int) (g : Nat → Int) (lo hi : Nat) : Prop := Srt k g lo hi ∧ ∀ x, lo ≤ x → x < hi → (lo : Int) ≤ g x ∧ g x < hi
theorem Blk.same {k : Int → Int} {g g' : Nat → Int} {lo hi : Nat} (h : Blk k g lo hi) (e : ∀ x, lo ≤ x → x < hi → g' x = g x) : Blk k g' lo hi :=
 ⟨fun x y i1 i2 i3 => by rw [e x i1 (by omega), e y (by omega) i3]; exact h.1 x y i1 i2 i3, fun x i1 i2 => by rw [e x i1 i2]; exact h.2 x i1 i2⟩

structure F3 where
 is : Bool
 ty : Int
 code : Int
 deriving DecidableEq
def F3.enc (f : F3) : List AV := [.bool f.is, .int .i64 f.ty, .int .i64 f.code]
def F3.zero : F3 := ⟨false, 0, 0⟩
@[simp] theorem F3.len (f : F3) : f.enc.length = 3 := rfl
@[simp] theorem F3.cl (f : F3) : ClL f.enc = true := by simp [F3.enc, ClL, Cl]
@[simp] theorem F3.ne (f : F3) : (f.enc = []) = False := by simp [F3.enc]
@[simp] theorem F3.take (f : F3) : f.enc.take 3 = f.enc := rfl
@[simp] theorem F3.drop (f : F3) : f.enc.drop 3 = [] := rfl
def strictB (n : Int) : Bool := bAnd .i64 n 2 != 0
theorem strict_c (n : Int) : FnP Tryz.prog 85 [.int .i64 n] (.bool (strictB n)) := by
 refine FnP.i Tryz.func85 rfl rfl fun G w => ?_
 repeat (first | apply WK.s | apply WK.b | apply WK.n | apply WK.k | apply WK.label | apply WK.scope | apply WK.inScope | refine WK.exit rfl ?_)
 first | refine WK.g 100 Tryz.ntmps85 (by kernel_rfl) ?_ | refine WK.regD 100 clsOf (by kernel_rfl) Tryz.ntmps85 (by kernel_rfl) (by kernel_rfl) ?_
 intro A hA Q hQ
 simp
 apply hQ
 clear hQ hA
 repeat (first | apply WK.s | apply WK.b | apply WK.n | apply WK.k | apply WK.label | apply WK.scope | apply WK.inScope | refine WK.exit rfl ?_)
 first | refine WK.g 200 Tryz.ntmps85 (by kernel_rfl) ?_ | refine WK.regD 200 clsOf (by kernel_rfl) Tryz.ntmps85 (by kernel_rfl) (by kernel_rfl) ?_
 intro A hA Q hQ
 simp
 apply hQ
 clear hQ hA
 repeat (first | apply WK.s | apply WK.b | apply WK.n | apply WK.k | apply WK.label | apply WK.scope | apply WK.inScope | refine WK.exit rfl ?_)
 refine WK.t Tryz.func85 (by simp (maxDischargeDepth := 120) [Tryz.results85, strictB]) (by simp [strictB])

theorem takenF (n : Nat) : taken (fun _ => false) n = if n = 0 then 0 else 1 := by cases n <;> rfl

def badPair (f g : Flow) : Bool := Flow.alike f g || (strictB f.flags && Flow.overlap f g)
def rightRow (l : List Flow) (i : Nat) : Bool := (List.range i).all fun j => !badPair (nth l i) (nth l j)
def rightRows (l : List Flow) : Bool := (List.range l.length).all fun i => rightRow l i
def tRight (l : List Flow) : Bool := decide (l.length ≤ 8) && rightRows l
theorem flow_pre (l : List Flow) (i : Nat) : (flowL l).take (i * 7) = flowL (l.take i) := fm_take Flow.len l i
theorem nth_take {α : Type} [Inhabited α] (l : List α) (i j : Nat) (h : j < i) : nth (l.take i) j = nth l j := by
 unfold nth; rw [List.getD_eq_getElem?_getD, List.getElem?_take, if_pos h, List.getD_eq_getElem?_getD]
theorem row_true {l : List Flow} {i : Nat} (h : ∀ j, j < i → badPair (nth l i) (nth l j) = false) : rightRow l i = true := by
 unfold rightRow; rw [List.all_eq_true]; intro j hj; rw [h j (List.mem_range.1 hj)]; rfl
theorem row_false {l : List Flow} {i j : Nat} (hj : j < i) (h : badPair (nth l i) (nth l j) = true) : rightRow l i = false := all_range_false (p := fun j => !badPair (nth l i) (nth l j)) hj (by rw [h]; rfl)
theorem rows_true {l : List Flow} (h : ∀ i, i < l.length → rightRow l i = true) : rightRows l = true := by
 unfold rightRows; rw [List.all_eq_true]; intro j hj; exact h j (List.mem_range.1 hj)
theorem rows_false {l : List Flow} {i : Nat} (hi : i < l.length) (h : rightRow l i = false) : rightRows l = false := all_range_false (p := fun i => rightRow l i) hi h
set_option maxHeartbeats 2000000 in
theorem tright_c (l : List Flow) (hf : ∀ f, f ∈ l → FOk f) : FnP Tryz.prog 47 [flowS l] (.bool (tRight l)) := by
 unfold flowS
 by_cases h8 : l.length ≤ 8
 case neg =>
   have e : tRight l = false := by unfold tRight; rw [decide_eq_false h8]; rfl
   refine FnP.i Tryz.func47 rfl rfl fun G w => ?_
   repeat (first | apply WK.s | apply WK.b | apply WK.n | apply WK.k | apply WK.label | apply WK.scope | apply WK.inScope | refine WK.exit rfl ?_)
   first | refine WK.g 100 Tryz.ntmps47 (by kernel_rfl) ?_ | refine WK.regD 100 clsOf (by kernel_rfl) Tryz.ntmps47 (by kernel_rfl) (by kernel_rfl) ?_
   intro A hA Q hQ
   simp
   apply hQ
   clear hQ hA
   repeat (first | apply WK.s | apply WK.b | apply WK.n | apply WK.k | apply WK.label | apply WK.scope | apply WK.inScope | refine WK.exit rfl ?_)
   first | refine WK.g 200 Tryz.ntmps47 (by kernel_rfl) ?_ | refine WK.regD 200 clsOf (by kernel_rfl) Tryz.ntmps47 (by kernel_rfl) (by kernel_rfl) ?_
   intro A hA Q hQ
   simp
   apply hQ
   clear hQ hA
   repeat (first | apply WK.s | apply WK.b | apply WK.n | apply WK.k | apply WK.label | apply WK.scope | apply WK.inScope | refine WK.exit rfl ?_)
   refine WK.c2 rfl (fun h => ?_) (fun h => ?_)
   · repeat (first | apply WK.s | apply WK.b | apply WK.n | apply WK.k | apply WK.label | apply WK.scope | apply WK.inScope | refine WK.exit rfl ?_)
     first | refine WK.g 300 Tryz.ntmps47 (by kernel_rfl) ?_ | refine WK.regD 300 clsOf (by kernel_rfl) Tryz.ntmps47 (by kernel_rfl) (by kernel_rfl) ?_
     intro A hA Q hQ
     simp
     apply hQ
     clear hQ hA
     repeat (first | apply WK.s | apply WK.b | apply WK.n | apply WK.k | apply WK.label | apply WK.scope | apply WK.inScope | refine WK.exit rfl ?_)
     refine WK.t Tryz.func47 (by simp (maxDischargeDepth := 120) [Tryz.results47, e]) (by simp [e])
   · simp at h; omega
 have e0 : tRight l = rightRows l := by unfold tRight; rw [decide_eq_true h8]; rfl
 refine FnP.i Tryz.func47 rfl rfl fun G w => ?_
 repeat (first | apply WK.s | apply WK.b | apply WK.n | apply WK.k | apply WK.label | apply WK.scope | apply WK.inScope | refine WK.exit rfl ?_)
 first | refine WK.g 100 Tryz.ntmps47 (by kernel_rfl) ?_ | refine WK.regD 100 clsOf (by kernel_rfl) Tryz.ntmps47 (by kernel_rfl) (by kernel_rfl) ?_
 intro A hA Q hQ
 simp
 apply hQ
 clear hQ hA
 repeat (first | apply WK.s | apply WK.b | apply WK.n | apply WK.k | apply WK.label | apply WK.scope | apply WK.inScope | refine WK.exit rfl ?_)
 first | refine WK.g 200 Tryz.ntmps47 (by kernel_rfl) ?_ | refine WK.regD 200 clsOf (by kernel_rfl) Tryz.ntmps47 (by kernel_rfl) (by kernel_rfl) ?_
 intro A hA Q hQ
 simp
 apply hQ
 clear hQ hA
 repeat (first | apply WK.s | apply WK.b | apply WK.n | apply WK.k | apply WK.label | apply WK.scope | apply WK.inScope | refine WK.exit rfl ?_)
 refine WK.c2 rfl (fun h => ?_) (fun h => ?_)
 · simp at h; omega
 repeat (first | apply WK.s | apply WK.b | apply WK.n | apply WK.k | apply WK.label | apply WK.scope | apply WK.inScope | refine WK.exit rfl ?_)
 first | refine WK.g 300 Tryz.ntmps47 (by kernel_rfl) ?_ | refine WK.regD 300 clsOf (by kernel_rfl) Tryz.ntmps47 (by kernel_rfl) (by kernel_rfl) ?_
 intro A hA Q hQ
 simp
 apply hQ
 clear hQ hA
 repeat (first | apply WK.s | apply WK.b | apply WK.n | apply WK.k | apply WK.label | apply WK.scope | apply WK.inScope | refine WK.exit rfl ?_)
 refine WK.lI (fun n => n) (fun i : Nat => (⟨(upd (upd (upd (upd J 0 (.sl false l.length (flowL l))) 10 (.sl false l.length (flowL l))) 11 (.int .i64 l.length)) 12 (.int .i64 i)), B0, 0⟩ : St)) (fun i => i ≤ l.length ∧ ∀ k, k < i → rightRow l k = true) (fun i => l.length - i) (0) (by repeat (first | exact TmW.nil | refine TmW.upd ?_ (by simp (maxDischargeDepth := 120)))) (by repeat (first | exact BxW.nil | refine BxW.upd ?_ (by simp (maxDischargeDepth := 120)))) InjW.id (⟨by omega, by simp⟩) (fun i hi IH => ?_)
 repeat (first | apply WK.s | apply WK.b | apply WK.n | apply WK.k | apply WK.label | apply WK.scope | apply WK.inScope | refine WK.exit rfl ?_)
 first | refine WK.g 400 Tryz.ntmps47 (by kernel_rfl) ?_ | refine WK.regD 400 clsOf (by kernel_rfl) Tryz.ntmps47 (by kernel_rfl) (by kernel_rfl) ?_
 intro A hA Q hQ
 simp
 apply hQ
 clear hQ hA
 repeat (first | apply WK.s | apply WK.b | apply WK.n | apply WK.k | apply WK.label | apply WK.scope | apply WK.inScope | refine WK.exit rfl ?_)
 refine WK.c2 rfl (fun h1 => ?_) (fun h1 => ?_)
 · simp at h1
   have h2 : i < l.length := by omega
   have h3 : 7 ≤ l.length * 7 - i * 7 := by omega
   have h4 := flow_sub l i h2
   have h6 : IntKind.i64.wrap ((i : Int) + 1) = i + 1 := wrap_i64 (by omega) (by omega)
   have h7 := flow_pre l i
   have h8' : i ≤ l.length := by omega
   obtain ⟨g, hg⟩ : ∃ g, g = nth l i := ⟨_, rfl⟩
   have hgo : FOk g := by rw [hg]; exact hf _ (nth_mem h2)
   rw [← hg] at h4
   repeat (first | apply WK.s | apply WK.b | apply WK.n | apply WK.k | apply WK.label | apply WK.scope | apply WK.inScope | refine WK.exit rfl ?_)
   first | refine WK.g 500 Tryz.ntmps47 (by kernel_rfl) ?_ | refine WK.regD 500 clsOf (by kernel_rfl) Tryz.ntmps47 (by kernel_rfl) (by kernel_rfl) ?_
   intro A hA Q hQ
   simp [h2, h3, h4]
   apply hQ
   clear hQ hA
   repeat (first | apply WK.s | apply WK.b | apply WK.n | apply WK.k | apply WK.label | apply WK.scope | apply WK.inScope | refine WK.exit rfl ?_)
   refine WK.ghost (Ghost.frzVar 4 rfl rfl) ?_
   repeat (first | apply WK.s | apply WK.b | apply WK.n | apply WK.k | apply WK.label | apply WK.scope | apply WK.inScope | refine WK.exit rfl ?_)
   first | refine WK.g 600 Tryz.ntmps47 (by kernel_rfl) ?_ | refine WK.regD 600 clsOf (by kernel_rfl) Tryz.ntmps47 (by kernel_rfl) (by kernel_rfl) ?_
   intro A hA Q hQ
   simp [h7, h8']
   apply hQ
   clear hQ hA
   repeat (first | apply WK.s | apply WK.b | apply WK.n | apply WK.k | apply WK.label | apply WK.scope | apply WK.inScope | refine WK.exit rfl ?_)
   refine WK.lI (fun n => n) (fun j : Nat => (⟨(upd (upd (upd (upd (upd (upd (upd (upd J 0 (.sl false l.length (flowL l))) 4 (.iptr g.enc)) 10 (.sl false l.length (flowL l))) 11 (.int .i64 l.length)) 12 (.int .i64 i)) 19 (.sl false i (flowL (l.take i)))) 20 (.int .i64 i)) 21 (.int .i64 j)), B0, 0⟩ : St)) (fun j => j ≤ i ∧ ∀ k, k < j → badPair (nth l i) (nth l k) = false) (fun j => i - j) (0) (by repeat (first | exact TmW.nil | refine TmW.upd ?_ (by simp (maxDischargeDepth := 120) [h7]))) (by repeat (first | exact BxW.nil | refine BxW.upd ?_ (by simp (maxDischargeDepth := 120) [h7]))) InjW.id (⟨by omega, by simp⟩) (fun j hj IHj => ?_)
   repeat (first | apply WK.s | apply WK.b | apply WK.n | apply WK.k | apply WK.label | apply WK.scope | apply WK.inScope | refine WK.exit rfl ?_)
   first | refine WK.g 700 Tryz.ntmps47 (by kernel_rfl) ?_ | refine WK.regD 700 clsOf (by kernel_rfl) Tryz.ntmps47 (by kernel_rfl) (by kernel_rfl) ?_
   intro A hA Q hQ
   simp
   apply hQ
   clear hQ hA
   repeat (first | apply WK.s | apply WK.b | apply WK.n | apply WK.k | apply WK.label | apply WK.scope | apply WK.inScope | refine WK.exit rfl ?_)
   refine WK.c2 rfl (fun h1 => ?_) (fun h1 => ?_)
   · simp at h1
     have j2 : j < i := by omega
     have j2' : j < (l.take i).length := by rw [List.length_take]; omega
     have j3 : 7 ≤ i * 7 - j * 7 := by omega
     have j4 := flow_sub (l.take i) j j2'
     rw [nth_take l i j j2] at j4
     have j5 : (flowL (l.take i)).length = i * 7 := by rw [flowL_len, List.length_take]; congr 1; omega
     have j6 : IntKind.i64.wrap ((j : Int) + 1) = j + 1 := wrap_i64 (by omega) (by omega)
     have hjo : FOk (nth l j) := hf _ (nth_mem (by omega))
     repeat (first | apply WK.s | apply WK.b | apply WK.n | apply WK.k | apply WK.label | apply WK.scope | apply WK.inScope | refine WK.exit rfl ?_)
     first | refine WK.g 800 Tryz.ntmps47 (by kernel_rfl) ?_ | refine WK.regD 800 clsOf (by kernel_rfl) Tryz.ntmps47 (by kernel_rfl) (by kernel_rfl) ?_
     intro A hA Q hQ
     simp [j2, j3, j4, j5]
     apply hQ
     clear hQ hA
     repeat (first | apply WK.s | apply WK.b | apply WK.n | apply WK.k | apply WK.label | apply WK.scope | apply WK.inScope | refine WK.exit rfl ?_)
     apply WK.cut (⟨(upd (upd (upd (upd (upd (upd (upd (upd (upd J 0 (.sl false l.length (flowL l))) 4 (.iptr g.enc)) 10 (.sl false l.length (flowL l))) 11 (.int .i64 l.length)) 12 (.int .i64 i)) 19 (.sl false i (flowL (l.take i)))) 20 (.int .i64 i)) 21 (.int .i64 j)) 37 (.bool (badPair g (nth l j)))), B0, 0⟩ : St)
     · intro hcut
       cases k1 : Flow.alike g (nth l j)
       · cases k2 : strictB g.flags
         · have e : badPair g (nth l j) = false := by unfold badPair; rw [k1, k2]; rfl
           repeat (first | apply WK.s | apply WK.b | apply WK.n | apply WK.k | apply WK.label | apply WK.scope | apply WK.inScope | refine WK.exit rfl ?_)
           first | refine WK.g 900 Tryz.ntmps47 (by kernel_rfl) ?_ | refine WK.regD 900 clsOf (by kernel_rfl) Tryz.ntmps47 (by kernel_rfl) (by kernel_rfl) ?_
           intro A hA Q hQ
           have hg3 : (A[3]?).bind (·.dst) = some 28 := by rw [hA]; rfl
           have hg7 : (A[7]?).bind (·.dst) = some 32 := by rw [hA]; rfl
           simp [Flow.enc, hg3, hg7]
           refine RunQ.call rfl rfl rfl rfl (by rfl) (by simp (maxDischargeDepth := 120) [Flow.enc, k1, hg3, hg7]) (alike_c g (nth l j) hgo hjo) (by simp [Flow.enc, k1, hg3, hg7]) ?_
           refine RunQ.eval ?_
           simp [Flow.enc, k1, hg3, hg7]
           refine RunQ.callG rfl rfl (by simp [k2, hg3, hg7]) rfl (by rfl) (by simp (maxDischargeDepth := 120) [k2, hg3, hg7]) (strict_c g.flags) (by simp [k2, hg3, hg7]) ?_
           refine RunQ.eval ?_
           simp [k2, hg3, hg7]
           apply hQ
           clear hQ hA
           repeat (first | apply WK.s | apply WK.b | apply WK.n | apply WK.k | apply WK.label | apply WK.scope | apply WK.inScope | refine WK.exit rfl ?_)
           refine WK.next (fun n => n) hcut (by repeat (first | exact TmW.nil | refine TmW.upd ?_ (by simp (maxDischargeDepth := 120) [e, Flow.enc]))) (by repeat (first | exact BxW.nil | refine BxW.upd ?_ (by simp (maxDischargeDepth := 120) [e, Flow.enc]))) InjW.id
         · have e : badPair g (nth l j) = Flow.overlap g (nth l j) := by unfold badPair; rw [k1, k2]; rfl
           repeat (first | apply WK.s | apply WK.b | apply WK.n | apply WK.k | apply WK.label | apply WK.scope | apply WK.inScope | refine WK.exit rfl ?_)
           first | refine WK.g 1000 Tryz.ntmps47 (by kernel_rfl) ?_ | refine WK.regD 1000 clsOf (by kernel_rfl) Tryz.ntmps47 (by kernel_rfl) (by kernel_rfl) ?_
           intro A hA Q hQ
           have hg3 : (A[3]?).bind (·.dst) = some 28 := by rw [hA]; rfl
           have hg7 : (A[7]?).bind (·.dst) = some 32 := by rw [hA]; rfl
           simp [Flow.enc, hg3, hg7]
           refine RunQ.call rfl rfl rfl rfl (by rfl) (by simp (maxDischargeDepth := 120) [Flow.enc, k1, hg3, hg7]) (alike_c g (nth l j) hgo hjo) (by simp [Flow.enc, k1, hg3, hg7]) ?_
           refine RunQ.eval ?_
           simp [Flow.enc, k1, hg3, hg7]
           refine RunQ.callG rfl rfl (by simp [k2, hg3, hg7]) rfl (by rfl) (by simp (maxDischargeDepth := 120) [k2, hg3, hg7]) (strict_c g.flags) (by simp [k2, hg3, hg7]) ?_
           refine RunQ.eval ?_
           simp [k2, hg3, hg7]
           refine RunQ.callG rfl rfl (by simp [Flow.enc, hg3, hg7]) rfl (by rfl) (by simp (maxDischargeDepth := 120) [Flow.enc, hg3, hg7]) (overlap_c g (nth l j) hgo hjo) (by simp [Flow.enc, hg3, hg7]) ?_
           refine RunQ.eval ?_
           simp [Flow.enc, hg3, hg7]
           apply hQ
           clear hQ hA
           repeat (first | apply WK.s | apply WK.b | apply WK.n | apply WK.k | apply WK.label | apply WK.scope | apply WK.inScope | refine WK.exit rfl ?_)
           refine WK.next (fun n => n) hcut (by repeat (first | exact TmW.nil | refine TmW.upd ?_ (by simp (maxDischargeDepth := 120) [e, Flow.enc]))) (by repeat (first | exact BxW.nil | refine BxW.upd ?_ (by simp (maxDischargeDepth := 120) [e, Flow.enc]))) InjW.id
       · have e : badPair g (nth l j) = true := by unfold badPair; rw [k1]; rfl
         repeat (first | apply WK.s | apply WK.b | apply WK.n | apply WK.k | apply WK.label | apply WK.scope | apply WK.inScope | refine WK.exit rfl ?_)
         first | refine WK.g 1100 Tryz.ntmps47 (by kernel_rfl) ?_ | refine WK.regD 1100 clsOf (by kernel_rfl) Tryz.ntmps47 (by kernel_rfl) (by kernel_rfl) ?_
         intro A hA Q hQ
         have hg3 : (A[3]?).bind (·.dst) = some 28 := by rw [hA]; rfl
         have hg7 : (A[7]?).bind (·.dst) = some 32 := by rw [hA]; rfl
         simp [Flow.enc, hg3, hg7]
         refine RunQ.call rfl rfl rfl rfl (by rfl) (by simp (maxDischargeDepth := 120) [Flow.enc, k1, hg3, hg7]) (alike_c g (nth l j) hgo hjo) (by simp [Flow.enc, k1, hg3, hg7]) ?_
         refine RunQ.eval ?_
         simp [Flow.enc, k1, hg3, hg7]
         apply hQ
         clear hQ hA
         repeat (first | apply WK.s | apply WK.b | apply WK.n | apply WK.k | apply WK.label | apply WK.scope | apply WK.inScope | refine WK.exit rfl ?_)
         refine WK.next (fun n => n) hcut (by repeat (first | exact TmW.nil | refine TmW.upd ?_ (by simp (maxDischargeDepth := 120) [e, Flow.enc]))) (by repeat (first | exact BxW.nil | refine BxW.upd ?_ (by simp (maxDischargeDepth := 120) [e, Flow.enc]))) InjW.id
     repeat (first | apply WK.s | apply WK.b | apply WK.n | apply WK.k | apply WK.label | apply WK.scope | apply WK.inScope | refine WK.exit rfl ?_)
     refine WK.c2 rfl (fun h => ?_) (fun h => ?_)
     · rw [hg] at h
       have e := rows_false h2 (row_false j2 h)
       repeat (first | apply WK.s | apply WK.b | apply WK.n | apply WK.k | apply WK.label | apply WK.scope | apply WK.inScope | refine WK.exit rfl ?_)
       first | refine WK.g 1200 Tryz.ntmps47 (by kernel_rfl) ?_ | refine WK.regD 1200 clsOf (by kernel_rfl) Tryz.ntmps47 (by kernel_rfl) (by kernel_rfl) ?_
       intro A hA Q hQ
       simp
       apply hQ
       clear hQ hA
       repeat (first | apply WK.s | apply WK.b | apply WK.n | apply WK.k | apply WK.label | apply WK.scope | apply WK.inScope | refine WK.exit rfl ?_)
       refine WK.t Tryz.func47 (by simp (maxDischargeDepth := 120) [Tryz.results47, e0, e]) (by simp [e0, e])
     · rw [hg] at h
       repeat (first | apply WK.s | apply WK.b | apply WK.n | apply WK.k | apply WK.label | apply WK.scope | apply WK.inScope | refine WK.exit rfl ?_)
       first | refine WK.g 1300 Tryz.ntmps47 (by kernel_rfl) ?_ | refine WK.regD 1300 clsOf (by kernel_rfl) Tryz.ntmps47 (by kernel_rfl) (by kernel_rfl) ?_
       intro A hA Q hQ
       simp [j6]
       apply hQ
       clear hQ hA
       repeat (first | apply WK.s | apply WK.b | apply WK.n | apply WK.k | apply WK.label | apply WK.scope | apply WK.inScope | refine WK.exit rfl ?_)
       refine WK.next (fun n => n) (IHj (j + 1) (⟨by omega, fun k hk => by by_cases h7 : k = j; (subst h7; exact h); exact hj.2 k (by omega)⟩) (by first | omega | (dsimp only; omega))) (by repeat (first | exact TmW.nil | refine TmW.upd ?_ (by simp (maxDischargeDepth := 120) [j6]))) (by repeat (first | exact BxW.nil | refine BxW.upd ?_ (by simp (maxDischargeDepth := 120) [j6]))) InjW.id
   · simp at h1
     have hji : j = i := by omega
     have hr := row_true (l := l) (i := i) (fun k hk => hj.2 k (by omega))
     repeat (first | apply WK.s | apply WK.b | apply WK.n | apply WK.k | apply WK.label | apply WK.scope | apply WK.inScope | refine WK.exit rfl ?_)
     first | refine WK.g 1400 Tryz.ntmps47 (by kernel_rfl) ?_ | refine WK.regD 1400 clsOf (by kernel_rfl) Tryz.ntmps47 (by kernel_rfl) (by kernel_rfl) ?_
     intro A hA Q hQ
     simp [h6]
     apply hQ
     clear hQ hA
     repeat (first | apply WK.s | apply WK.b | apply WK.n | apply WK.k | apply WK.label | apply WK.scope | apply WK.inScope | refine WK.exit rfl ?_)
     refine WK.next (fun n => n) (IH (i + 1) (⟨by omega, fun k hk => by by_cases h7 : k = i; (subst h7; exact hr); exact hi.2 k (by omega)⟩) (by first | omega | (dsimp only; omega))) (by repeat (first | exact TmW.nil | refine TmW.upd ?_ (by simp (maxDischargeDepth := 120) [h6]))) (by repeat (first | exact BxW.nil | refine BxW.upd ?_ (by simp (maxDischargeDepth := 120) [h6]))) InjW.id
 · simp at h1
   have e := rows_true (l := l) (fun k hk => hi.2 k (by omega))
   repeat (first | apply WK.s | apply WK.b | apply WK.n | apply WK.k | apply WK.label | apply WK.scope | apply WK.inScope | refine WK.exit rfl ?_)
   first | refine WK.g 1500 Tryz.ntmps47 (by kernel_rfl) ?_ | refine WK.regD 1500 clsOf (by kernel_rfl) Tryz.ntmps47 (by kernel_rfl) (by kernel_rfl) ?_
   intro A hA Q hQ
   simp
   apply hQ
   clear hQ hA
   repeat (first | apply WK.s | apply WK.b | apply WK.n | apply WK.k | apply WK.label | apply WK.scope | apply WK.inScope | refine WK.exit rfl ?_)
   refine WK.t Tryz.func47 (by simp (maxDischargeDepth := 120) [Tryz.results47, e0, e]) (by simp [e0, e])
end Go.Proofs.YtmhapglejjehbaaGreat

namespace Go.Proofs.YtmhapglejjehbaaGreat
open Go Go.AI Go.Proofs
attribute [local irreducible] FnP FnO FnB FnT FnSeq WK RunQ RunQW RunX RunXW
theorem clone_actO (l : List Action) (hl : l.length ≤ 1000000) : FnO Tryz.prog 162 [actS l] l.length 11 (actL l) := by
 have hb : l.length * 88 ≤ 140737488355328 := by omega
 unfold actS
 cases l with
 | nil =>
   refine FnO.intro Tryz.func162 rfl rfl fun G w => ?_
   repeat' (first | apply WK.s | apply WK.k | (refine hQ.h _ _ ?_; clear hQ hA) | refine WK.condAny rfl ?_ ?_ | (refine WK.rH Tryz.ntmps162 (by kernel_rfl) ?_; intro A hA Q hQ; simp [*]))
   · refine WK.ghost (Ghost.own 2 900 11 rfl rfl) ?_
     refine WK.retO Tryz.func162 (by rfl) (by rfl) (by simp (maxDischargeDepth := 120) [actL_nil]) (by simp [actL_nil])
   · repeat' (first | (refine hQ.h _ _ ?_; clear hQ hA) | (refine RunQ.append0 900 901 appAct rfl rfl rfl rfl rfl rfl rfl ?_ rfl ?_ ?_ ?_ ?_ ?_ ?_; (focus (simp [*]; done)); (focus (first | omega | (simp [*]; done); done)); (focus (first | omega | (simp [*]; done); done)); (focus (simp [*]; done)); (focus (simp [*]; done)); (focus (simp [*]; done)); refine RunQ.evalH ?_; simp [*]) | (refine WK.retO Tryz.func162 rfl rfl ?_ ?_ <;> simp (maxDischargeDepth := 120) [actL_nil, *]))
 | cons x l =>
   have e : (actL (x :: l)).take ((l.length + 1) * 11) = actL (x :: l) := List.take_of_length_le (by simp)
   simp only [List.length_cons] at hl hb ⊢
   refine FnO.intro Tryz.func162 rfl rfl fun G w => ?_
   repeat' (first | apply WK.s | apply WK.k | refine WK.cF rfl ?_ | (refine hQ.h _ _ ?_; clear hQ hA) | (refine WK.rH Tryz.ntmps162 (by kernel_rfl) ?_; intro A hA Q hQ; simp [*]) | (refine RunQ.append0 900 901 appAct rfl rfl rfl rfl rfl rfl rfl ?_ rfl ?_ ?_ ?_ ?_ ?_ ?_; (focus (simp [*]; done)); (focus (first | omega | (simp [*]; done); done)); (focus (first | omega | (simp [*]; done); done)); (focus (simp [*]; done)); (focus (simp [*]; done)); (focus (simp [*]; done)); refine RunQ.evalH ?_; simp [*]) | (refine WK.retO Tryz.func162 rfl rfl ?_ ?_ <;> simp (maxDischargeDepth := 120) [*]))

theorem acDec_small {b : List (BitVec 8)} {l : List Action} {c : Option Int} (h : acDec b = (l, c)) : l.length * 8 ≤ b.length := by
 cases c with
 | some c => rw [acDec_bad h]; simp
 | none =>
   unfold acDec at h
   split at h
   · cases h
   · obtain ⟨h1, h2⟩ := acDecF_back b.length b (Nat.le_refl _) (by rw [h])
     rw [h] at h1 h2
     simp only at h1 h2
     rw [← h2]
     clear h h2
     induction l with
     | nil => simp [acFlat]
     | cons a l ih =>
       have ih := ih (fun x hx => h1 x (List.mem_cons_of_mem _ hx))
       obtain ⟨_, k, hk, h8, _⟩ := aDec_back (aEnc_back (h1 a (by simp)) [])
       rw [acFlat_cons, List.length_append, List.length_cons]
       omega
theorem eqBy_selfA (l : List Action) : eqBy (fun x y : Action => x == y) l l = true := by unfold eqBy; simp

theorem app_buk : AppOk Tryz.prog 53 98 4 48 := ⟨by simp, by simp, by simp, by simp, by simp, by simp, by omega, by omega⟩
theorem indexf_buk (fid : Nat) (caps : List AV) (p : Bucket → Bool) (l : List Bucket) (hcl : ClL caps = true) (hl : l.length ≤ 1000000)
   (hf : ∀ x, x ∈ l → FnP Tryz.prog fid (.agg x.enc :: caps) (.bool (p x))) :
   FnP Tryz.prog 121 [bukS l, .fn fid caps] (.int .i64 (idxI p l)) := by
 unfold bukS
 refine FnP.i Tryz.func121 rfl rfl fun G w => ?_
 repeat apply WK.s
 refine WK.g 100 Tryz.ntmps121 (by kernel_rfl) ?_
 intro A hA Q hQ
 simp
 apply hQ
 clear hQ hA
 repeat apply WK.s
 refine WK.g 200 Tryz.ntmps121 (by kernel_rfl) ?_
 intro A hA Q hQ
 simp
 apply hQ
 clear hQ hA
 repeat (apply WK.b)
 refine WK.lI (fun n => n) (fun i : Nat => (⟨(upd (upd (upd (upd J 0 (.sl false l.length (bukL l))) 1 (.fn fid caps)) 7 (.int .i64 l.length)) 8 (.int .i64 i)), B0, 0⟩ : St)) (fun i => i ≤ l.length ∧ ∀ j, j < i → p (nth l j) = false) (fun i => l.length - i) (0) (by repeat (first | exact TmW.nil | refine TmW.upd ?_ (by simp (maxDischargeDepth := 120) [hcl]))) (by repeat (first | exact BxW.nil | refine BxW.upd ?_ (by simp (maxDischargeDepth := 120) [hcl]))) InjW.id (⟨by omega, by simp⟩) (fun i hi IH => ?_)
 repeat apply WK.s
 refine WK.g 300 Tryz.ntmps121 (by kernel_rfl) ?_
 intro A hA Q hQ
 simp
 apply hQ
 clear hQ hA
 repeat apply WK.s
 refine WK.c2 rfl (fun h1 => ?_) (fun h1 => ?_)
 · simp at h1
   have h2 : i < l.length := by omega
   have h3 : 4 ≤ l.length * 4 - i * 4 := by omega
   have h4 := buk_sub l i h2
   have h6 : IntKind.i64.wrap ((i : Int) + 1) = i + 1 := wrap_i64 (by omega) (by omega)
   repeat (first | apply WK.s | apply WK.b | apply WK.k)
   refine WK.g 400 Tryz.ntmps121 (by kernel_rfl) ?_
   intro A hA Q hQ
   simp
   apply hQ
   clear hQ hA
   repeat apply WK.s
   refine WK.g 500 Tryz.ntmps121 (by kernel_rfl) ?_
   intro A hA Q hQ
   simp [h2, h3, h4]
   refine RunQ.call rfl rfl rfl rfl (by rfl) (by simp (maxDischargeDepth := 120) [hcl]) (hf (nth l i) (nth_mem h2)) (by simp [hcl]) ?_
   refine RunQ.eval ?_
   simp [hcl]
   apply hQ
   clear hQ hA
   refine WK.c2 rfl (fun h5 => ?_) (fun h5 => ?_)
   · have e := idxI_some h2 h5 hi.2
     repeat apply WK.s
     refine WK.g 600 Tryz.ntmps121 (by kernel_rfl) ?_
     intro A hA Q hQ
     simp
     apply hQ
     clear hQ hA
     refine WK.t Tryz.func121 (by simp (maxDischargeDepth := 120) [Tryz.results121, e]) (by simp [e])
   · repeat (first | apply WK.n | apply WK.k)
     refine WK.g 700 Tryz.ntmps121 (by kernel_rfl) ?_
     intro A hA Q hQ
     simp [h6]
     apply hQ
     clear hQ hA
     refine WK.next (fun n => n) (IH (i + 1) (⟨by omega, fun j hj => by by_cases h7 : j = i; (subst h7; exact h5); exact hi.2 j (by omega)⟩) (by first | omega | (dsimp only; omega))) (by repeat (first | exact TmW.nil | refine TmW.upd ?_ (by simp (maxDischargeDepth := 120) [hcl]))) (by repeat (first | exact BxW.nil | refine BxW.upd ?_ (by simp (maxDischargeDepth := 120) [hcl]))) InjW.id
 · simp at h1
   have e := idxI_none (p := p) (l := l) (fun j hj => hi.2 j (by omega))
   repeat (first | apply WK.s | refine WK.exit rfl ?_)
   refine WK.g 800 Tryz.ntmps121 (by kernel_rfl) ?_
   intro A hA Q hQ
   simp
   apply hQ
   clear hQ hA
   refine WK.t Tryz.func121 (by simp (maxDischargeDepth := 120) [Tryz.results121, e]) (by simp [e])
theorem containsf_buk (fid : Nat) (caps : List AV) (p : Bucket → Bool) (l : List Bucket) (hcl : ClL caps = true) (hl : l.length ≤ 1000000)
   (hf : ∀ x, x ∈ l → FnP Tryz.prog fid (.agg x.enc :: caps) (.bool (p x))) :
   FnP Tryz.prog 64 [bukS l, .fn fid caps] (.bool (l.any p)) := by
 have e := idxI_ge p l
 simp only [ge_iff_le] at e
 refine FnP.i Tryz.func64 rfl rfl fun G w => ?_
 repeat apply WK.s
 refine WK.g 100 Tryz.ntmps64 (by kernel_rfl) ?_
 intro A hA Q hQ
 simp
 apply hQ
 clear hQ hA
 repeat apply WK.s
 refine WK.g 200 Tryz.ntmps64 (by kernel_rfl) ?_
 intro A hA Q hQ
 simp
 refine RunQ.call rfl rfl rfl rfl (by rfl) (by simp (maxDischargeDepth := 120) [hcl]) (indexf_buk fid caps p l hcl hl hf) (by simp [hcl]) ?_
 refine RunQ.eval ?_
 simp [hcl]
 apply hQ
 clear hQ hA
 refine WK.t Tryz.func64 (by simp (maxDischargeDepth := 120) [Tryz.results64, e]) (by simp [e])
def gF : Option (Int × Int) → List AV
 | none => [.bool false, .int .i64 0, .int .i64 0]
 | some x => [.bool true, .int .i64 x.1, .int .i64 x.2]
@[simp] theorem gFault_cl (c : Option (Int × Int)) : ClL (gF c) = true := by cases c <;> rfl

theorem bright_c (x : Bucket) (hx : x.acts.length ≤ 1000000) : FnP Tryz.prog 66 [.agg x.enc] (.bool (bkRight x)) := by
 have p := acencP_c x.acts hx
 have n1 := nright_c x.weight 2 Sz2
 have n2 := nright_c x.watch 4 Sz4
 have n3 := nright_c x.wgroup 4 Sz4
 have e : bkRight x = ((acEnc x.acts).2 == 0 && (numOk x.weight 2 && (numOk x.watch 4 && numOk x.wgroup 4))) := rfl
 obtain ⟨R, hR⟩ : ∃ R, acEnc x.acts = R := ⟨_, rfl⟩
 rw [hR] at p e
 unfold byS actS at p
 refine FnP.i Tryz.func66 rfl rfl fun G w => ?_
 repeat' (first | apply WK.s | (refine hQ.h _ _ ?_; clear hQ hA) | (refine Fork.mk (fun h => ?_) (fun h => ?_) <;> (first | (simp [*] at h; done) | (have h2 := h; simp at h2; exfalso; omega) | (have h2 := h; simp at h2; try simp only [Bool.not_eq_true', Bool.not_eq_false'] at h) | skip)) | (refine WK.rH Tryz.ntmps66 (by kernel_rfl) ?_; intro A hA Q hQ; simp [Bucket.enc, *]) | (refine RunQ.g rfl (by rw [hA.h]; rfl) ?_; simp [Bucket.enc, *]) | (refine RunQ.k rfl rfl rfl rfl rfl ?_ (p) ?_ ?_ <;> simp (maxDischargeDepth := 120) [Bucket.enc, *] <;> refine ⟨?_⟩) | (refine RunQW.k rfl rfl rfl rfl ?_ (n1) ?_ ?_ <;> simp (maxDischargeDepth := 120) [Bucket.enc, *] <;> refine ⟨?_⟩) | (refine RunQW.k rfl rfl rfl rfl ?_ (n2) ?_ ?_ <;> simp (maxDischargeDepth := 120) [Bucket.enc, *] <;> refine ⟨?_⟩) | (refine RunQW.k rfl rfl rfl rfl ?_ (n3) ?_ ?_ <;> simp (maxDischargeDepth := 120) [Bucket.enc, *] <;> refine ⟨?_⟩) | (refine WK.t Tryz.func66 ?_ ?_ <;> simp (maxDischargeDepth := 120) [Tryz.results66, Bucket.enc, *]))
theorem bwrong_c (x : Bucket) (hx : x.acts.length ≤ 1000000) : FnP Tryz.prog 65 [.agg x.enc] (.bool (!bkRight x)) := by
 have p := bright_c x hx
 refine FnP.i Tryz.func65 rfl rfl fun G w => ?_
 repeat' (first | apply WK.s | (refine hQ.h _ _ ?_; clear hQ hA) | (refine WK.rH Tryz.ntmps65 (by kernel_rfl) ?_; intro A hA Q hQ; simp [*]) | (refine RunQ.k rfl rfl rfl rfl rfl ?_ (p) ?_ ?_ <;> simp (maxDischargeDepth := 120) [*] <;> refine ⟨?_⟩) | (refine WK.t Tryz.func65 ?_ ?_ <;> simp (maxDischargeDepth := 120) [Tryz.results65, *]))
structure BkFit (x : Bucket) : Prop where
 e0 : (acEnc x.acts).2 = 0
 n0 : numOk ((16 + (acEnc x.acts).1.length : Nat) : Int) 2 = true
 n1 : numOk x.weight 2 = true
 n2 : numOk x.watch 4 = true
 n3 : numOk x.wgroup 4 = true
theorem bkFit {x : Bucket} (h : bkRight x = true) : BkFit x := by
 unfold bkRight at h
 rw [Bool.and_eq_true, Bool.and_eq_true, Bool.and_eq_true, beq_iff_eq] at h
 obtain ⟨h0, h1, h2, h3⟩ := h
 have := acEnc_len x.acts
 exact ⟨h0, numOk2 (by omega), h1, h2, h3⟩
theorem bkFlat_succ {l : List Bucket} {i : Nat} (h : i < l.length) : rwFlat bkOne (l.take (i + 1)) = rwFlat bkOne (l.take i) ++ bkOne (nth l i) := by
 unfold rwFlat; rw [take_nth h, List.flatMap_append]; simp
theorem bkFlat_len (l : List Bucket) : (rwFlat bkOne l).length ≤ l.length * 6100 := by
 induction l with
 | nil => simp [rwFlat]
 | cons x l ih =>
   have h1 := bkOne_len x
   have h2 := acEnc_len x.acts
   have e : rwFlat bkOne (x :: l) = bkOne x ++ rwFlat bkOne l := rfl
   rw [e, List.length_append, List.length_cons]
   omega
theorem bkEnc_bad1 {l : List Bucket} (h : ¬ (l.length ≤ 100 ∧ l.all bkRight = true ∧ (rwFlat bkOne l).length ≤ 60000)) : bkEnc l = ([], 1) := by unfold bkEnc; rw [if_neg h]
theorem anyNot_all {α : Type} (p : α → Bool) (l : List α) : (l.any fun x => !p x) = !l.all p := by rw [List.not_all_eq_any_not]
set_option maxHeartbeats 4000000 in
theorem bkenc_c (l : List Bucket) (hl : l.length ≤ 1000000) (ha : ∀ x, x ∈ l → x.acts.length ≤ 1000000) : FnT Tryz.prog 40 [bukS l] (bkEnc l).1.length 1 (byL (bkEnc l).1) [.int .i64 (bkEnc l).2] := by
 have q := containsf_buk 65 [] (fun x => !bkRight x) l rfl hl (fun x hx => bwrong_c x (ha x hx))
 rw [anyNot_all] at q
 unfold bukS at *
 by_cases h100 : 100 < l.length
 · have e := bkEnc_bad1 (l := l) (fun h => by omega)
   have j : (100 : Int) < l.length := by omega
   rw [e]
   clear q
   refine FnT.intro Tryz.func40 rfl rfl fun G w => ?_
   repeat' (first | apply WK.s | refine WK.cT rfl ?_ | (refine hQ.h _ _ ?_; clear hQ hA) | (refine WK.rH Tryz.ntmps40 (by kernel_rfl) ?_; intro A hA Q hQ; simp [*]) | (refine RunQ.g rfl (by rw [hA.h]; rfl) ?_; simp [*]))
   refine WK.ghost (Ghost.own 2 900 1 rfl rfl) ?_
   refine WK.retT2 Tryz.func40 ?_ ?_ ?_ <;> simp (maxDischargeDepth := 120) [Tryz.results40, b0_]
 have j : ¬ (100 : Int) < l.length := by omega
 cases hr : l.all bkRight
 · have e := bkEnc_bad1 (l := l) (fun h => by rw [hr] at h; exact Bool.noConfusion h.2.1)
   rw [e]
   rw [hr] at q
   refine FnT.intro Tryz.func40 rfl rfl fun G w => ?_
   repeat' (first | apply WK.s | refine WK.cT rfl ?_ | (refine hQ.h _ _ ?_; clear hQ hA) | (refine WK.rH Tryz.ntmps40 (by kernel_rfl) ?_; intro A hA Q hQ; simp [*]) | (refine RunQ.g rfl (by rw [hA.h]; rfl) ?_; simp [*]) | (refine RunQW.k rfl rfl rfl rfl ?_ (q) ?_ ?_ <;> simp (maxDischargeDepth := 120) [*] <;> refine ⟨?_⟩))
   refine WK.ghost (Ghost.own 2 900 1 rfl rfl) ?_
   refine WK.retT2 Tryz.func40 ?_ ?_ ?_ <;> simp (maxDischargeDepth := 120) [Tryz.results40, b0_]
 rw [hr] at q
 have hall : ∀ x, x ∈ l → bkRight x = true := List.all_eq_true.1 hr
 have hdef : bkEnc l = if (rwFlat bkOne l).length ≤ 60000 then (rwFlat bkOne l, 0) else ([], 1) := by
   unfold bkEnc
   by_cases hh : (rwFlat bkOne l).length ≤ 60000
   · rw [if_pos hh, if_pos ⟨by omega, hr, hh⟩]
   · rw [if_neg hh, if_neg fun h => hh h.2.2]
 refine FnT.intro Tryz.func40 rfl rfl fun G w => ?_
 repeat' (first | apply WK.s | apply WK.b | apply WK.k | refine WK.cF rfl ?_ | (refine hQ.h _ _ ?_; clear hQ hA) | (refine WK.rH Tryz.ntmps40 (by kernel_rfl) ?_; intro A hA Q hQ; simp [*]) | (refine RunQ.g rfl (by rw [hA.h]; rfl) ?_; simp [*]) | (refine RunQW.k rfl rfl rfl rfl ?_ (q) ?_ ?_ <;> simp (maxDischargeDepth := 120) [*] <;> refine ⟨?_⟩))
 refine WK.ghost (Ghost.own 4 900 1 rfl rfl) ?_
 refine WK.lI (fun n => if n = 1 then 900 else n) (fun i : Nat => (⟨(upd (upd (upd (upd (upd (upd J 2 (.sl true 0 [])) 3 (.int .i64 0)) 4 (.msl 1 0 (rwFlat bkOne (l.take i)).length)) 16 (.sl false l.length (bukL l))) 17 (.int .i64 l.length)) 18 (.int .i64 i)), (upd B0 1 (.buf 1 (byL (rwFlat bkOne (l.take i))))), 0⟩ : St)) (fun i => i ≤ l.length) (fun i => l.length - i) (0) (by repeat (first | exact TmW.nil | refine TmW.upd ?_ (by simp (maxDischargeDepth := 120) [rwFlat, b0_]))) (by repeat (first | exact BxW.nil | refine BxW.upd ?_ (by simp (maxDischargeDepth := 120) [rwFlat, b0_]))) (by first | exact InjW.id | exact InjW.nil | exact InjW.one | exact InjW.two (by simp) | exact InjW.three (by simp) (by simp) (by simp)) (by omega) (fun i hi IH => ?_)
 have hfl := bkFlat_len (l.take i)
 have htl : (l.take i).length ≤ 100 := by rw [List.length_take]; omega
 by_cases h1 : i < l.length
 · obtain ⟨h4, h3⟩ := buk_load l i h1
   have h6 : IntKind.i64.wrap ((i : Int) + 1) = i + 1 := wrap_i64 (by omega) (by omega)
   have hs := bkFlat_succ h1
   have fit := bkFit (hall _ (nth_mem h1))
   have hx := ha _ (nth_mem h1)
   obtain ⟨x, hxx⟩ : ∃ x, nth l i = x := ⟨_, rfl⟩
   rw [hxx] at h4 hs fit hx
   have p := acencP_c x.acts hx
   have hEl := acEnc_len x.acts
   have hone : bkOne x = beN (16 + (acEnc x.acts).1.length : Nat) 2 ++ (beN x.weight 2 ++ (beN x.watch 4 ++ (beN x.wgroup 4 ++ (List.replicate 4 0#8 ++ (acEnc x.acts).1)))) := rfl
   obtain ⟨f0, f1, f2, f3, f4⟩ := fit
   obtain ⟨R, hR⟩ : ∃ R, acEnc x.acts = R := ⟨_, rfl⟩
   rw [hR] at p hEl f0 f1 hone
   obtain ⟨E, c⟩ := R
   simp only at p hEl f0 f1 hone
   subst f0
   obtain ⟨F, hF⟩ : ∃ F, rwFlat bkOne (l.take i) = F := ⟨_, rfl⟩
   rw [hF] at hs hfl ⊢
   have hFl : F.length ≤ 700000 := by omega
   have c1 := nput_c F ((16 + E.length : Nat) : Int) 2 Sz2 (by omega)
   rw [putN_beN f1] at c1
   obtain ⟨F1, hF1⟩ : ∃ F1, F ++ beN ((16 + E.length : Nat) : Int) 2 = F1 := ⟨_, rfl⟩
   rw [hF1] at c1
   have hF1l : F1.length = F.length + 2 := by rw [← hF1, List.length_append, beN_len]
   have c2 := nput_c F1 x.weight 2 Sz2 (by omega)
   rw [putN_beN f2] at c2
   obtain ⟨F2, hF2⟩ : ∃ F2, F1 ++ beN x.weight 2 = F2 := ⟨_, rfl⟩
   rw [hF2] at c2
   have hF2l : F2.length = F.length + 4 := by rw [← hF2, List.length_append, beN_len]; omega
   have c3 := nput_c F2 x.watch 4 Sz4 (by omega)
   rw [putN_beN f3] at c3
   obtain ⟨F3, hF3⟩ : ∃ F3, F2 ++ beN x.watch 4 = F3 := ⟨_, rfl⟩
   rw [hF3] at c3
   have hF3l : F3.length = F.length + 8 := by rw [← hF3, List.length_append, beN_len]; omega
   have c4 := nput_c F3 x.wgroup 4 Sz4 (by omega)
   rw [putN_beN f4] at c4
   obtain ⟨F4, hF4⟩ : ∃ F4, F3 ++ beN x.wgroup 4 = F4 := ⟨_, rfl⟩
   rw [hF4] at c4
   have hF4l : F4.length = F.length + 12 := by rw [← hF4, List.length_append, beN_len]; omega
   have hs2 : rwFlat bkOne (l.take (i + 1)) = F4 ++ (List.replicate 4 0#8 ++ E) := by
     rw [hs, hone, ← hF4, ← hF3, ← hF2, ← hF1]; simp only [List.append_assoc]
   have hz : byL (List.replicate 4 0#8) = [.int .u8 0, .int .u8 0, .int .u8 0, .int .u8 0] := rfl
   have hs3 : byL F4 ++ (AV.int .u8 0 :: AV.int .u8 0 :: AV.int .u8 0 :: AV.int .u8 0 :: byL E) = byL (rwFlat bkOne (l.take (i + 1))) := by rw [hs2, byL_app, byL_app, hz]; rfl
   have hs4 : (rwFlat bkOne (l.take (i + 1))).length = F4.length + 4 + E.length := by rw [hs2, List.length_append, List.length_append, List.length_replicate]; omega
   have w16 : IntKind.i64.wrap (16 + (E.length : Int)) = 16 + (E.length : Int) := wrap_i64 (by omega) (by omega)
   have hbd1 : F4.length + 4 ≤ 140737488355328 := by omega
   have hbd2 : F4.length + 4 + E.length ≤ 140737488355328 := by omega
   have hfu1 : (byL F).take F.length = byL F := by_full _ _ rfl
   have hfu2 : (byL F1).take F1.length = byL F1 := by_full _ _ rfl
   have hfu3 : (byL F2).take F2.length = byL F2 := by_full _ _ rfl
   have hfu4 : (byL F3).take F3.length = byL F3 := by_full _ _ rfl
   have hfu5 : (byL E).take E.length = byL E := by_full _ _ rfl
   unfold byS actS at *
   clear hF hF1 hF2 hF3 hF4 hs hs2 hone hR f1 f2 f3 f4 hxx hF1l hF2l hF3l hF4l hfl htl hr
   repeat' (first | apply WK.s | apply WK.b | apply WK.n | apply WK.k | refine WK.cT rfl ?_ | (refine hQ.h _ _ ?_; clear hQ hA) | (refine WK.rH Tryz.ntmps40 (by kernel_rfl) ?_; intro A hA Q hQ; simp [Bucket.enc, *]) | (refine WK.rX (by kernel_rfl) Tryz.ntmps40 (by kernel_rfl) ?_; intro A hA Q hQ; simp [Bucket.enc, *]) | (refine hQ.h _ _ _ (by decide +kernel) ?_; clear hQ hA) | (refine RunX.callOz 901 28 1 rfl rfl rfl rfl rfl rfl ?_ (c1) ?_ ?_ (by simp) (by decide) ?_; (focus (simp (maxDischargeDepth := 120) [Bucket.enc, *]; done)); (focus (simp [Bucket.enc, *]; done)); (focus (simp [Bucket.enc, *]; done)); refine RunX.e ?_; simp [Bucket.enc, *]) | (refine RunX.callOz 902 32 1 rfl rfl rfl rfl rfl rfl ?_ (c2) ?_ ?_ (by simp) (by decide) ?_; (focus (simp (maxDischargeDepth := 120) [Bucket.enc, *]; done)); (focus (simp [Bucket.enc, *]; done)); (focus (simp [Bucket.enc, *]; done)); refine RunX.e ?_; simp [Bucket.enc, *]) | (refine RunX.callOz 903 36 1 rfl rfl rfl rfl rfl rfl ?_ (c3) ?_ ?_ (by simp) (by decide) ?_; (focus (simp (maxDischargeDepth := 120) [Bucket.enc, *]; done)); (focus (simp [Bucket.enc, *]; done)); (focus (simp [Bucket.enc, *]; done)); refine RunX.e ?_; simp [Bucket.enc, *]) | (refine RunX.callOz 904 39 1 rfl rfl rfl rfl rfl rfl ?_ (c4) ?_ ?_ (by simp) (by decide) ?_; (focus (simp (maxDischargeDepth := 120) [Bucket.enc, *]; done)); (focus (simp [Bucket.enc, *]; done)); (focus (simp [Bucket.enc, *]; done)); refine RunX.e ?_; simp [Bucket.enc, *]) | (refine RunQ.append 905 appByte rfl rfl rfl rfl rfl rfl rfl rfl rfl ?_ ?_ ?_ ?_ ?_; (focus (first | omega | (simp [Bucket.enc, *]; done); done)); (focus (first | omega | (simp [Bucket.enc, *]; done); done)); (focus (first | omega | (simp [Bucket.enc, *]; done); done)); (focus (first | omega | (simp [Bucket.enc, *]; done); done)); refine RunQ.evalH ?_; simp [Bucket.enc, *]) | (refine RunQ.append 906 appByte rfl rfl rfl rfl rfl rfl rfl rfl rfl ?_ ?_ ?_ ?_ ?_; (focus (first | omega | (simp [Bucket.enc, *]; done); done)); (focus (first | omega | (simp [Bucket.enc, *]; done); done)); (focus (first | omega | (simp [Bucket.enc, *]; done); done)); (focus (first | omega | (simp [Bucket.enc, *]; done); done)); refine RunQ.evalH ?_; simp [Bucket.enc, *]) | (refine RunQ.k rfl rfl rfl rfl rfl ?_ (p) ?_ ?_ <;> simp (maxDischargeDepth := 120) [Bucket.enc, *] <;> refine ⟨?_⟩))
   refine WK.next (fun n => if n = 1 then 906 else n) (IH (i + 1) (by omega) (by first | omega | (dsimp only; omega))) (by repeat (first | exact TmW.nil | refine TmW.upd ?_ (by simp (maxDischargeDepth := 120) [hs3, hs4]))) (by repeat (first | exact BxW.nil | refine BxW.upd ?_ (by simp (maxDischargeDepth := 120) [hs3, hs4]))) (by first | exact InjW.id | exact InjW.nil | exact InjW.one | exact InjW.two (by simp) | exact InjW.three (by simp) (by simp) (by simp))
 · have hT : l.take i = l := List.take_of_length_le (by omega)
   rw [hT] at hfl ⊢
   obtain ⟨F, hF⟩ : ∃ F, rwFlat bkOne l = F := ⟨_, rfl⟩
   rw [hF] at hdef hfl ⊢
   by_cases h6 : F.length ≤ 60000
   · have j6 : ¬ (60000 : Int) < F.length := by omega
     rw [if_pos h6] at hdef
     rw [hdef]
     clear hF hdef
     repeat' (first | apply WK.s | apply WK.k | refine WK.exit rfl ?_ | refine WK.cF rfl ?_ | (refine hQ.h _ _ ?_; clear hQ hA) | (refine WK.rH Tryz.ntmps40 (by kernel_rfl) ?_; intro A hA Q hQ; simp [*]) | (refine WK.retT2 Tryz.func40 ?_ ?_ ?_ <;> simp (maxDischargeDepth := 120) [Tryz.results40, *]))
   · have j6 : (60000 : Int) < F.length := by omega
     rw [if_neg h6] at hdef
     rw [hdef]
     clear hF hdef
     repeat' (first | apply WK.s | refine WK.exit rfl ?_ | refine WK.cT rfl ?_ | refine WK.cF rfl ?_ | (refine hQ.h _ _ ?_; clear hQ hA) | (refine WK.rH Tryz.ntmps40 (by kernel_rfl) ?_; intro A hA Q hQ; simp [*]))
     refine WK.ghost (Ghost.own 2 907 1 rfl rfl) ?_
     refine WK.retT2 Tryz.func40 ?_ ?_ ?_ <;> simp (maxDischargeDepth := 120) [Tryz.results40, b0_]

def Bucket.same (a b : Bucket) : Bool := a.weight == b.weight && (a.watch == b.watch && (a.wgroup == b.wgroup && eqBy (· == ·) a.acts b.acts))
def bucketsPlain (l : List Bucket) (m : Int) : Bool := decide ((l.length : Int) ≤ m) && l.all fun x => actsPlain x.acts
theorem pbuk1_c (x : Bucket) : FnP Tryz.prog 119 [.agg x.enc] (.bool (!actsPlain x.acts)) := by
 have h := pacts_c x.acts
 unfold actS at h
 refine FnP.i Tryz.func119 rfl rfl fun G w => ?_
 repeat' (first | apply WK.s | (refine hQ.h _ _ ?_; clear hQ hA) | (refine WK.rH Tryz.ntmps119 (by kernel_rfl) ?_; intro A hA Q hQ; simp [Bucket.enc, *]) | (refine RunQ.k rfl rfl rfl rfl rfl ?_ (h) ?_ ?_ <;> simp (maxDischargeDepth := 120) [Bucket.enc, *] <;> refine ⟨?_⟩) | (refine WK.t Tryz.func119 ?_ ?_ <;> simp (maxDischargeDepth := 120) [Tryz.results119, Bucket.enc, *]))
theorem pbuckets_c (l : List Bucket) (m : Int) (hm : m ≤ 1000) : FnP Tryz.prog 63 [bukS l, .int .i64 m] (.bool (bucketsPlain l m)) := by
 unfold bucketsPlain
 by_cases h1 : (l.length : Int) ≤ m
 · have hco := containsf_buk 119 [] (fun x => !actsPlain x.acts) l rfl (by omega) (fun x _ => pbuk1_c x)
   rw [anyNot_all] at hco
   have e : decide ((l.length : Int) ≤ m) = true := by simpa using h1
   unfold bukS at *
   refine FnP.i Tryz.func63 rfl rfl fun G w => ?_
   repeat' (first | apply WK.s | (refine hQ.h _ _ ?_; clear hQ hA) | (refine WK.rH Tryz.ntmps63 (by kernel_rfl) ?_; intro A hA Q hQ; simp [*]) | (refine RunQ.g rfl (by rw [hA.h]; rfl) ?_; simp [*]) | (refine RunQW.k rfl rfl rfl rfl ?_ (hco) ?_ ?_ <;> simp (maxDischargeDepth := 120) [*] <;> refine ⟨?_⟩) | (refine WK.t Tryz.func63 ?_ ?_ <;> simp (maxDischargeDepth := 120) [Tryz.results63, *]))
 · have e : decide ((l.length : Int) ≤ m) = false := by simpa using h1
   unfold bukS at *
   refine FnP.i Tryz.func63 rfl rfl fun G w => ?_
   repeat' (first | apply WK.s | (refine hQ.h _ _ ?_; clear hQ hA) | (refine WK.rH Tryz.ntmps63 (by kernel_rfl) ?_; intro A hA Q hQ; simp [*]) | (refine RunQ.g rfl (by rw [hA.h]; rfl) ?_; simp [*]) | (refine WK.t Tryz.func63 ?_ ?_ <;> simp (maxDischargeDepth := 120) [Tryz.results63, *]))
theorem bkencP_c (l : List Bucket) (hl : l.length ≤ 1000000) (ha : ∀ x, x ∈ l → x.acts.length ≤ 1000000) : FnP Tryz.prog 40 [bukS l] (.tup [byS (bkEnc l).1, .int .i64 (bkEnc l).2]) := by
 have h := (bkenc_c l hl ha).toP (by simp [byL_take]) (by rfl)
 rwa [Nat.mul_one, by_full _ _ rfl] at h
end Go.Proofs.YtmhapglejjehbaaGreat

namespace Go.Proofs.YtmhapglejjehbaaGreat
open Go Go.AI Go.Proofs
theorem eqBy_iff {l m : List Action} : eqBy (fun x y : Action => x == y) l m = true ↔ l = m := by
 constructor
 · intro h
   unfold eqBy at h
   rw [Bool.and_eq_true, beq_iff_eq, List.all_eq_true] at h
   refine List.ext_getElem h.1 fun i h1 h2 => ?_
   have := h.2 i (by simpa using h1)
   rw [beq_iff_eq, nth_eq h1, nth_eq h2] at this
   exact this
 · intro h; subst h; exact eqBy_selfA l
theorem instSame_iff {a b : Inst} : Inst.same a b = true ↔ a = b := by
 obtain ⟨k, t, v, m, l⟩ := a
 obtain ⟨k', t', v', m', l'⟩ := b
 unfold Inst.same
 simp only [Bool.and_eq_true, beq_iff_eq, Inst.mk.injEq]
 rw [show (eqBy (fun x1 x2 => x1 == x2) l l' = true) ↔ l = l' from eqBy_iff]
 simp only [and_assoc]
theorem instSelf (i : Inst) : Inst.same i i = true := instSame_iff.2 rfl
def inst0 : Inst := ⟨0, 0, wZ_, wZ_, []⟩
def inMeta (v m : Wide) : Bool := v.hi == 0#64 && (m.hi == 0#64 && (v.less m).zero)
def inBare (i : Inst) : Inst := if i.kind = 1 then ⟨1, i.table, wZ_, wZ_, []⟩ else if i.kind = 2 then ⟨2, 0, i.value, i.mask, []⟩ else if i.kind = 3 ∨ i.kind = 4 then ⟨i.kind, 0, wZ_, wZ_, i.acts⟩ else ⟨i.kind, 0, wZ_, wZ_, []⟩
def inOk (i : Inst) : Bool := if i.kind = 1 then decide (0 ≤ i.table) && decide (i.table < 255) else if i.kind = 2 then inMeta i.value i.mask else if i.kind = 3 ∨ i.kind = 4 then (acEnc i.acts).2 == 0 else i.kind == 5
def inRight (i : Inst) : Bool := inOk i && Inst.same i (inBare i)
def inBody (i : Inst) : List (BitVec 8) := if i.kind = 1 then BitVec.ofInt 8 i.table :: List.replicate 3 0#8 else if i.kind = 2 then List.replicate 4 0#8 ++ (beN (wN i.value) 8 ++ beN (wN i.mask) 8) else if i.kind = 3 ∨ i.kind = 4 then List.replicate 4 0#8 ++ (acEnc i.acts).1 else List.replicate 4 0#8
def inOne (i : Inst) : List (BitVec 8) := beN i.kind 2 ++ (beN (4 + (inBody i).length : Nat) 2 ++ inBody i)
def inKinds (l : List Inst) : List Int := l.map (·.kind)
def inFit (l : List Inst) : Bool := l.all inRight && decide (inKinds l).Nodup
def inEnc (l : List Inst) : List (BitVec 8) × Int := if inFit l = true ∧ (rwFlat inOne l).length ≤ 60000 then (rwFlat inOne l, 0) else ([], 1)
def inLaid (k : Int) (b : List (BitVec 8)) : Bool := if k = 1 then b.length == 8 && allZ (b.drop 5) else if k = 2 then b.length == 24 && allZ ((b.drop 4).take 4) else if k = 5 then b.length == 8 && allZ (b.drop 4) else allZ ((b.drop 4).take 4)
def inCut (b : List (BitVec 8)) : Int × Nat × Option (Int × Int) :=
 if b.length < 8 then (0, 0, some (3, 7))
 else if valN ((b.drop 2).take 2) < 8 ∨ ¬ valN ((b.drop 2).take 2) % 8 = 0 ∨ b.length < valN ((b.drop 2).take 2) then (0, 0, some (3, 7))
 else if valN ((b.drop 0).take 2) = 6 then (0, 0, some (3, 1))
 else if valN ((b.drop 0).take 2) < 1 ∨ 5 < valN ((b.drop 0).take 2) then (0, 0, some (3, 0))
 else if inLaid (valN ((b.drop 0).take 2)) (b.take (valN ((b.drop 2).take 2))) = false then (0, 0, some (3, 7))
 else (valN ((b.drop 0).take 2), valN ((b.drop 2).take 2), none)
def inOf (k : Int) (b : List (BitVec 8)) : Inst × Option (Int × Int) :=
 if k = 1 then (⟨1, (nth b 4).toNat, wZ_, wZ_, []⟩, if (nth b 4).toNat = 255 then some (3, 2) else none)
 else if k = 2 then (⟨2, 0, (wGet (b.drop 8) 8).1, (wGet (b.drop 16) 8).1, []⟩, if inMeta (wGet (b.drop 8) 8).1 (wGet (b.drop 16) 8).1 = true then none else some (3, 4))
 else if k = 3 ∨ k = 4 then (⟨k, 0, wZ_, wZ_, (acDec (b.drop 8)).1⟩, (acDec (b.drop 8)).2.map fun c => (2, c))
 else (⟨k, 0, wZ_, wZ_, []⟩, none)
def inStep (ks : List Int) (b : List (BitVec 8)) : Inst × Nat × Option (Int × Int) :=
 match (inCut b).2.2 with
 | some c => (inst0, 0, some c)
 | none => if (inCut b).1 ∈ ks then (inst0, 0, some (3, 9)) else
   match (inOf (inCut b).1 (b.take (inCut b).2.1)).2 with
   | some c => (inst0, 0, some c)
   | none => ((inOf (inCut b).1 (b.take (inCut b).2.1)).1, (inCut b).2.1, none)
def inF : Nat → List Inst → List (BitVec 8) → List Inst × Option (Int × Int)
 | 0, acc, _ => (acc, none)
 | f + 1, acc, b => if b.length = 0 then (acc, none) else match (inStep (inKinds acc) b).2.2 with
   | some c => ([], some c)
   | none => inF f (acc ++ [(inStep (inKinds acc) b).1]) (b.drop (inStep (inKinds acc) b).2.1)
def inDec (b : List (BitVec 8)) : List Inst × Option (Int × Int) := inF b.length [] b
theorem inBody_len (i : Inst) : (inBody i).length ≤ 6004 := by
 have := acEnc_len i.acts
 unfold inBody
 split
 · simp
 split
 · simp [beN_len]
 split
 · simp; omega
 · simp
theorem inOne_len (i : Inst) : (inOne i).length = 4 + (inBody i).length := by unfold inOne; simp [beN_len]; omega
theorem inRight_facts {i : Inst} (h : inRight i = true) : inOk i = true ∧ i = inBare i := by
 unfold inRight at h
 rw [Bool.and_eq_true] at h
 exact ⟨h.1, instSame_iff.1 h.2⟩
theorem inKind_of {i : Inst} (h : inOk i = true) : i.kind = 1 ∨ i.kind = 2 ∨ i.kind = 3 ∨ i.kind = 4 ∨ i.kind = 5 := by
 unfold inOk at h
 split at h
 · exact .inl ‹_›
 split at h
 · exact .inr (.inl ‹_›)
 split at h
 · rename_i h3; rcases h3 with h3 | h3
   · exact .inr (.inr (.inl h3))
   · exact .inr (.inr (.inr (.inl h3)))
 · exact .inr (.inr (.inr (.inr (by simpa using h))))
theorem inFit_facts {l : List Inst} (h : inFit l = true) : (∀ a, a ∈ l → inRight a = true) ∧ (inKinds l).Nodup := by
 unfold inFit at h
 rw [Bool.and_eq_true, List.all_eq_true, decide_eq_true_eq] at h
 exact h
theorem inEnc_bad1 {l : List Inst} (h : ¬ (inFit l = true ∧ (rwFlat inOne l).length ≤ 60000)) : inEnc l = ([], 1) := by unfold inEnc; rw [if_neg h]
end Go.Proofs.YtmhapglejjehbaaGreat
