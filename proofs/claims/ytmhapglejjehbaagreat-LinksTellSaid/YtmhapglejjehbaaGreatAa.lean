/- A part of our proof. -/
import Derived.Calls
import Derived.Orders
import Derived.OrdersIn
import Derived.RegionIn
import Derived.WalkKit
import Derived.Laws.Sem
import Derived.Laws.Cells
set_option linter.all false
set_option linter.unnecessarySimpa false
section
namespace Go.AI
inductive AV where
 | junk | anyb | bool (b : Bool) | int (k : IntKind) (n : Int) | str (s : ByteArray) | nilf
 | fn (f : FuncId) (caps : List AV) | agg (cs : List AV) | tup (vs : List AV)
 | sl (full : Bool) (n : Nat) (cs : List AV) | nilp | iptr (cs : List AV)
 | ptr (b : Nat) (off : Nat) | msl (b : Nat) (off n : Nat) | iface (t : TypeId) (v : AV) | niface | yv (l : Nat) | mv (r : Nat)
 deriving Inhabited
abbrev Heap := Nat → Nat → Option Value
inductive Loc where | var (blk : Nat) | buf (blk sz cap : Nat) | nil | set (p : Nat → Prop)
def Loc.blk? : Loc → Option Nat | .var b => some b | .buf b _ _ => some b | .nil => none | .set _ => none
def Loc.has : Loc → Nat → Prop | .set p, b => p b | .var c, b => c = b | .buf c _ _, b => c = b | .nil, _ => False
def Loc.fr : Loc → Bool | .set _ => true | _ => false
theorem Loc.has_of {l : Loc} {b : Nat} (h : l.blk? = some b) : l.has b := by cases l <;> simp_all [Loc.blk?, Loc.has]
theorem Loc.fr_of {l : Loc} {b : Nat} (h : l.blk? = some b) : l.fr = false := by cases l <;> simp_all [Loc.blk?, Loc.fr]
theorem Loc.has_eq {l : Loc} {b c : Nat} (h : l.blk? = some b) (h' : l.has c) : c = b := by cases l <;> simp_all [Loc.blk?, Loc.has]
abbrev Env := Nat → Option Loc
def InG (G : Heap) (b off : Nat) (vs : List Value) : Prop := ∀ j v, vs[j]? = some v → G b (off + j) = some v
def Ones (vs : List Value) : Prop := ∀ v, v ∈ vs → v.oneCell' = true
theorem Ones.take {vs : List Value} (h : Ones vs) (n : Nat) : Ones (vs.take n) := fun v hv => h v (List.mem_of_mem_take hv)
theorem Ones.drop {vs : List Value} (h : Ones vs) (n : Nat) : Ones (vs.drop n) := fun v hv => h v (List.mem_of_mem_drop hv)
theorem Ones.append {vs us : List Value} (h : Ones vs) (h' : Ones us) : Ones (vs ++ us) := fun v hv => by
 rcases List.mem_append.1 hv with h1 | h1
 · exact h v h1
 · exact h' v h1
mutual
def Rel (E : Env) (G : Heap) : AV → Value → Prop
 | .junk, _ => True
 | .anyb, v => ∃ b, v = .bool b
 | .bool b, v => v = .bool b
 | .int k n, v => v = .int k n
 | .str s, v => v = .string s
 | .nilf, v => v = .nilFunc
 | .fn f cs, v => ∃ vs : List Value, v = .func (.func f) #[] vs.toArray ∧ RelL E G cs vs
 | .agg cs, v => ∃ vs : List Value, v = .agg vs.toArray ∧ RelL E G cs vs ∧ Ones vs
 | .tup cs, v => ∃ vs : List Value, v = .tuple vs.toArray ∧ RelL E G cs vs
 | .sl full n cs, v => (∃ (a : Option Addr) (cap : Nat), v = .slice a n cap ∧ n = 0 ∧ (full = true → cap = 0) ∧ cs = []) ∨
     ∃ blk off cap, ∃ vs : List Value, v = .slice (some ⟨blk, off, none⟩) n cap ∧ n ≤ cap ∧ n ≤ 9223372036854775807 ∧
       (full = true → cap = n) ∧ RelL E G cs vs ∧ InG G blk off vs ∧ Ones vs
 | .nilp, v => v = .pointer none
 | .iptr cs, v => ∃ blk off, ∃ vs : List Value, v = .pointer (some ⟨blk, off, none⟩) ∧ RelL E G cs vs ∧ InG G blk off vs ∧ Ones vs
 | .ptr b off, v => ∃ l blk, E b = some l ∧ l.blk? = some blk ∧ v = .pointer (some ⟨blk, off, none⟩)
 | .msl b off n, v => (∃ blk cap, v = .slice (some ⟨blk, off, none⟩) n cap ∧ n ≤ cap ∧ n ≤ 9223372036854775807 ∧
       ((∃ sz tot, E b = some (.buf blk sz tot) ∧ off + cap * sz = tot * sz) ∨ E b = some (.var blk))) ∨
     (E b = some .nil ∧ off = 0 ∧ n = 0 ∧ ∃ a : Option Addr, v = .slice a 0 0)
 | .iface t x, v => ∃ y, v = .iface t y ∧ Rel E G x y
 | .niface, v => v = .nilIface
 | .yv l, v => v = .func (.yield l) #[] #[]
 | .mv b, v => ∃ l blk, E b = some l ∧ l.blk? = some blk ∧ v = .map (some blk)
def RelL (E : Env) (G : Heap) : List AV → List Value → Prop
 | [], vs => vs = []
 | c :: cs, vs => ∃ v vs', vs = v :: vs' ∧ Rel E G c v ∧ RelL E G cs vs'
end
def EnvLe (E E' : Env) : Prop := ∀ n l, E n = some l → l.fr = false → E' n = some l
def HeapLe (G G' : Heap) : Prop := ∀ b o v, G b o = some v → G' b o = some v
theorem EnvLe.refl (E : Env) : EnvLe E E := fun _ _ h _ => h
theorem HeapLe.refl (G : Heap) : HeapLe G G := fun _ _ _ h => h
theorem EnvLe.trans {E E' E'' : Env} (h : EnvLe E E') (h' : EnvLe E' E'') : EnvLe E E'' := fun _ _ x y => h' _ _ (h _ _ x y) y
theorem HeapLe.trans {G G' G'' : Heap} (h : HeapLe G G') (h' : HeapLe G' G'') : HeapLe G G'' := fun _ _ _ x => h' _ _ _ (h _ _ _ x)
theorem InG.mono {G G' : Heap} (hg : HeapLe G G') {b off : Nat} {vs : List Value} (h : InG G b off vs) : InG G' b off vs :=
 fun j v hv => hg _ _ _ (h j v hv)
theorem InG.take {G : Heap} {b off : Nat} {vs : List Value} (h : InG G b off vs) (n : Nat) : InG G b off (vs.take n) :=
 fun j v hv => by
   rw [List.getElem?_take] at hv
   split at hv
   · exact h j v hv
   · cases hv
theorem InG.drop {G : Heap} {b off : Nat} {vs : List Value} (h : InG G b off vs) (n : Nat) : InG G b (off + n) (vs.drop n) :=
 fun j v hv => by
   rw [List.getElem?_drop] at hv
   have := h _ v hv
   rwa [← Nat.add_assoc] at this
mutual
theorem Rel.mono {E E' : Env} {G G' : Heap} (he : EnvLe E E') (hg : HeapLe G G') : ∀ (c : AV) (v : Value), Rel E G c v → Rel E' G' c v
 | .junk, v, h => by simp only [Rel]
 | .anyb, v, h => by simpa only [Rel] using h
 | .bool b, v, h => by simpa only [Rel] using h
 | .int k n, v, h => by simpa only [Rel] using h
 | .str s, v, h => by simpa only [Rel] using h
 | .nilf, v, h => by simpa only [Rel] using h
 | .nilp, v, h => by simpa only [Rel] using h
 | .niface, v, h => by simpa only [Rel] using h
 | .yv l, v, h => by simpa only [Rel] using h
 | .mv b, v, h => by
   simp only [Rel] at h ⊢
   obtain ⟨l, blk, h1, h2, h3⟩ := h
   exact ⟨l, blk, he _ _ h1 (Loc.fr_of h2), h2, h3⟩
 | .fn f cs, v, h => by
   simp only [Rel] at h ⊢
   obtain ⟨vs, hv, hr⟩ := h
   exact ⟨vs, hv, RelL.mono he hg cs vs hr⟩
 | .agg cs, v, h => by
   simp only [Rel] at h ⊢
   obtain ⟨vs, hv, hr, ho⟩ := h
   exact ⟨vs, hv, RelL.mono he hg cs vs hr, ho⟩
 | .tup cs, v, h => by
   simp only [Rel] at h ⊢
   obtain ⟨vs, hv, hr⟩ := h
   exact ⟨vs, hv, RelL.mono he hg cs vs hr⟩
 | .sl full n cs, v, h => by
   simp only [Rel] at h ⊢
   rcases h with h | ⟨blk, off, cap, vs, h1, h2, h3, h4, h5, h6, h7⟩
   · exact .inl h
   · exact .inr ⟨blk, off, cap, vs, h1, h2, h3, h4, RelL.mono he hg cs vs h5, h6.mono hg, h7⟩
 | .iptr cs, v, h => by
   simp only [Rel] at h ⊢
   obtain ⟨blk, off, vs, h1, h5, h6, h7⟩ := h
   exact ⟨blk, off, vs, h1, RelL.mono he hg cs vs h5, h6.mono hg, h7⟩
 | .ptr b off, v, h => by
   simp only [Rel] at h ⊢
   obtain ⟨l, blk, h1, h2, h3⟩ := h
   exact ⟨l, blk, he _ _ h1 (Loc.fr_of h2), h2, h3⟩
 | .msl b off n, v, h => by
   simp only [Rel] at h ⊢
   rcases h with ⟨blk, cap, h1, h2, h3, h4⟩ | ⟨h1, h2⟩
   · refine .inl ⟨blk, cap, h1, h2, h3, ?_⟩
     rcases h4 with ⟨sz, tot, h4, h5⟩ | h4
     · exact .inl ⟨sz, tot, he _ _ h4 rfl, h5⟩
     · exact .inr (he _ _ h4 rfl)
   · exact .inr ⟨he _ _ h1 rfl, h2⟩
 | .iface t x, v, h => by
   simp only [Rel] at h ⊢
   obtain ⟨y, h1, h2⟩ := h
   exact ⟨y, h1, Rel.mono he hg x y h2⟩
theorem RelL.mono {E E' : Env} {G G' : Heap} (he : EnvLe E E') (hg : HeapLe G G') : ∀ (cs : List AV) (vs : List Value), RelL E G cs vs → RelL E' G' cs vs
 | [], vs, h => by simpa only [RelL] using h
 | c :: cs, vs, h => by
   simp only [RelL] at h ⊢
   obtain ⟨v, vs', h1, h2, h3⟩ := h
   exact ⟨v, vs', h1, Rel.mono he hg c v h2, RelL.mono he hg cs vs' h3⟩
end
section
variable {E : Env} {G : Heap}
theorem RelL.nil : RelL E G [] [] := by simp only [RelL]
theorem RelL.cons {c : AV} {cs : List AV} {v : Value} {vs : List Value} (h : Rel E G c v) (h' : RelL E G cs vs) : RelL E G (c :: cs) (v :: vs) := by
 simp only [RelL]; exact ⟨v, vs, rfl, h, h'⟩
theorem RelL.length : ∀ {cs : List AV} {vs : List Value}, RelL E G cs vs → vs.length = cs.length
 | [], vs, h => by simp only [RelL] at h; simp [h]
 | c :: cs, vs, h => by
   simp only [RelL] at h
   obtain ⟨v, vs', rfl, h2, h3⟩ := h
   simp [RelL.length h3]
theorem RelL.append : ∀ {cs ds : List AV} {vs us : List Value}, RelL E G cs vs → RelL E G ds us → RelL E G (cs ++ ds) (vs ++ us)
 | [], ds, vs, us, h, h' => by simp only [RelL] at h; simpa [h] using h'
 | c :: cs, ds, vs, us, h, h' => by
   simp only [RelL] at h
   obtain ⟨v, vs', rfl, h2, h3⟩ := h
   exact RelL.cons h2 (RelL.append h3 h')
theorem RelL.take : ∀ {cs : List AV} {vs : List Value} (n : Nat), RelL E G cs vs → RelL E G (cs.take n) (vs.take n)
 | [], vs, n, h => by simp only [RelL] at h; simp [h, RelL.nil]
 | c :: cs, vs, 0, h => by simp [RelL.nil]
 | c :: cs, vs, n + 1, h => by
   simp only [RelL] at h
   obtain ⟨v, vs', rfl, h2, h3⟩ := h
   exact RelL.cons h2 (RelL.take n h3)
theorem RelL.drop : ∀ {cs : List AV} {vs : List Value} (n : Nat), RelL E G cs vs → RelL E G (cs.drop n) (vs.drop n)
 | [], vs, n, h => by simp only [RelL] at h; simp [h, RelL.nil]
 | c :: cs, vs, 0, h => h
 | c :: cs, vs, n + 1, h => by
   simp only [RelL] at h
   obtain ⟨v, vs', rfl, h2, h3⟩ := h
   exact RelL.drop n h3
theorem RelL.get : ∀ {cs : List AV} {vs : List Value} {i : Nat} {c : AV}, RelL E G cs vs → cs[i]? = some c → ∃ v, vs[i]? = some v ∧ Rel E G c v
 | [], vs, i, c, h, hi => by simp at hi
 | c :: cs, vs, 0, c', h, hi => by
   simp only [RelL] at h
   obtain ⟨v, vs', rfl, h2, h3⟩ := h
   simp at hi; subst hi
   exact ⟨v, rfl, h2⟩
 | c :: cs, vs, i + 1, c', h, hi => by
   simp only [RelL] at h
   obtain ⟨v, vs', rfl, h2, h3⟩ := h
   obtain ⟨u, hu, hr⟩ := RelL.get (i := i) h3 (by simpa using hi)
   exact ⟨u, by simpa using hu, hr⟩
theorem RelL.single {c : AV} {vs : List Value} (h : RelL E G [c] vs) : ∃ v, vs = [v] ∧ Rel E G c v := by
 simp only [RelL] at h
 obtain ⟨v, vs', rfl, h2, rfl⟩ := h
 exact ⟨v, rfl, h2⟩
end
def AV.cells : AV → List AV | .agg cs => cs | v => [v]
def AV.plain : AV → Bool | .junk | .tup _ => false | _ => true
theorem Ones.single {v : Value} (h : v.oneCell' = true) : Ones [v] := fun u hu => by
 simp at hu; subst hu; exact h
theorem Rel.cells {E : Env} {G : Heap} {x : AV} {v : Value} (h : Rel E G x v) (hx : x.plain = true) : RelL E G x.cells v.cells.toList ∧ Ones v.cells.toList := by
 cases x
 case agg cs =>
   simp only [Rel] at h
   obtain ⟨vs, rfl, h1, h2⟩ := h
   exact ⟨by simpa [AV.cells, Value.cells] using h1, by simpa [Value.cells] using h2⟩
 case junk => simp [AV.plain] at hx
 case tup => simp [AV.plain] at hx
 all_goals
   have h0 := h
   simp only [Rel] at h
   first
     | (subst h; exact ⟨RelL.cons h0 RelL.nil, Ones.single rfl⟩)
     | (rcases h with ⟨a, cap, rfl, _⟩ | ⟨blk, off, cap, vs, rfl, _⟩ <;> exact ⟨RelL.cons h0 RelL.nil, Ones.single rfl⟩)
     | (obtain ⟨b, rfl⟩ := h; exact ⟨RelL.cons h0 RelL.nil, Ones.single rfl⟩)
     | (obtain ⟨b, rfl, h⟩ := h; exact ⟨RelL.cons h0 RelL.nil, Ones.single rfl⟩)
     | (obtain ⟨b, c, d, rfl, h⟩ := h; exact ⟨RelL.cons h0 RelL.nil, Ones.single rfl⟩)
     | (obtain ⟨b, c, d, e, rfl⟩ := h; exact ⟨RelL.cons h0 RelL.nil, Ones.single rfl⟩)
     | (rcases h with ⟨c, rfl, _⟩ | ⟨_, _, _, vs, rfl, _⟩ <;> exact ⟨RelL.cons h0 RelL.nil, Ones.single rfl⟩)
     | (rcases h with ⟨c, _, rfl, _⟩ | ⟨_, _, _, _, rfl⟩ <;> exact ⟨RelL.cons h0 RelL.nil, Ones.single rfl⟩)
def cv0 : Value → AV
 | .bool b => .bool b | .int k n => .int k n | .string s => .str s | .nilFunc => .nilf | .pointer none => .nilp
 | .slice none 0 0 => .sl true 0 [] | .nilIface => .niface | _ => .junk
def cv : Value → AV | .agg cs => if cs.toList.all Value.oneCell' then .agg (cs.toList.map cv0) else .junk | v => cv0 v
section
variable {E : Env} {G : Heap}
theorem cv0_rel (v : Value) : Rel E G (cv0 v) v := by
 unfold cv0
 split <;> simp only [Rel]
 exact .inl ⟨none, 0, rfl, trivial, fun _ => rfl, trivial⟩
theorem cv0_relL : ∀ (vs : List Value), RelL E G (vs.map cv0) vs
 | [] => RelL.nil
 | v :: vs => RelL.cons (cv0_rel v) (cv0_relL vs)
theorem cv_rel (v : Value) : Rel E G (cv v) v := by
 unfold cv
 split
 · rename_i cs
   split
   · rename_i h
     simp only [Rel]
     refine ⟨cs.toList, by simp, cv0_relL _, fun v hv => ?_⟩
     exact List.all_eq_true.1 h v hv
   · simp only [Rel]
 · exact cv0_rel v
end
structure FSpec where
 I : Nat → (Nat → Prop) → World → Heap → Prop
 stab : ∀ {i : Nat} {own : Nat → Prop} {w w' : World} {G G' : Heap}, I i own w G → HeapLe G G' → w.heap.size ≤ w'.heap.size →
   (∀ b, own b → w'.heap[b]? = w.heap[b]? ∧ G' b = G b) → I i own w' G'
inductive Box where | none | gone | var (cs : List AV) | buf (sz : Nat) (cs : List AV) | frn (Y : FSpec) (i : Nat) | obj (o : Obj)
 deriving Inhabited
def Box.live : Box → Bool | .var _ | .buf .. | .frn .. | .obj _ => true | _ => false
structure St where
 tm : Nat → AV
 bx : Nat → Box
 nx : Nat
def upd {α : Type} (f : Nat → α) (i : Nat) (v : α) : Nat → α := fun j => if j = i then v else f j
@[simp] theorem upd_same {α : Type} (f : Nat → α) (i : Nat) (v : α) : upd f i v i = v := by simp [upd]
@[simp] theorem upd_ne {α : Type} (f : Nat → α) (i j : Nat) (v : α) (h : j ≠ i) : upd f i v j = f j := by simp [upd, h]
theorem upd_comm {α : Type} (f : Nat → α) {i j : Nat} (u v : α) (h : i ≠ j) : upd (upd f i u) j v = upd (upd f j v) i u := by
 funext k
 unfold upd
 by_cases h1 : k = i
 · subst h1
   simp [h]
 · simp [h1]
def BoxOk (E : Env) (G : Heap) (w : World) : Box → Option Loc → Prop
 | .none, l => l = Option.none
 | .gone, _ => True
 | .var cs, some (.var blk) => ∃ (vs : List Value) (T : TypeId), w.heap[blk]? = some (.cells vs.toArray T (0, 0)) ∧ RelL E G cs vs ∧ Ones vs
 | .buf sz cs, some (.buf blk sz' cap) => sz' = sz ∧ ∃ (vs rest : List Value) (T : TypeId), w.heap[blk]? = some (.cells (vs ++ rest).toArray T (0, 0)) ∧
     RelL E G cs vs ∧ Ones vs ∧ (vs ++ rest).length = cap * sz
 | .buf _ cs, some .nil => cs = []
 | .frn Y i, some (.set own) => Y.I i own w G
 | .obj o, some (.var blk) => w.heap[blk]? = some o
 | _, _ => False
def Live (bx : Nat → Box) (E : Env) (b : Nat) : Prop := ∃ n l, (bx n).live = true ∧ E n = some l ∧ l.has b
structure HeapOk (bx : Nat → Box) (E : Env) (G : Heap) (w : World) : Prop where
 gw : ∀ b o v, G b o = some v → w.cell? ⟨b, o, none⟩ = some v
 box : ∀ n, BoxOk E G w (bx n) (E n)
 sep : ∀ n m l k b, (bx n).live = true → (bx m).live = true → E n = some l → E m = some k → l.has b → k.has b → n = m
 off : ∀ b, Live bx E b → b < w.heap.size ∧ ∀ o, G b o = none
structure Ext (bx : Nat → Box) (E : Env) (G : Heap) (w : World) (bx' : Nat → Box) (E' : Env) (G' : Heap) (w' : World) : Prop where
 os : w'.os = w.os
 tape : w'.tape = w.tape
 output : w'.output = w.output
 fz : ∀ a, a.block < w.heap.size → w'.frozen? a = w.frozen? a
 size : w.heap.size ≤ w'.heap.size
 env : EnvLe E E'
 heap : HeapLe G G'
 frame : ∀ b, b < w.heap.size → ¬ Live bx E b → w'.heap[b]? = w.heap[b]? ∧ G' b = G b
 newb : ∀ b, Live bx' E' b → w.heap.size ≤ b ∨ Live bx E b
theorem Ext.refl (bx : Nat → Box) (E : Env) (G : Heap) (w : World) : Ext bx E G w bx E G w :=
 ⟨rfl, rfl, rfl, fun _ _ => rfl, Nat.le_refl _, .refl _, .refl _, fun _ _ _ => ⟨rfl, rfl⟩, fun _ h => .inr h⟩
theorem Ext.trans {bx bx' bx'' : Nat → Box} {E E' E'' : Env} {G G' G'' : Heap} {w w' w'' : World}
   (h : Ext bx E G w bx' E' G' w') (h' : Ext bx' E' G' w' bx'' E'' G'' w'') : Ext bx E G w bx'' E'' G'' w'' where
 os := h'.os.trans h.os
 tape := h'.tape.trans h.tape
 output := h'.output.trans h.output
 fz := fun a ha => (h'.fz a (Nat.lt_of_lt_of_le ha h.size)).trans (h.fz a ha)
 size := Nat.le_trans h.size h'.size
 env := h.env.trans h'.env
 heap := h.heap.trans h'.heap
 frame := fun b hb hl => by
   have h1 := h.frame b hb hl
   have h2 := h'.frame b (Nat.lt_of_lt_of_le hb h.size) (fun hl' => by
     rcases h.newb b hl' with h3 | h3
     · omega
     · exact hl h3)
   exact ⟨h2.1.trans h1.1, h2.2.trans h1.2⟩
 newb := fun b hb => by
   rcases h'.newb b hb with h1 | h1
   · exact .inl (Nat.le_trans h.size h1)
   · exact h.newb b h1
structure ExtS (own : Nat → Prop) (G : Heap) (w : World) (bx' : Nat → Box) (E' : Env) (G' : Heap) (w' : World) : Prop where
 os : w'.os = w.os
 tape : w'.tape = w.tape
 output : w'.output = w.output
 fz : ∀ a, a.block < w.heap.size → w'.frozen? a = w.frozen? a
 size : w.heap.size ≤ w'.heap.size
 heap : HeapLe G G'
 frame : ∀ b, b < w.heap.size → ¬ own b → w'.heap[b]? = w.heap[b]? ∧ G' b = G b
 newb : ∀ b, Live bx' E' b → w.heap.size ≤ b ∨ own b
theorem ExtS.trans {own : Nat → Prop} {bx bx' : Nat → Box} {E E' : Env} {G0 G G' : Heap} {w0 w w' : World} (h : ExtS own G0 w0 bx E G w) (h' : Ext bx E G w bx' E' G' w') : ExtS own G0 w0 bx' E' G' w' where
 os := h'.os.trans h.os
 tape := h'.tape.trans h.tape
 output := h'.output.trans h.output
 fz := fun a ha => (h'.fz a (Nat.lt_of_lt_of_le ha h.size)).trans (h.fz a ha)
 size := Nat.le_trans h.size h'.size
 heap := h.heap.trans h'.heap
 frame := fun b hb hl => by
   have h1 := h.frame b hb hl
   have h2 := h'.frame b (Nat.lt_of_lt_of_le hb h.size) (fun hl' => by
     rcases h.newb b hl' with h3 | h3
     · omega
     · exact hl h3)
   exact ⟨h2.1.trans h1.1, h2.2.trans h1.2⟩
 newb := fun b hb => by
   rcases h'.newb b hb with h1 | h1
   · exact .inl (Nat.le_trans h.size h1)
   · exact h.newb b h1
theorem ExtS.less {own : Nat → Prop} {bx bx' : Nat → Box} {E E' : Env} {G0 G : Heap} {w0 w : World} (h : ExtS own G0 w0 bx E G w) (hl : ∀ b, Live bx' E' b → Live bx E b) : ExtS own G0 w0 bx' E' G w :=
 ⟨h.os, h.tape, h.output, h.fz, h.size, h.heap, h.frame, fun b hb => h.newb b (hl b hb)⟩
mutual
def Cl : AV → Bool
 | .fn _ cs | .agg cs | .tup cs | .sl _ _ cs | .iptr cs => ClL cs
 | .ptr .. | .msl .. | .mv _ => false
 | .iface _ x => Cl x
 | _ => true
def ClL : List AV → Bool
 | [] => true
 | c :: cs => Cl c && ClL cs
end
mutual
theorem Rel.closed {E E' : Env} {G : Heap} : ∀ (c : AV) (v : Value), Cl c = true → Rel E G c v → Rel E' G c v
 | .junk, v, _, h => by simp only [Rel]
 | .anyb, v, _, h => by simpa only [Rel] using h
 | .bool b, v, _, h => by simpa only [Rel] using h
 | .int k n, v, _, h => by simpa only [Rel] using h
 | .str s, v, _, h => by simpa only [Rel] using h
 | .nilf, v, _, h => by simpa only [Rel] using h
 | .nilp, v, _, h => by simpa only [Rel] using h
 | .niface, v, _, h => by simpa only [Rel] using h
 | .yv l, v, _, h => by simpa only [Rel] using h
 | .mv b, v, hc, h => by simp [Cl] at hc
 | .fn f cs, v, hc, h => by
   simp only [Cl] at hc
   simp only [Rel] at h ⊢
   obtain ⟨vs, hv, hr⟩ := h
   exact ⟨vs, hv, RelL.closed cs vs hc hr⟩
 | .agg cs, v, hc, h => by
   simp only [Cl] at hc
   simp only [Rel] at h ⊢
   obtain ⟨vs, hv, hr, ho⟩ := h
   exact ⟨vs, hv, RelL.closed cs vs hc hr, ho⟩
 | .tup cs, v, hc, h => by
   simp only [Cl] at hc
   simp only [Rel] at h ⊢
   obtain ⟨vs, hv, hr⟩ := h
   exact ⟨vs, hv, RelL.closed cs vs hc hr⟩
 | .sl full n cs, v, hc, h => by
   simp only [Cl] at hc
   simp only [Rel] at h ⊢
   rcases h with h | ⟨blk, off, cap, vs, h1, h2, h3, h4, h5, h6, h7⟩
   · exact .inl h
   · exact .inr ⟨blk, off, cap, vs, h1, h2, h3, h4, RelL.closed cs vs hc h5, h6, h7⟩
 | .iptr cs, v, hc, h => by
   simp only [Cl] at hc
   simp only [Rel] at h ⊢
   obtain ⟨blk, off, vs, h1, h5, h6, h7⟩ := h
   exact ⟨blk, off, vs, h1, RelL.closed cs vs hc h5, h6, h7⟩
 | .ptr b off, v, hc, h => by simp [Cl] at hc
 | .msl b off n, v, hc, h => by simp [Cl] at hc
 | .iface t x, v, hc, h => by
   simp only [Cl] at hc
   simp only [Rel] at h ⊢
   obtain ⟨y, h1, h2⟩ := h
   exact ⟨y, h1, Rel.closed x y hc h2⟩
theorem RelL.closed {E E' : Env} {G : Heap} : ∀ (cs : List AV) (vs : List Value), ClL cs = true → RelL E G cs vs → RelL E' G cs vs
 | [], vs, _, h => by simpa only [RelL] using h
 | c :: cs, vs, hc, h => by
   simp only [ClL, Bool.and_eq_true] at hc
   simp only [RelL] at h ⊢
   obtain ⟨v, vs', h1, h2, h3⟩ := h
   exact ⟨v, vs', h1, Rel.closed c v hc.1 h2, RelL.closed cs vs' hc.2 h3⟩
end
end Go.AI
end

namespace Go.AI
def Le (x y : AV) : Prop := ∀ (E : Env) (G : Heap) (v : Value), Rel E G x v → Rel E G y v
def LeL (xs ys : List AV) : Prop := ∀ (E : Env) (G : Heap) (vs : List Value), RelL E G xs vs → RelL E G ys vs
theorem Le.refl (x : AV) : Le x x := fun _ _ _ h => h
theorem LeL.refl (x : List AV) : LeL x x := fun _ _ _ h => h
theorem LeL.cons {x y : AV} {xs ys : List AV} (h : Le x y) (h' : LeL xs ys) : LeL (x :: xs) (y :: ys) := fun E G vs hr => by
 simp only [RelL] at hr
 obtain ⟨v, vs', rfl, h2, h3⟩ := hr
 exact RelL.cons (h E G v h2) (h' E G vs' h3)
theorem Le.junk (x : AV) : Le x .junk := fun E G v _ => by simp only [Rel]
theorem Le.agg {xs ys : List AV} (h : LeL xs ys) : Le (.agg xs) (.agg ys) := fun E G v hr => by
 simp only [Rel] at hr ⊢
 obtain ⟨vs, h1, h2, h3⟩ := hr
 exact ⟨vs, h1, h E G vs h2, h3⟩
theorem Le.tup {xs ys : List AV} (h : LeL xs ys) : Le (.tup xs) (.tup ys) := fun E G v hr => by
 simp only [Rel] at hr ⊢
 obtain ⟨vs, h1, h2⟩ := hr
 exact ⟨vs, h1, h E G vs h2⟩
theorem LeL.nil_eq {ys : List AV} (h : LeL [] ys) : ys = [] := by
 have := h (fun _ => none) (fun _ _ => none) [] RelL.nil
 exact List.eq_nil_of_length_eq_zero this.length.symm
theorem Le.sl {f f' : Bool} {n m : Nat} {xs ys : List AV} (hn : n = m) (hf : f' = true → f = true) (h : LeL xs ys) : Le (.sl f n xs) (.sl f' m ys) := fun E G v hr => by
 subst hn
 simp only [Rel] at hr ⊢
 rcases hr with ⟨a, cap, h1, h2, h3, h4⟩ | ⟨b, o, cap, vs, h1, h2, h3, h4, h5, h6, h7⟩
 · subst h4; exact .inl ⟨a, cap, h1, h2, fun e => h3 (hf e), h.nil_eq⟩
 · exact .inr ⟨b, o, cap, vs, h1, h2, h3, fun e => h4 (hf e), h E G vs h5, h6, h7⟩
end Go.AI

section
namespace Go.AI
inductive TD where
 | none | bool | int (k : IntKind) | string | struct (fs : List (Nat × TypeId)) | array (n : Nat) (e : TypeId) | slice (e : TypeId)
 | ptr (e : TypeId) | func | iface (empty : Bool) | other
 deriving DecidableEq
def tdOf : TypeDesc → TD
 | .bool => .bool
 | .int k => .int k
 | .string => .string
 | .struct fs => .struct (fs.toList.map fun f => (f.offset, f.type))
 | .array n e => .array n e
 | .slice e => .slice e
 | .pointer e => .ptr e
 | .func .. => .func
 | .interface ms => .iface ms.isEmpty
 | _ => .other
def td (P : Program) (t : TypeId) : TD := match P.underlying t with | some d => tdOf d | Option.none => .none
def TD.agg : TD → Bool | .struct _ | .array .. => true | _ => false
def sz (P : Program) (t : TypeId) : Nat := ((P.info? t).map (·.size)).getD 0
def zr (P : Program) (t : TypeId) : AV := match (P.info? t).bind (·.zero) with | some v => cv v | Option.none => .junk
def byt (P : Program) (t : TypeId) : Nat := ((P.info? t).map (·.bytes)).getD 0
def sub (P : Program) (t : TypeId) (cs : List AV) (off : Nat) : Option AV :=
 match td P t with
 | .none => Option.none
 | d => if d.agg then (if off + sz P t ≤ cs.length then some (.agg ((cs.drop off).take (sz P t))) else Option.none) else cs[off]?
section
variable {P : Program} {E : Env} {G : Heap} {w : World} {t : TypeId}
theorem addr_add (b o n : Nat) : (⟨b, o, none⟩ : Addr).add n = ⟨b, o + n, none⟩ := by
 unfold Addr.add; split <;> simp_all
theorem td_some (h : td P t ≠ .none) : ∃ i d, P.info? t = some i ∧ P.underlying t = some d ∧ tdOf d = td P t := by
 unfold td at h ⊢
 cases hu : P.underlying t with
 | none => simp [hu] at h
 | some d =>
   unfold Program.underlying at hu
   cases hi : P.info? t with
   | none => simp [hi] at hu
   | some i => exact ⟨i, d, rfl, rfl, rfl⟩
theorem run_underlying {d : TypeDesc} (h : P.underlying t = some d) : (underlying t).run P w = .ok d w := by simp [underlying, h]
theorem run_typeInfo {i : TypeInfo} (h : P.info? t = some i) : (typeInfo t).run P w = .ok i w := by simp [typeInfo, h]
theorem run_sizeOf (h : td P t ≠ .none) : (sizeOf t).run P w = .ok (sz P t) w := by
 obtain ⟨i, d, hi, _⟩ := td_some h
 simp [sizeOf, run_typeInfo hi, sz, hi]
theorem run_sizeOf' (h : sz P t ≠ 0) : (sizeOf t).run P w = .ok (sz P t) w := by
 unfold sz at h
 cases hi : P.info? t with
 | none => simp [hi] at h
 | some i => simp [sizeOf, run_typeInfo hi, sz, hi]
theorem run_isAgg (h : td P t ≠ .none) : (isAgg t).run P w = .ok (td P t).agg w := by
 obtain ⟨i, d, hi, hu, hd⟩ := td_some h
 rw [← hd]
 cases d <;> simp [isAgg, run_underlying hu, tdOf, TD.agg]
def Cells (w : World) (b o : Nat) (vs : List Value) : Prop := ∀ j v, vs[j]? = some v → w.cell? ⟨b, o + j, none⟩ = some v
theorem Cells.drop {b o : Nat} {vs : List Value} (h : Cells w b o vs) (n : Nat) : Cells w b (o + n) (vs.drop n) := fun j v hv => by
 rw [List.getElem?_drop] at hv
 have := h _ v hv
 rwa [← Nat.add_assoc] at this
theorem Cells.take {b o : Nat} {vs : List Value} (h : Cells w b o vs) (n : Nat) : Cells w b o (vs.take n) := fun j v hv => by
 rw [List.getElem?_take] at hv
 split at hv
 · exact h j v hv
 · cases hv
theorem run_loadAll {b o : Nat} {vs : List Value} (hc : Cells w b o vs) : (loadCells ⟨b, o, none⟩ vs.length).run P w = .ok vs.toArray w :=
 run_loadCells_list w _ vs fun j v hv => by rw [addr_add]; exact hc j v hv
theorem run_loadVar {b o off : Nat} {vs : List Value} {cs : List AV} {x : AV} (hc : Cells w b o vs) (hr : RelL E G cs vs) (ho : Ones vs)
   (h : sub P t cs off = some x) : ∃ v, (loadVar t ⟨b, o + off, none⟩).run P w = .ok v w ∧ Rel E G x v := by
 have hn : td P t ≠ .none := by intro h0; simp [sub, h0] at h
 have h' : (if (td P t).agg then (if off + sz P t ≤ cs.length then some (AV.agg ((cs.drop off).take (sz P t))) else Option.none) else cs[off]?) = some x := by
   revert h; unfold sub; split
   · intro h; cases h
   · exact id
 unfold loadVar
 rw [Sem.run_bind, run_isAgg hn]
 simp only [Result.andThen_ok]
 cases hg : (td P t).agg with
 | true =>
   simp only [hg, if_true] at h' ⊢
   split at h'
   · rename_i hle
     simp only [Option.some.injEq] at h'
     subst h'
     have hl := hr.length
     have hc' := (hc.drop off).take (sz P t)
     have hlen : ((vs.drop off).take (sz P t)).length = sz P t := by simp; omega
     have hrun := run_loadAll (P := P) hc'
     rw [hlen] at hrun
     refine ⟨.agg ((vs.drop off).take (sz P t)).toArray, by simp [run_sizeOf hn, hrun], ?_⟩
     simp only [Rel]
     exact ⟨_, rfl, (hr.drop off).take _, (ho.drop off).take _⟩
   · cases h'
 | false =>
   simp only [hg, Bool.false_eq_true, if_false] at h' ⊢
   obtain ⟨v, hv, hx⟩ := hr.get h'
   have := hc off v hv
   exact ⟨v, by simp [this], hx⟩
theorem run_part {off : Nat} {vs : List Value} {cs : List AV} {x : AV} (hr : RelL E G cs vs) (ho : Ones vs)
   (h : sub P t cs off = some x) : ∃ v, (part t vs.toArray off).run P w = .ok v w ∧ Rel E G x v := by
 have hn : td P t ≠ .none := by intro h0; simp [sub, h0] at h
 have h' : (if (td P t).agg then (if off + sz P t ≤ cs.length then some (AV.agg ((cs.drop off).take (sz P t))) else Option.none) else cs[off]?) = some x := by
   revert h; unfold sub; split
   · intro h; cases h
   · exact id
 unfold part
 rw [Sem.run_bind, run_isAgg hn]
 simp only [Result.andThen_ok]
 cases hg : (td P t).agg with
 | true =>
   simp only [hg, if_true] at h' ⊢
   split at h'
   · rename_i hle
     simp only [Option.some.injEq] at h'
     subst h'
     refine ⟨.agg ((vs.drop off).take (sz P t)).toArray, ?_, ?_⟩
     · simp [run_sizeOf hn, List.extract_eq_take_drop]
     · simp only [Rel]
       exact ⟨_, rfl, (hr.drop off).take _, (ho.drop off).take _⟩
   · cases h'
 | false =>
   simp only [hg, Bool.false_eq_true, if_false] at h' ⊢
   obtain ⟨v, hv, hx⟩ := hr.get h'
   exact ⟨v, by simp [hv], hx⟩
end
def ptrAdd : AV → Nat → Option AV
 | .iptr cs, off => some (.iptr (cs.drop off))
 | .ptr b o, off => some (.ptr b (o + off))
 | _, _ => none
theorem ptrAdd_rel {E : Env} {G : Heap} {x y : AV} {v : Value} {off : Nat} (hx : Rel E G x v) (h : ptrAdd x off = some y) :
   ∃ b o, v = .pointer (some ⟨b, o, none⟩) ∧ Rel E G y (.pointer (some ⟨b, o + off, none⟩)) := by
 cases x <;> simp only [ptrAdd, Option.some.injEq, reduceCtorEq] at h
 case iptr cs =>
   subst h
   simp only [Rel] at hx ⊢
   obtain ⟨b, o, vs, rfl, h1, h2, h3⟩ := hx
   exact ⟨b, o, rfl, b, o + off, _, rfl, h1.drop off, h2.drop off, h3.drop off⟩
 case ptr b o =>
   subst h
   simp only [Rel] at hx ⊢
   obtain ⟨l, blk, h1, h2, rfl⟩ := hx
   exact ⟨blk, o, rfl, l, blk, h1, h2, rfl⟩
def cmpA (op : BinOp) (x y : Int) : Option Bool :=
 match op with
 | .eql => some (x == y)
 | .neq => some (x != y)
 | .lss => some (decide (x < y))
 | .leq => some (decide (x ≤ y))
 | .gtr => some (decide (x > y))
 | .geq => some (decide (x ≥ y))
 | _ => none
def bAnd (k : IntKind) (x y : Int) : Int := k.wrap (BitVec.ofInt k.bits x &&& BitVec.ofInt k.bits y).toNat
def bOr (k : IntKind) (x y : Int) : Int := k.wrap (BitVec.ofInt k.bits x ||| BitVec.ofInt k.bits y).toNat
def bXor (k : IntKind) (x y : Int) : Int := k.wrap (BitVec.ofInt k.bits x ^^^ BitVec.ofInt k.bits y).toNat
def bNot (k : IntKind) (x y : Int) : Int := k.wrap (BitVec.ofInt k.bits x &&& ~~~(BitVec.ofInt k.bits y)).toNat
def bShl (k : IntKind) (x y : Int) : Int := k.wrap (x * 2 ^ (min y.toNat k.bits))
def bShr (k : IntKind) (x y : Int) : Int := x.fdiv (2 ^ (min y.toNat k.bits))
def arithA (op : BinOp) (k : IntKind) (x y : Int) : Option AV :=
 match op with
 | .add => some (.int k (k.wrap (x + y)))
 | .sub => some (.int k (k.wrap (x - y)))
 | .mul => some (.int k (k.wrap (x * y)))
 | .quo => if y = 0 then none else some (.int k (k.wrap (x.tdiv y)))
 | .rem => if y = 0 then none else some (.int k (x.tmod y))
 | .and => some (.int k (bAnd k x y))
 | .or => some (.int k (bOr k x y))
 | .xor => some (.int k (bXor k x y))
 | .andNot => some (.int k (bNot k x y))
 | op => (cmpA op x y).map .bool
def shiftA (op : BinOp) (k : IntKind) (x y : Int) : Option AV :=
 if y < 0 then none else
 match op with
 | .shl => some (.int k (bShl k x y))
 | .shr => some (.int k (bShr k x y))
 | _ => none
end Go.AI
end

section
namespace Go.AI
def isNilSl : Operand → Bool | .const (.slice none 0 0) => true | _ => false
def eqA (neg : Bool) (b : Bool) : AV := .bool (if neg then !b else b)
def eqOf (op : BinOp) : Option Bool := match op with | .eql => some false | .neq => some true | _ => none
def sameA (P : Program) (neg : Bool) (t : TypeId) (yo : Operand) (x y : AV) : Option AV :=
 match td P t with
 | .bool => match x, y with
   | .bool a, .bool b => some (eqA neg (a == b))
   | _, _ => none
 | .slice _ => if isNilSl yo then (match x with
   | .sl _ n _ => if n = 0 then some .anyb else some (eqA neg false)
   | _ => none) else none
 | .func => match x, y with
   | .fn .., .nilf => some (eqA neg false)
   | .nilf, .nilf => some (eqA neg true)
   | _, _ => none
 | .ptr _ => match x, y with
   | .iptr _, .nilp => some (eqA neg false)
   | .ptr .., .nilp => some (eqA neg false)
   | .nilp, .nilp => some (eqA neg true)
   | _, _ => none
 | .iface _ => match x, y with
   | .iface .., .niface => some (eqA neg false)
   | _, _ => none
 | .string => match x, y with
   | .str a, .str b => some (eqA neg (a.toList == b.toList))
   | _, _ => none
 | _ => none
def binA (P : Program) (op : BinOp) (t : TypeId) (yo : Operand) (x y : AV) : Option AV :=
 match x, y with
 | .int k a, .int k' b => match op with
   | .shl => shiftA .shl k a b
   | .shr => shiftA .shr k a b
   | op => if k = k' then arithA op k a b else none
 | x, y => match eqOf op with
   | some neg => sameA P neg t yo x y
   | none => none
def unA (op : UnOp) (x : AV) : Option AV :=
 match op, x with
 | .not, .bool b => some (.bool (!b))
 | .not, .anyb => some .anyb
 | .neg, .int k n => some (.int k (k.wrap (0 - n)))
 | .xor, .int k n => arithA .xor k (if k.signed then -1 else k.max) n
 | _, _ => none
def pickA (b : Bool) (x y : AV) : AV :=
 match x, y with
 | .bool p, .bool q => .bool (if b then p else q)
 | x, y => if b then x else y
def intA : AV → Option Int | .int _ n => some n | _ => none
def boundsA (len cap : Nat) (lo hi mx : Option AV) : Option (Nat × Nat × Option Nat) :=
 match (match mx with | some m => (intA m).bind fun m => if 0 ≤ m ∧ m ≤ cap then some (some m.toNat) else none | none => some none : Option (Option Nat)) with
 | none => none
 | some m =>
   match (match hi with | some h => (intA h).bind fun h => if 0 ≤ h ∧ h ≤ (m.getD cap : Nat) then some h.toNat else none | none => if m.isSome then none else some len : Option Nat) with
   | none => none
   | some h =>
     match (match lo with | some l => (intA l).bind fun l => if 0 ≤ l ∧ l ≤ h then some l.toNat else none | none => some 0 : Option Nat) with
     | none => none
     | some l => some (l, h, m)
def fullA (full : Bool) (n h : Nat) : Option Nat → Bool
 | some m => decide (m = h)
 | none => full && decide (h = n)
def slA (P : Program) (t : TypeId) (x : AV) (lo hi mx : Option AV) : Option AV :=
 match td P t, x with
 | .slice e, .sl full n cs =>
   if td P e = .none then none else
   (boundsA n n lo hi mx).map fun (l, h, m) =>
     .sl (fullA full n h m) (h - l) ((cs.drop (l * sz P e)).take ((h - l) * sz P e))
 | .array n e, .iptr cs =>
   if td P e = .none then none else
   if 9223372036854775807 < n then none else
   (boundsA n n lo hi mx).map fun (l, h, m) =>
     .sl (fullA true n h m) (h - l) ((cs.drop (l * sz P e)).take ((h - l) * sz P e))
 | _, _ => none
def lenA (P : Program) (t : TypeId) (x : AV) : Option AV :=
 match td P t, x with
 | .slice _, .sl _ n _ => some (.int .i64 n)
 | .slice _, .msl _ _ n => some (.int .i64 n)
 | .array n _, _ => some (.int .i64 n)
 | .string, .str s => some (.int .i64 s.size)
 | _, _ => none
def capA (P : Program) (t : TypeId) (x : AV) : Option AV :=
 match td P t, x with
 | .slice _, .sl true n _ => some (.int .i64 n)
 | .array n _, _ => some (.int .i64 n)
 | _, _ => none
def idxA (P : Program) (t : TypeId) (x i : AV) : Option AV :=
 match td P t, i with
 | .array n e, .int _ j => if td P e = .none then none else if 0 ≤ j ∧ j < (n : Int) then ptrAdd x (j.toNat * sz P e) else none
 | .slice e, .int _ j => if td P e = .none then none else
   match x with
   | .sl _ n cs => if 0 ≤ j ∧ j < (n : Int) then some (.iptr (cs.drop (j.toNat * sz P e))) else none
   | .msl b off n => if 0 ≤ j ∧ j < (n : Int) then some (.ptr b (off + j.toNat * sz P e)) else none
   | _ => none
 | _, _ => none
def comp (P : Program) (ρ : Operand → AV) : Op → Option AV
 | .move x => some (ρ x)
 | .assign x => some (ρ x)
 | .pick c a b => match ρ c with | .bool p => some (pickA p (ρ a) (ρ b)) | _ => none
 | .load t a => match ρ a with | .iptr cs => sub P t cs 0 | _ => none
 | .binOp op t x y _ => binA P op t y (ρ x) (ρ y)
 | .unOp op _ x => unA op (ρ x)
 | .convert s d x => match td P s, td P d, ρ x with | .int _, .int k, .int _ n => some (.int k (k.wrap n)) | _, _, _ => none
 | .fieldAddr s x f => match td P s with
   | .struct fs => match fs[f]? with
     | some (off, ft) => if sz P ft = 0 then none else ptrAdd (ρ x) off
     | none => none
   | _ => none
 | .field s x f => match td P s, ρ x with
   | .struct fs, .agg cs => match fs[f]? with
     | some (off, ft) => sub P ft cs off
     | none => none
   | _, _ => none
 | .indexAddr t x i => idxA P t (ρ x) (ρ i)
 | .index t x i => match td P t, ρ x, ρ i with
   | .array n e, .agg cs, .int _ j => if td P e = .none then none else if 0 ≤ j ∧ j < (n : Int) then sub P e cs (j.toNat * sz P e) else none
   | _, _, _ => none
 | .extract x i => match ρ x with | .tup vs => vs[i]? | _ => none
 | .makeFunc (.func f) first caps => if first.toList = [] then some (.fn f (caps.toList.map ρ)) else none
 | .nilCheck x => match ρ x with
   | .iptr cs => some (.iptr cs)
   | .ptr b o => some (.ptr b o)
   | .fn f cs => some (.fn f cs)
   | _ => none
 | .slice t x lo hi mx => slA P t (ρ x) (lo.map ρ) (hi.map ρ) (mx.map ρ)
 | .call c => match c.callee with
   | .builtin .len => match c.argTypes.toList, c.args.toList with
     | t :: _, [x] => lenA P t (ρ x)
     | _, _ => none
   | .builtin .cap => match c.argTypes.toList, c.args.toList with
     | t :: _, [x] => capA P t (ρ x)
     | _, _ => none
   | .builtin .min => match c.args.toList.map ρ with
     | [.int k x, .int k' y] => if k = k' then some (.int k (if y < x then y else x)) else none
     | _ => none
   | .builtin .max => match c.args.toList.map ρ with
     | [.int k x, .int k' y] => if k = k' then some (.int k (if y > x then y else x)) else none
     | _ => none
   | _ => none
 | _ => none
section
variable {P : Program} {E : Env} {G : Heap} {w : World}
def Val (P : Program) (E : Env) (G : Heap) (w : World) (s : Sem Next) (x : AV) : Prop := ∃ v, s.run P w = .ok (.value v) w ∧ Rel E G x v
def ValV (P : Program) (E : Env) (G : Heap) (w : World) (s : Sem Value) (x : AV) : Prop := ∃ v, s.run P w = .ok v w ∧ Rel E G x v
theorem ValV.val {s : Sem Value} {x : AV} (h : ValV P E G w s x) : Val P E G w (do pure (.value (← s))) x := by
 obtain ⟨v, h1, h2⟩ := h
 exact ⟨v, by simp [h1], h2⟩
theorem arith_sound {op : BinOp} {t : TypeId} {k : IntKind} {a b : Int} {x : AV} (h1 : op ≠ .shl) (h2 : op ≠ .shr) (h : arithA op k a b = some x) :
   ValV P E G w (binOp op t (.int k a) (.int k b)) x := by
 cases op
 case shl => exact absurd rfl h1
 case shr => exact absurd rfl h2
 all_goals simp only [arithA, cmpA, Option.map_some, Option.some.injEq] at h
 all_goals first
   | (subst h; simp [ValV, binOp, Op.intArith, Op.intBits, Op.intCmp, Rel, bAnd, bOr, bXor, bNot]; done)
   | (split at h <;> simp only [Option.some.injEq, reduceCtorEq] at h; subst h; simp [ValV, binOp, Op.intDiv, Rel, *]; done)
theorem shift_sound {op : BinOp} {t : TypeId} {k k' : IntKind} {a b : Int} {x : AV} (h0 : op = .shl ∨ op = .shr) (h : shiftA op k a b = some x) :
   ValV P E G w (binOp op t (.int k a) (.int k' b)) x := by
 unfold shiftA at h
 split at h
 · cases h
 · rename_i hb
   rcases h0 with rfl | rfl <;> simp only [Option.some.injEq] at h <;> subst h <;>
     exact ⟨_, by simp [binOp, Op.shift, hb]; rfl, by simp [Rel, bShl, bShr]⟩
theorem run_equal {t : TypeId} {x y : Value} {r : Result Bool} (h : ∀ n, (Op.equalIn (n + 1) t x y).run P w = r) : (Op.equal t x y).run P w = r := by
 obtain ⟨n, hn⟩ : ∃ n, Op.maxDepth = n + 1 := ⟨9999, rfl⟩
 unfold Op.equal
 rw [hn]
 exact h n
theorem eq_sound {op : BinOp} {neg : Bool} {t : TypeId} {xo yo : Operand} {x y : Value} {b : Bool} {r : AV}
   (hop : (neg = false ∧ op = .eql) ∨ (neg = true ∧ op = .neq)) (hg : (eqGuard op t xo yo x y).run P w = .ok () w)
   (h1 : binOp .eql t x y = (do pure (.bool (← Op.equal t x y)))) (h2 : binOp .neq t x y = (do pure (.bool (!(← Op.equal t x y)))))
   (h : ∀ n, (Op.equalIn (n + 1) t x y).run P w = .ok b w) (hr : Rel E G r (.bool (if neg then !b else b))) :
   ValV P E G w (do eqGuard op t xo yo x y; binOp op t x y) r := by
 have he := run_equal h
 rcases hop with ⟨rfl, rfl⟩ | ⟨rfl, rfl⟩
 · exact ⟨_, by rw [Sem.run_bind, hg, Result.andThen_ok, h1]; simp only [Sem.run_bind, he, Result.andThen_ok, Sem.run_pure]; rfl, hr⟩
 · exact ⟨_, by rw [Sem.run_bind, hg, Result.andThen_ok, h2]; simp only [Sem.run_bind, he, Result.andThen_ok, Sem.run_pure]; rfl, hr⟩
theorem nilSl_spec {o : Operand} (h : isNilSl o = true) : o = .const (.slice none 0 0) := by
 unfold isNilSl at h
 split at h
 · rfl
 · cases h
theorem same_sound {neg : Bool} {op : BinOp} {t : TypeId} {a : Act} {yo : Operand} {xa ya x : AV} {v u : Value} (ho : eqOf op = some neg)
   (hx : Rel E G xa v) (hy : Rel E G ya u) (hu : u = a.eval yo) (h : sameA P neg t yo xa ya = some x) (xo : Operand) :
   ValV P E G w (do eqGuard op t xo yo v u; binOp op t v u) x := by
 have hop : (neg = false ∧ op = .eql) ∨ (neg = true ∧ op = .neq) := by
   cases op <;> simp only [eqOf, Option.some.injEq, reduceCtorEq] at ho <;> subst ho <;> simp
 have htd : td P t ≠ .none := by intro h0; simp [sameA, h0] at h
 obtain ⟨i, d, hi, hd, hdt⟩ := td_some htd
 unfold sameA at h
 rw [← hdt] at h
 cases d <;> simp only [tdOf, reduceCtorEq] at h
 case bool =>
   split at h <;> simp only [Option.some.injEq, reduceCtorEq] at h
   simp only [Rel] at hx hy; subst hx hy; subst h
   refine eq_sound hop (by simp [eqGuard]) rfl rfl (fun n => by simp only [Op.equalIn, Sem.run_bind, run_underlying hd, Result.andThen_ok]; rfl) (by simp [eqA, Rel])
 case string =>
   split at h <;> simp only [Option.some.injEq, reduceCtorEq] at h
   simp only [Rel] at hx hy; subst hx hy; subst h
   rcases hop with ⟨rfl, rfl⟩ | ⟨rfl, rfl⟩ <;>
     exact ⟨_, by simp [eqGuard, binOp, Op.stringOp]; rfl, by simp [Rel, eqA, bne]⟩
 case slice e =>
   split at h
   · rename_i hn
     have hyo := nilSl_spec hn
     rw [hyo] at hu
     simp only [Act.eval] at hu
     subst hu
     split at h
     case h_2 => cases h
     simp only [Rel] at hx
     rcases hx with ⟨ad, cap, rfl, h0, h1, h2⟩ | ⟨blk, off, cap, vs, rfl, h1, h2, h3, h4, h5, h6⟩
     · subst h0
       simp only [if_true, Option.some.injEq] at h; subst h
       cases ad with
       | none => refine eq_sound (b := true) hop (by simp [eqGuard]) rfl rfl (fun n => by simp only [Op.equalIn, Sem.run_bind, run_underlying hd, Result.andThen_ok]; rfl) (by simp [Rel])
       | some ad => refine eq_sound (b := false) hop (by simp [eqGuard]) rfl rfl (fun n => by simp only [Op.equalIn, Sem.run_bind, run_underlying hd, Result.andThen_ok]; rfl) (by simp [Rel])
     · refine eq_sound (b := false) hop (by simp [eqGuard]) rfl rfl (fun n => by simp only [Op.equalIn, Sem.run_bind, run_underlying hd, Result.andThen_ok]; rfl) ?_
       split at h <;> simp only [Option.some.injEq] at h <;> subst h <;> simp [Rel, eqA]
   · cases h
 case func =>
   split at h <;> simp only [Option.some.injEq, reduceCtorEq] at h
   · simp only [Rel] at hx hy
     obtain ⟨vs, rfl, _⟩ := hx
     subst hy; subst h
     refine eq_sound (b := false) hop (by simp [eqGuard]) rfl rfl (fun n => by simp only [Op.equalIn, Sem.run_bind, run_underlying hd, Result.andThen_ok]; rfl) (by simp [Rel, eqA])
   · simp only [Rel] at hx hy
     subst hx hy; subst h
     refine eq_sound (b := true) hop (by simp [eqGuard]) rfl rfl (fun n => by simp only [Op.equalIn, Sem.run_bind, run_underlying hd, Result.andThen_ok]; rfl) (by simp [Rel, eqA])
 case pointer e =>
   split at h <;> simp only [Option.some.injEq, reduceCtorEq] at h
   all_goals simp only [Rel] at hx hy
   · obtain ⟨b, o, vs, rfl, _⟩ := hx
     subst hy; subst h
     refine eq_sound (b := false) hop (by simp [eqGuard]) rfl rfl (fun n => by simp only [Op.equalIn, Sem.run_bind, run_underlying hd, Result.andThen_ok]; rfl) (by simp [Rel, eqA])
   · obtain ⟨l, b, _, _, rfl⟩ := hx
     subst hy; subst h
     refine eq_sound (b := false) hop (by simp [eqGuard]) rfl rfl (fun n => by simp only [Op.equalIn, Sem.run_bind, run_underlying hd, Result.andThen_ok]; rfl) (by simp [Rel, eqA])
   · subst hx hy; subst h
     refine eq_sound (b := true) hop (by simp [eqGuard]) rfl rfl (fun n => by simp only [Op.equalIn, Sem.run_bind, run_underlying hd, Result.andThen_ok]; rfl) (by simp [Rel, eqA])
 case interface ms =>
   split at h <;> simp only [Option.some.injEq, reduceCtorEq] at h
   simp only [Rel] at hx hy
   obtain ⟨y, rfl, _⟩ := hx
   subst hy; subst h
   refine eq_sound (b := false) hop (by simp [eqGuard]) rfl rfl (fun n => by simp only [Op.equalIn, Sem.run_bind, run_underlying hd, Result.andThen_ok]; rfl) (by simp [Rel, eqA])
theorem bin_sound {op : BinOp} {t : TypeId} {a : Act} {xo yo : Operand} {xa ya x : AV} {v u : Value}
   (hx : Rel E G xa v) (hy : Rel E G ya u) (hu : u = a.eval yo) (h : binA P op t yo xa ya = some x) :
   ValV P E G w (do eqGuard op t xo yo v u; binOp op t v u) x := by
 unfold binA at h
 split at h
 · simp only [Rel] at hx hy
   rename_i k m k' m'
   have hg : ∀ op, (eqGuard op t xo yo v u).run P w = .ok () w := fun op => by subst hx hy; simp [eqGuard]
   have key : ValV P E G w (binOp op t v u) x := by
     rw [hx, hy]
     split at h
     · exact shift_sound (.inl rfl) h
     · exact shift_sound (.inr rfl) h
     · rename_i h1 h2
       split at h
       · rename_i hk; subst hk
         exact arith_sound (fun e => h1 e) (fun e => h2 e) h
       · cases h
   obtain ⟨r, h1, h2⟩ := key
   exact ⟨r, by rw [Sem.run_bind, hg]; exact h1, h2⟩
 · split at h
   · rename_i neg hneg
     exact same_sound hneg hx hy hu h xo
   · cases h
theorem un_sound {op : UnOp} {xa x : AV} {v : Value} (hx : Rel E G xa v) (h : unA op xa = some x) : ValV P E G w (Op.unary op v) x := by
 unfold unA at h
 split at h
 · simp only [Option.some.injEq] at h; subst h
   simp only [Rel] at hx; subst hx
   exact ⟨_, by simp [Op.unary]; rfl, by simp [Rel]⟩
 · simp only [Option.some.injEq] at h; subst h
   simp only [Rel] at hx; obtain ⟨b, rfl⟩ := hx
   exact ⟨_, by simp [Op.unary]; rfl, by simp [Rel]⟩
 · simp only [Option.some.injEq] at h; subst h
   simp only [Rel] at hx; subst hx
   exact ⟨_, by simp [Op.unary, Op.intArith]; rfl, by simp [Rel]⟩
 · simp only [Rel] at hx; subst hx
   simp only [arithA, Option.some.injEq] at h; subst h
   exact ⟨_, by simp [Op.unary, Op.intBits]; rfl, by simp [Rel, bXor]⟩
 · cases h
theorem pick_rel {p : Bool} {xa ya : AV} {v u : Value} (hx : Rel E G xa v) (hy : Rel E G ya u) : Rel E G (pickA p xa ya) (if p then v else u) := by
 unfold pickA
 split
 · simp only [Rel] at hx hy ⊢; subst hx hy; cases p <;> rfl
 · cases p <;> simpa using by assumption
theorem intA_rel {xa : AV} {v : Value} {n : Int} (h : Rel E G xa v) (hi : intA xa = some n) : ∃ k, v = .int k n := by
 unfold intA at hi
 split at hi
 · simp only [Option.some.injEq] at hi; subst hi
   simp only [Rel] at h; exact ⟨_, h⟩
 · cases hi
theorem bound_sound {xa : AV} {v : Value} {y : Nat} {code : BoundsCode} {r : Nat} (h : Rel E G xa v)
   (hb : ((intA xa).bind fun m => if 0 ≤ m ∧ m ≤ (y : Int) then some m.toNat else none) = some r) :
   (Instr.sliceBound v y code).run P w = .ok r w ∧ r ≤ y := by
 cases hi : intA xa with
 | none => simp [hi] at hb
 | some m =>
   simp only [hi, Option.bind_some] at hb
   split at hb
   · rename_i hc
     simp only [Option.some.injEq] at hb; subst hb
     obtain ⟨k, rfl⟩ := intA_rel h hi
     exact ⟨by simp [Instr.sliceBound, asIntOf, hc], by omega⟩
   · cases hb
end
end Go.AI
end

section
namespace Go.AI
section
variable {P : Program} {E : Env} {G : Heap} {w : World} {ρ : Operand → AV} {ev : Operand → Value}
theorem bound_any {xa : AV} {v : Value} {y y' : Nat} {code : BoundsCode} {r : Nat} (hyy : y ≤ y') (h : Rel E G xa v)
   (hb : ((intA xa).bind fun m => if 0 ≤ m ∧ m ≤ (y : Int) then some m.toNat else none) = some r) :
   (Instr.sliceBound v y' code).run P w = .ok r w ∧ r ≤ y := by
 refine ⟨(bound_sound (y := y') (code := code) h ?_).1, (bound_sound (y := y) (code := code) (P := P) (w := w) h hb).2⟩
 cases hi : intA xa with
 | none => simp [hi] at hb
 | some m =>
   simp only [hi, Option.bind_some] at hb ⊢
   split at hb
   · rename_i hc
     rw [if_pos ⟨hc.1, by omega⟩]; exact hb
   · cases hb
theorem bounds_sound (hρ : ∀ x, Rel E G (ρ x) (ev x)) {isSlice : Bool} {len cap c : Nat} (hc : cap ≤ c) (hl : len ≤ cap) {lo hi mx : Option Operand} {l h : Nat} {m : Option Nat}
   (hb : boundsA len cap (lo.map ρ) (hi.map ρ) (mx.map ρ) = some (l, h, m)) :
   (Instr.sliceBounds isSlice len c (lo.map ev) (hi.map ev) (mx.map ev)).run P w = .ok (l, h, m.getD c) w ∧ l ≤ h ∧ h ≤ m.getD cap ∧ (∀ m0, m = some m0 → m0 ≤ cap) := by
 unfold boundsA at hb
 split at hb
 · cases hb
 rename_i m' hm
 split at hb
 · cases hb
 rename_i h' hh
 split at hb
 · cases hb
 rename_i l' hlo
 simp only [Option.some.injEq, Prod.mk.injEq] at hb
 obtain ⟨rfl, rfl, rfl⟩ := hb
 have e1 : ∃ code, ((match mx.map ev with
     | some v => Instr.sliceBound v c (if isSlice then .slice3Acap else .slice3Alen)
     | none => pure c : Sem Nat).run P w = .ok (m'.getD c) w) ∧ m'.getD cap ≤ m'.getD c ∧ (∀ m0, m' = some m0 → m0 ≤ cap) ∧ (m' = none ↔ mx = none) ∧ code = () := by
   refine ⟨(), ?_⟩
   cases mx with
   | none => simp only [Option.map_none, Option.some.injEq] at hm; subst hm; simp [hc]
   | some mo =>
     simp only [Option.map_some] at hm ⊢
     cases hi' : intA (ρ mo) with
     | none => simp [hi'] at hm
     | some i =>
       simp only [hi', Option.bind_some] at hm
       split at hm
       · rename_i hcc
         simp only [Option.some.injEq] at hm; subst hm
         have := bound_any (P := P) (w := w) (code := if isSlice then BoundsCode.slice3Acap else .slice3Alen) (y := cap) (y' := c) (r := i.toNat) hc (hρ mo) (by simp [hi', hcc])
         exact ⟨by simpa using this.1, by simp, fun m0 h0 => by simp at h0; omega, by simp⟩
       · cases hm
 obtain ⟨_, e1, hmc, hm0, hmn, _⟩ := e1
 have e2 : ((match hi.map ev, mx.map ev with
     | some v, some _ => Instr.sliceBound v (m'.getD c) .slice3B
     | some v, none => Instr.sliceBound v (m'.getD c) (if isSlice then .sliceAcap else .sliceAlen)
     | none, none => pure len
     | none, some _ => stuck "Slice: max without high" : Sem Nat).run P w = .ok h' w) ∧ h' ≤ m'.getD cap := by
   cases hi with
   | none =>
     simp only [Option.map_none] at hh ⊢
     split at hh
     · cases hh
     · rename_i hms
       simp only [Option.some.injEq] at hh; subst hh
       have hm1 : m' = none := by cases m' <;> simp_all
       have hm2 := hmn.1 hm1
       subst hm1 hm2
       simp [hl]
   | some ho =>
     simp only [Option.map_some] at hh ⊢
     cases mx with
     | none =>
       have := bound_any (P := P) (w := w) (code := if isSlice then BoundsCode.sliceAcap else .sliceAlen) hmc (hρ ho) hh
       simpa using this
     | some mo =>
       have := bound_any (P := P) (w := w) (code := .slice3B) hmc (hρ ho) hh
       simpa using this
 obtain ⟨e2, hhm⟩ := e2
 have e3 : ((match lo.map ev with
     | some v => Instr.sliceBound v h' (if (mx.map ev).isSome then .slice3C else .sliceB)
     | none => pure 0 : Sem Nat).run P w = .ok l' w) ∧ l' ≤ h' := by
   cases lo with
   | none => simp only [Option.map_none, Option.some.injEq] at hlo ⊢; subst hlo; simp
   | some lo =>
     simp only [Option.map_some] at hlo ⊢
     exact bound_any (P := P) (w := w) (Nat.le_refl _) (hρ lo) hlo
 obtain ⟨e3, hlh⟩ := e3
 refine ⟨?_, hlh, hhm, hm0⟩
 unfold Instr.sliceBounds
 cases mx with
 | none =>
   have hm1 := hmn.2 rfl
   subst hm1
   cases hi with
   | none =>
     simp only [Option.map_none, Sem.run_pure, Result.ok.injEq, and_true] at e2
     subst e2
     cases lo with
     | none =>
       simp only [Option.map_none, Sem.run_pure, Result.ok.injEq, and_true] at e3
       subst e3
       simp
     | some lo =>
       simp only [Option.map_some, Option.map_none, Option.isSome_none, Bool.false_eq_true, if_false] at e3
       simp [e3]
   | some hi =>
     simp only [Option.map_none, Option.map_some] at e2
     cases lo with
     | none =>
       simp only [Option.map_none, Sem.run_pure, Result.ok.injEq, and_true] at e3
       subst e3
       simp [e2] at e2 ⊢
     | some lo =>
       simp only [Option.map_some, Option.map_none, Option.isSome_none, Bool.false_eq_true, if_false] at e3
       simp [e2, e3] at e2 ⊢
 | some mo =>
   simp only [Option.map_some] at e1
   cases hi with
   | none => simp at e2
   | some hi =>
     simp only [Option.map_some] at e2
     cases lo with
     | none =>
       simp only [Option.map_none, Sem.run_pure, Result.ok.injEq, and_true] at e3
       subst e3
       simp only [Option.map_some, Option.map_none, Sem.run_bind, e1, e2, Result.andThen_ok, Sem.run_pure]
     | some lo =>
       simp only [Option.map_some, Option.isSome_some, if_true] at e3
       simp only [Option.map_some, Option.isSome_some, if_true, Sem.run_bind, e1, e2, e3, Result.andThen_ok, Sem.run_pure]
theorem sl_sound (hρ : ∀ x, Rel E G (ρ x) (ev x)) {t : TypeId} {xo : Operand} {lo hi mx : Option Operand} {x : AV}
   (h : slA P t (ρ xo) (lo.map ρ) (hi.map ρ) (mx.map ρ) = some x) :
   ValV P E G w (Instr.sliceAt t (ev xo) (lo.map ev) (hi.map ev) (mx.map ev)) x := by
 have htd : td P t ≠ .none := by intro h0; simp [slA, h0] at h
 obtain ⟨i, d, hi', hd, hdt⟩ := td_some htd
 have hx := hρ xo
 unfold slA at h
 rw [← hdt] at h
 unfold Instr.sliceAt
 split at h
 · rename_i e full n cs hde hdx
   cases d <;> simp only [tdOf, reduceCtorEq, TD.slice.injEq] at hde
   subst hde
   rename_i e
   split at h
   · cases h
   rename_i hne
   rw [hdx] at hx
   simp only [Rel] at hx
   cases hbd : boundsA n n (lo.map ρ) (hi.map ρ) (mx.map ρ) with
   | none => simp [hbd] at h
   | some lhm =>
     obtain ⟨l, hh, m⟩ := lhm
     simp only [hbd, Option.map_some, Option.some.injEq] at h
     subst h
     rcases hx with ⟨ad, cap, hev, h0, h1, h2⟩ | ⟨blk, off, cap, vs, hev, h1, h2, h3, h4, h5, h6⟩
     · subst h0 h2
       obtain ⟨hr, b1, b2, b3⟩ := bounds_sound (P := P) (w := w) (isSlice := true) hρ (Nat.zero_le cap) (Nat.le_refl 0) hbd
       have hl0 : hh = 0 := by
         cases m with
         | none => simpa using b2
         | some m0 => have := b3 m0 rfl; simp at b2; omega
       have hl1 : l = 0 := by omega
       subst hl0 hl1
       refine ⟨.slice (if m.getD cap = 0 then ad else ad.map (·.add (0 * sz P e))) (0 - 0) (m.getD cap - 0), ?_, ?_⟩
       · simp [run_underlying hd, hev, Instr.slice, hr, run_sizeOf hne]
       · simp only [Rel]
         refine .inl ⟨_, _, rfl, trivial, fun hf => ?_, by simp⟩
         cases m with
         | none => simp [fullA] at hf; simpa using h1 hf
         | some m0 => have := b3 m0 rfl; simp; omega
     · obtain ⟨hr, b1, b2, b3⟩ := bounds_sound (P := P) (w := w) (isSlice := true) hρ h1 (Nat.le_refl n) hbd
       have hhn : hh ≤ n := by
         cases m with
         | none => simpa using b2
         | some m0 => have := b3 m0 rfl; simp at b2; omega
       refine ⟨.slice (if m.getD cap = l then some ⟨blk, off, none⟩ else (some ⟨blk, off, none⟩ : Option Addr).map (·.add (l * sz P e))) (hh - l) (m.getD cap - l), ?_, ?_⟩
       · simp [run_underlying hd, hev, Instr.slice, hr, run_sizeOf hne]
       · have hmh : hh ≤ m.getD cap := by
           cases m with
           | none => simp at b2 ⊢; omega
           | some m0 => simpa using b2
         have hfull : fullA full n hh m = true → m.getD cap - l = hh - l := by
           cases m with
           | none => simp [fullA]; intro hf hn; rw [h3 hf, hn]
           | some m0 => simp [fullA]; intro hf; rw [hf]
         by_cases hml : m.getD cap = l
         · have hhl : hh - l = 0 := by omega
           simp only [hml, if_true, Rel, hhl]
           refine .inr ⟨blk, off, _, [], rfl, by omega, by omega, fun hf => by omega, ?_, ?_, ?_⟩
           · simp [RelL.nil]
           · intro j v hj; simp at hj
           · intro v hv; simp at hv
         · simp only [hml, if_false, Option.map_some, addr_add, Rel]
           refine .inr ⟨blk, off + l * sz P e, _, (vs.drop (l * sz P e)).take ((hh - l) * sz P e), rfl, by omega, by omega, hfull, (h4.drop _).take _, (h5.drop _).take _, (h6.drop _).take _⟩
 · rename_i n e cs hde hdx
   cases d <;> simp only [tdOf, reduceCtorEq, TD.array.injEq] at hde
   obtain ⟨rfl, rfl⟩ := hde
   rename_i n e
   split at h
   · cases h
   rename_i hne
   split at h
   · cases h
   rename_i hbig
   rw [hdx] at hx
   simp only [Rel] at hx
   obtain ⟨blk, off, vs, hev, h4, h5, h6⟩ := hx
   cases hbd : boundsA n n (lo.map ρ) (hi.map ρ) (mx.map ρ) with
   | none => simp [hbd] at h
   | some lhm =>
     obtain ⟨l, hh, m⟩ := lhm
     simp only [hbd, Option.map_some, Option.some.injEq] at h
     subst h
     obtain ⟨hr, b1, b2, b3⟩ := bounds_sound (P := P) (w := w) (isSlice := false) hρ (Nat.le_refl n) (Nat.le_refl n) hbd
     have hhn : hh ≤ n := by
       cases m with
       | none => simpa using b2
       | some m0 => have := b3 m0 rfl; simp at b2; omega
     refine ⟨.slice (some (if m.getD n = l then ⟨blk, off, none⟩ else (⟨blk, off, none⟩ : Addr).add (l * sz P e))) (hh - l) (m.getD n - l), ?_, ?_⟩
     · simp [run_underlying hd, hev, Instr.sureAddr, hr, run_sizeOf hne]
     · have hmh : hh ≤ m.getD n := by
         cases m with
         | none => simp at b2 ⊢; omega
         | some m0 => simpa using b2
       have hfull : fullA true n hh m = true → m.getD n - l = hh - l := by
         cases m with
         | none => simp [fullA]; intro hn; rw [hn]
         | some m0 => simp [fullA]; intro hf; rw [hf]
       by_cases hml : m.getD n = l
       · have hhl : hh - l = 0 := by omega
         simp only [hml, if_true, Rel, hhl]
         refine .inr ⟨blk, off, _, [], rfl, by omega, by omega, fun hf => by omega, ?_, ?_, ?_⟩
         · simp [RelL.nil]
         · intro j v hj; simp at hj
         · intro v hv; simp at hv
       · simp only [hml, if_false, addr_add, Rel]
         refine .inr ⟨blk, off + l * sz P e, _, (vs.drop (l * sz P e)).take ((hh - l) * sz P e), rfl, by omega, by omega, hfull, (h4.drop _).take _, (h5.drop _).take _, (h6.drop _).take _⟩
 · cases h
end
end Go.AI
end

section
namespace Go.AI
section
variable {P : Program} {E : Env} {G : Heap} {w : World} {ρ : Operand → AV} {a : Act}
theorem len_sound {t : TypeId} {ts : List TypeId} {xa x : AV} {v : Value} {args : Array Value} {ty : TypeId} {ats : Array TypeId} (hats : ats.toList = t :: ts)
   (hargs : args.toList = [v]) (hx : Rel E G xa v) (h : lenA P t xa = some x) : ValV P E G w (Builtin.len_ ats ty args) x := by
 have htd : td P t ≠ .none := by intro h0; simp [lenA, h0] at h
 obtain ⟨i, d, hi', hd, hdt⟩ := td_some htd
 have e1 : ats[0]? = some t := by rw [← Array.getElem?_toList, hats]; rfl
 have e2 : args[0]? = some v := by rw [← Array.getElem?_toList, hargs]; rfl
 unfold lenA at h
 rw [← hdt] at h
 split at h
 · rename_i e full n cs hde
   cases d <;> simp only [tdOf, reduceCtorEq, TD.slice.injEq] at hde
   simp only [Option.some.injEq] at h; subst h
   simp only [Rel] at hx
   rcases hx with ⟨ad, cap, rfl, _⟩ | ⟨blk, off, cap, vs, rfl, _⟩ <;>
     exact ⟨_, by simp [Builtin.len_, e1, e2, run_underlying hd, goInt]; rfl, by simp [Rel]⟩
 · rename_i e b o n hde
   cases d <;> simp only [tdOf, reduceCtorEq, TD.slice.injEq] at hde
   simp only [Option.some.injEq] at h; subst h
   simp only [Rel] at hx
   rcases hx with ⟨blk, cap, rfl, _⟩ | ⟨_, rfl, rfl, a, rfl⟩ <;>
     exact ⟨_, by simp [Builtin.len_, e1, e2, run_underlying hd, goInt]; rfl, by simp [Rel]⟩
 · rename_i n e y hde
   cases d <;> simp only [tdOf, reduceCtorEq, TD.array.injEq] at hde
   obtain ⟨rfl, rfl⟩ := hde
   simp only [Option.some.injEq] at h; subst h
   exact ⟨_, by simp [Builtin.len_, e1, e2, run_underlying hd, goInt]; rfl, by simp [Rel]⟩
 · rename_i s hde
   cases d <;> simp only [tdOf, reduceCtorEq] at hde
   simp only [Option.some.injEq] at h; subst h
   simp only [Rel] at hx; subst hx
   exact ⟨_, by simp [Builtin.len_, e1, e2, run_underlying hd, goInt]; rfl, by simp [Rel]⟩
 · cases h
theorem cap_sound {t : TypeId} {ts : List TypeId} {xa x : AV} {v : Value} {args : Array Value} {ty : TypeId} {ats : Array TypeId} (hats : ats.toList = t :: ts)
   (hargs : args.toList = [v]) (hx : Rel E G xa v) (h : capA P t xa = some x) : ValV P E G w (Builtin.cap_ ats ty args) x := by
 have htd : td P t ≠ .none := by intro h0; simp [capA, h0] at h
 obtain ⟨i, d, hi', hd, hdt⟩ := td_some htd
 have e1 : ats[0]? = some t := by rw [← Array.getElem?_toList, hats]; rfl
 have e2 : args[0]? = some v := by rw [← Array.getElem?_toList, hargs]; rfl
 unfold capA at h
 rw [← hdt] at h
 split at h
 · rename_i e n cs hde
   cases d <;> simp only [tdOf, reduceCtorEq, TD.slice.injEq] at hde
   simp only [Option.some.injEq] at h; subst h
   simp only [Rel] at hx
   rcases hx with ⟨ad, cap, rfl, h0, h1, _⟩ | ⟨blk, off, cap, vs, rfl, _, _, h3, _⟩
   · have h1 := h1 trivial
     exact ⟨_, by simp [Builtin.cap_, e1, e2, run_underlying hd, goInt]; rfl, by simp [Rel, h0, h1]⟩
   · exact ⟨_, by simp [Builtin.cap_, e1, e2, run_underlying hd, goInt]; rfl, by simp [Rel, h3]⟩
 · rename_i n e y hde
   cases d <;> simp only [tdOf, reduceCtorEq, TD.array.injEq] at hde
   obtain ⟨rfl, rfl⟩ := hde
   simp only [Option.some.injEq] at h; subst h
   exact ⟨_, by simp [Builtin.cap_, e1, e2, run_underlying hd, goInt]; rfl, by simp [Rel]⟩
 · cases h
theorem idx_sound {t : TypeId} {xa ia x : AV} {v u : Value} (hx : Rel E G xa v) (hi : Rel E G ia u) (h : idxA P t xa ia = some x) :
   ValV P E G w (Instr.indexAt t v u) x := by
 have htd : td P t ≠ .none := by intro h0; simp [idxA, h0] at h
 obtain ⟨i, d, hi', hd, hdt⟩ := td_some htd
 unfold idxA at h
 rw [← hdt] at h
 split at h
 · rename_i n e k j hde
   cases d <;> simp only [tdOf, reduceCtorEq, TD.array.injEq] at hde
   obtain ⟨rfl, rfl⟩ := hde
   simp only [Rel] at hi; subst hi
   split at h
   · cases h
   rename_i hne
   split at h
   · rename_i hj
     obtain ⟨b, o, rfl, hr⟩ := ptrAdd_rel hx h
     refine ⟨_, ?_, hr⟩
     simp [Instr.indexAt, asIntOf, run_underlying hd, Instr.sureAddr, hj, run_sizeOf hne, addr_add]
   · cases h
 · rename_i e0 k j hde
   cases d <;> simp only [tdOf, reduceCtorEq, TD.slice.injEq] at hde
   subst hde
   rename_i e
   simp only [Rel] at hi; subst hi
   split at h
   · cases h
   rename_i hne
   split at h
   · split at h
     · rename_i full n cs hj
       simp only [Option.some.injEq] at h; subst h
       simp only [Rel] at hx ⊢
       rcases hx with ⟨ad, cap, rfl, h0, h1, h2⟩ | ⟨blk, off, cap, vs, rfl, h1, h2, h3, h4, h5, h6⟩
       · omega
       · refine ⟨.pointer (some ⟨blk, off + j.toNat * sz P e, none⟩), ?_, blk, off + j.toNat * sz P e, _, rfl, h4.drop _, h5.drop _, h6.drop _⟩
         simp [Instr.indexAt, asIntOf, run_underlying hd, hj, run_sizeOf hne, addr_add]
     · cases h
   · split at h
     · rename_i b o n hj
       simp only [Option.some.injEq] at h; subst h
       simp only [Rel] at hx ⊢
       rcases hx with ⟨blk, cap, rfl, h1, h2, h3⟩ | ⟨_, _, h0, _⟩
       · refine ⟨.pointer (some ⟨blk, o + j.toNat * sz P e, none⟩), ?_, ?_⟩
         · simp [Instr.indexAt, asIntOf, run_underlying hd, hj, run_sizeOf hne, addr_add]
         · rcases h3 with ⟨s, tot, h3, _⟩ | h3
           · exact ⟨_, blk, h3, rfl, rfl⟩
           · exact ⟨_, blk, h3, rfl, rfl⟩
       · omega
     · cases h
   · cases h
 · cases h
theorem relL_map {xs : List Operand} {ev : Operand → Value} (hρ : ∀ x, Rel E G (ρ x) (ev x)) : RelL E G (xs.map ρ) (xs.map ev) := by
 induction xs with
 | nil => exact RelL.nil
 | cons x xs ih => exact RelL.cons (hρ x) ih
theorem comp_sound (hρ : ∀ x, Rel E G (ρ x) (a.eval x)) (hgw : ∀ b o v, G b o = some v → w.cell? ⟨b, o, none⟩ = some v) (o : Oper) {x : AV}
   (h : comp P ρ o.op = some x) : Val P E G w (execOp a.eval o) x := by
 have hcells : ∀ {b off : Nat} {vs : List Value}, InG G b off vs → Cells w b off vs := fun hg j v hv => hgw _ _ _ (hg j v hv)
 obtain ⟨dst, op, ty, pos, after, guard⟩ := o
 cases op <;> simp only [comp, reduceCtorEq] at h
 case move y => simp only [Option.some.injEq] at h; subst h; exact ⟨_, by simp [execOp], hρ y⟩
 case assign y => simp only [Option.some.injEq] at h; subst h; exact ⟨_, by simp [execOp], hρ y⟩
 case pick c y z =>
   split at h
   · rename_i p hp
     simp only [Option.some.injEq] at h; subst h
     have hc := hρ c
     rw [hp] at hc
     simp only [Rel] at hc
     refine ⟨_, ?_, pick_rel (hρ y) (hρ z)⟩
     cases p <;> simp [execOp, hc, asBool]
   · cases h
 case load t y =>
   split at h
   · rename_i cs hp
     have hc := hρ y
     rw [hp] at hc
     simp only [Rel] at hc
     obtain ⟨b, off, vs, hv, h1, h2, h3⟩ := hc
     obtain ⟨v, hr, hx⟩ := run_loadVar (P := P) (hcells h2) h1 h3 h
     refine ⟨v, ?_, hx⟩
     simp only [Nat.add_zero] at hr
     simp [execOp, hv, Instr.loadAt, Instr.sureAddr, hr]
   · cases h
 case binOp op t y z yt => exact (bin_sound (hρ y) (hρ z) rfl h).val
 case unOp op t y => exact (un_sound (hρ y) h).val
 case convert s d y =>
   split at h
   · rename_i k k' k0 n hs hd hy
     simp only [Option.some.injEq] at h; subst h
     have h1 : td P s ≠ .none := by rw [hs]; simp
     have h2 : td P d ≠ .none := by rw [hd]; simp
     obtain ⟨i, ds, hi, hds, hdt⟩ := td_some h1
     obtain ⟨i', dd, hi', hdd, hdt'⟩ := td_some h2
     rw [hs] at hdt; rw [hd] at hdt'
     cases ds <;> simp only [tdOf, reduceCtorEq] at hdt
     cases dd <;> simp only [tdOf, reduceCtorEq, TD.int.injEq] at hdt'
     subst hdt'
     have hc := hρ y
     rw [hy] at hc
     simp only [Rel] at hc
     exact ⟨_, by simp [execOp, convert, run_underlying hds, run_underlying hdd, hc, Conv.intToInt]; rfl, by simp [Rel]⟩
   · cases h
 case fieldAddr s y f =>
   split at h
   · rename_i fs hs
     split at h
     · rename_i off ft hf
       split at h
       · cases h
       rename_i hsz
       have h1 : td P s ≠ .none := by rw [hs]; simp
       obtain ⟨i, ds, hi, hds, hdt⟩ := td_some h1
       rw [hs] at hdt
       cases ds <;> simp only [tdOf, reduceCtorEq, TD.struct.injEq] at hdt
       rename_i fields
       rw [← hdt, List.getElem?_map] at hf
       cases hff : fields.toList[f]? with
       | none => simp [hff] at hf
       | some fd =>
         simp only [hff, Option.map_some, Option.some.injEq, Prod.mk.injEq] at hf
         obtain ⟨rfl, rfl⟩ := hf
         obtain ⟨b, o, hv, hr⟩ := ptrAdd_rel (hρ y) h
         have hff' : fields[f]? = some fd := by rw [← Array.getElem?_toList, hff]
         refine ⟨_, ?_, hr⟩
         simp [execOp, Instr.fieldAt, run_underlying hds, hff', hv, Instr.sureAddr, fieldPlace, run_sizeOf' hsz, hsz, addr_add]
     · cases h
   · cases h
 case field s y f =>
   split at h
   · rename_i fs cs hs hy
     split at h
     · rename_i off ft hf
       have h1 : td P s ≠ .none := by rw [hs]; simp
       obtain ⟨i, ds, hi, hds, hdt⟩ := td_some h1
       rw [hs] at hdt
       cases ds <;> simp only [tdOf, reduceCtorEq, TD.struct.injEq] at hdt
       rename_i fields
       rw [← hdt, List.getElem?_map] at hf
       cases hff : fields.toList[f]? with
       | none => simp [hff] at hf
       | some fd =>
         simp only [hff, Option.map_some, Option.some.injEq, Prod.mk.injEq] at hf
         obtain ⟨rfl, rfl⟩ := hf
         have hff' : fields[f]? = some fd := by rw [← Array.getElem?_toList, hff]
         have hc := hρ y
         rw [hy] at hc
         simp only [Rel] at hc
         obtain ⟨vs, hv, hr, ho⟩ := hc
         obtain ⟨v, hp, hx⟩ := run_part (P := P) (w := w) hr ho h
         exact ⟨v, by simp [execOp, Instr.field, run_underlying hds, hff', hv, asAgg, hp], hx⟩
     · cases h
   · cases h
 case indexAddr t y i => exact (idx_sound (hρ y) (hρ i) h).val
 case index t y i =>
   split at h
   · rename_i n e cs k j hs hy hi
     split at h
     · cases h
     rename_i hne
     split at h
     · rename_i hj
       have h1 : td P t ≠ .none := by rw [hs]; simp
       obtain ⟨i', ds, hi', hds, hdt⟩ := td_some h1
       rw [hs] at hdt
       cases ds <;> simp only [tdOf, reduceCtorEq, TD.array.injEq] at hdt
       obtain ⟨rfl, rfl⟩ := hdt
       have hc := hρ y
       rw [hy] at hc
       have hcj := hρ i
       rw [hi] at hcj
       simp only [Rel] at hc hcj
       obtain ⟨vs, hv, hr, ho⟩ := hc
       obtain ⟨v, hp, hx⟩ := run_part (P := P) (w := w) hr ho h
       exact ⟨v, by simp [execOp, Instr.index, asIntOf, run_underlying hds, hv, hcj, hj, run_sizeOf hne, hp], hx⟩
     · cases h
   · cases h
 case extract y i =>
   split at h
   · rename_i vs hy
     have hc := hρ y
     rw [hy] at hc
     simp only [Rel] at hc
     obtain ⟨us, hv, hr⟩ := hc
     obtain ⟨v, hv', hx⟩ := hr.get h
     exact ⟨v, by simp [execOp, Instr.extract, hv, hv'], hx⟩
   · cases h
 case makeFunc fn first caps =>
   cases fn <;> simp only [reduceCtorEq] at h
   rename_i f
   split at h
   · rename_i hf
     simp only [Option.some.injEq] at h; subst h
     have hf' : first = #[] := by simpa using hf
     subst hf'
     refine ⟨.func (.func f) #[] (caps.map a.eval), by simp [execOp, Instr.makeFunc], ?_⟩
     simp only [Rel]
     exact ⟨caps.toList.map a.eval, by simp [← Array.toList_map], relL_map hρ⟩
   · cases h
 case nilCheck y =>
   have hc := hρ y
   split at h <;> simp only [Option.some.injEq, reduceCtorEq] at h <;> subst h <;> rename_i hy <;> rw [hy] at hc <;> have hc' := hc <;> simp only [Rel] at hc
   · obtain ⟨b, off, vs, hv, _⟩ := hc
     exact ⟨_, by simp [execOp, hv], hv ▸ hc'⟩
   · obtain ⟨l, blk, _, _, hv⟩ := hc
     exact ⟨_, by simp [execOp, hv], hv ▸ hc'⟩
   · obtain ⟨vs, hv, _⟩ := hc
     exact ⟨_, by simp [execOp, hv], hv ▸ hc'⟩
 case slice t y lo hi mx => exact (sl_sound hρ h).val
 case call c =>
   split at h
   · rename_i hcal
     split at h
     · rename_i t ts y hats hargs
       obtain ⟨v, h1, h2⟩ := len_sound (w := w) (args := c.args.map a.eval) (ty := ty) hats (by simp [hargs]) (hρ y) h
       exact ⟨v, by simp [execOp, resolve, hcal, invoke, builtin, h1], h2⟩
     · cases h
   · rename_i hcal
     split at h
     · rename_i t ts y hats hargs
       obtain ⟨v, h1, h2⟩ := cap_sound (w := w) (args := c.args.map a.eval) (ty := ty) hats (by simp [hargs]) (hρ y) h
       exact ⟨v, by simp [execOp, resolve, hcal, invoke, builtin, h1], h2⟩
     · cases h
   · rename_i hcal
     split at h
     · rename_i k x0 k' y0 hl
       split at h
       · rename_i hk; subst hk
         simp only [Option.some.injEq] at h; subst h
         have hr := relL_map (xs := c.args.toList) hρ
         rw [hl] at hr
         simp only [RelL, Rel] at hr
         obtain ⟨v1, r1, hv, rfl, v2, r2, rfl, rfl, rfl⟩ := hr
         have hv' : (c.args.map a.eval).toList = [.int k x0, .int k y0] := by simpa using hv
         exact ⟨_, by simp [execOp, resolve, hcal, invoke, builtin, Builtin.min_, hv, Builtin.min2]; rfl, by simp [Rel]⟩
       · cases h
     · cases h
   · rename_i hcal
     split at h
     · rename_i k x0 k' y0 hl
       split at h
       · rename_i hk; subst hk
         simp only [Option.some.injEq] at h; subst h
         have hr := relL_map (xs := c.args.toList) hρ
         rw [hl] at hr
         simp only [RelL, Rel] at hr
         obtain ⟨v1, r1, hv, rfl, v2, r2, rfl, rfl, rfl⟩ := hr
         exact ⟨_, by simp [execOp, resolve, hcal, invoke, builtin, Builtin.max_, hv, Builtin.max2]; rfl, by simp [Rel]⟩
       · cases h
     · cases h
   · cases h
end
end Go.AI
end
