/- ! Maps to ints: their entries in the order in which they came. -/
import Derived.Test.YtmhapglejjehbaaGreatAe
import Derived.MapKept
import Derived.Laws.CopyRow
set_option linter.all false
set_option linter.unnecessarySimpa false
section
namespace Go.AI
section
variable {P : Program} {E E' : Env} {G G' : Heap} {w w' : World} {ρ : Operand → AV} {a : Act} {bx : Nat → Box}
open Classical in
theorem Mems.slOwn {o : Oper} {t e : TypeId} {xo : Operand} {lo hi : Option Operand} {n k l h s by_ : Nat} {cs : List AV} (ho : o.op = .slice t xo lo hi none) (hok : AppOk P t e s by_) (hx : ρ xo = .msl n 0 k)
   (hb : bx n = .buf s cs) (hbd : boundsA k k (lo.map ρ) (hi.map ρ) none = some (l, h, none)) (hlk : l < k ∨ l = 0) : Mems P ρ bx o (.msl n (l * s) (h - l)) bx := by
 intro a w E G hρ hheap K Q hK
 let ρ' : Operand → AV := fun y => if y ∈ o.op.operands then ρ y else .junk
 have hρ' : ∀ y, Rel E G (ρ' y) (a.eval y) := fun y => by
   by_cases hy : y ∈ o.op.operands
   · simp only [ρ', hy, if_true]; exact hρ y hy
   · simp only [ρ', hy, if_false, Rel]
 have hbd' : boundsA k k (lo.map ρ') (hi.map ρ') none = some (l, h, none) := by
   rw [← hbd]
   cases lo <;> cases hi <;> simp [ρ', ho, Op.operands]
 have hxv := hρ xo (by simp [ho, Op.operands])
 rw [hx] at hxv
 simp only [Rel] at hxv
 obtain ⟨i, z, hu, hi', hz, hsz, hby, hzs⟩ := hok.facts
 have htde := hok.tde
 have hes : sz P e = s := hok.sz
 rcases hxv with ⟨blk, cap, hev, hc1, hc2, hE⟩ | ⟨hE, _, hk0, ad, hev⟩
 · obtain ⟨hr, b1, b2, b3⟩ := bounds_sound (P := P) (w := w) (isSlice := true) (mx := none) hρ' hc1 (Nat.le_refl k) hbd'
   simp only [Option.getD_none] at hr b2
   have hbox := hheap.box n
   rw [hb] at hbox
   rcases hE with ⟨sz', tot, hE, ht⟩ | hE
   · rw [hE] at hbox
     simp only [BoxOk] at hbox
     obtain ⟨rfl, _⟩ := hbox
     have hrun : (execOp a.eval o).run P w = .ok (.value (.slice (some ⟨blk, l * sz', none⟩) (h - l) (cap - l))) w := by
       have hadd : (if cap = l then (some ⟨blk, 0, none⟩ : Option Addr) else (some ⟨blk, 0, none⟩ : Option Addr).map (·.add (l * sz P e))) = some ⟨blk, l * sz', none⟩ := by
         by_cases hcl : cap = l
         · rw [if_pos hcl]
           have : l = 0 := by rcases hlk with h0 | h0 <;> omega
           simp [this]
         · rw [if_neg hcl, hes]; simp [addr_add]
       have h1 : (Instr.sliceAt t (a.eval xo) (lo.map a.eval) (hi.map a.eval) none).run P w = .ok (.slice (some ⟨blk, l * sz', none⟩) (h - l) (cap - l)) w := by
         unfold Instr.sliceAt
         simp only [Option.map_none] at hr
         rw [← hadd]
         simp [AI.run_underlying hu, hev, Instr.slice, hr, run_sizeOf htde]
       simp [execOp, ho, h1]
     refine .inl ?_
     unfold Oper.wp
     rw [hrun]
     refine hK _ w E G ?_ hheap (.refl _ _ _ _)
     simp only [Rel]
     have hlc : l ≤ cap := by omega
     refine .inl ⟨blk, cap - l, rfl, by omega, by omega, .inl ⟨sz', tot, hE, ?_⟩⟩
     have : l * sz' + (cap - l) * sz' = cap * sz' := by rw [← Nat.add_mul]; congr 1; omega
     omega
   · rw [hE] at hbox; simp [BoxOk] at hbox
 · subst hk0
   obtain ⟨hr, b1, b2, b3⟩ := bounds_sound (P := P) (w := w) (isSlice := true) (mx := none) hρ' (Nat.le_refl 0) (Nat.le_refl 0) hbd'
   simp only [Option.getD_none, Nat.le_zero] at hr b2
   subst b2
   have hl0 : l = 0 := by omega
   subst hl0
   have hrun : (execOp a.eval o).run P w = .ok (.value (.slice ad 0 0)) w := by
     have h1 : (Instr.sliceAt t (a.eval xo) (lo.map a.eval) (hi.map a.eval) none).run P w = .ok (.slice ad 0 0) w := by
       unfold Instr.sliceAt
       simp only [Option.map_none] at hr
       simp [AI.run_underlying hu, hev, Instr.slice, hr, run_sizeOf htde]
     simp [execOp, ho, h1]
   refine .inl ?_
   unfold Oper.wp
   rw [hrun]
   refine hK _ w E G ?_ hheap (.refl _ _ _ _)
   simp only [Rel, Nat.zero_mul]
   exact .inr ⟨hE, trivial, trivial, ad, rfl⟩
end
section
variable {P : Program} {ops : Array Oper} {cf : Oper → Cls} {l : List Oper} {i nx : Nat} {tm : Nat → AV} {bx : Nat → Box} {Q : (Nat → AV) → (Nat → Box) → Prop} {o : Oper}
end
end Go.AI
end

section
namespace Go.AI
section
variable {P : Program} {E E' : Env} {G G' : Heap} {w w' : World} {ρ : Operand → AV} {a : Act} {bx : Nat → Box}
theorem Mems.appendF {o : Oper} {c : Call} {t e : TypeId} {xo yo : Operand} {nm s by_ k m : Nat} {fl : Bool} {cs ds : List AV} (ho : o.op = .call c) (hc : c.callee = .builtin .append)
   (hat : c.argTypes = #[t, t]) (harg : c.args = #[xo, yo]) (hok : AppOk P t e s by_) (hx : ρ xo = .sl true k cs) (hy : ρ yo = .sl fl m ds) (hk0 : 0 < k) (hm0 : 0 < m) (hk : k * s ≤ cs.length)
   (hm : m * s ≤ ds.length) (hbound : (k + m) * by_ ≤ 140737488355328) (hnm : bx nm = .none) :
   Mems P ρ bx o (.msl nm 0 (k + m)) (upd bx nm (.buf s (cs.take (k * s) ++ ds.take (m * s)))) := by
 intro a w E G hρ hheap K Q hK
 obtain ⟨i, z, hu, hi, hz, hsz, hby, hzs⟩ := hok.facts
 have hpos := hok.pos
 have htde : td P e ≠ .none := hok.tde
 have hxv := hρ xo (by simp [ho, Op.operands, Call.operands, hc, harg])
 have hyv := hρ yo (by simp [ho, Op.operands, Call.operands, hc, harg])
 rw [hx] at hxv; rw [hy] at hyv
 have hby1 : 0 < by_ := hok.bpos
 have hkm : k + m ≤ 140737488355328 := Nat.le_trans (Nat.le_mul_of_pos_right _ hby1) hbound
 have hexec : ∀ r : Result Value, (Builtin.append_ #[t, t] o.type #[a.eval xo, a.eval yo]).run P w = r →
     (execOp a.eval o).run P w = r.andThen fun v w' => .ok (.value v) w' := by
   intro r hr
   simp only [execOp, ho, resolve, hc, harg, hat, Sem.run_bind, Sem.run_pure, Result.andThen_ok, invoke, builtin, List.map_toArray, List.map_cons, List.map_nil, hr]
 simp only [Rel] at hxv hyv
 rcases hxv with ⟨ad, cap, hv, h0, h1, h2⟩ | ⟨blk, off, cap, vs, hxe, hkc, hk63, hfull, hvr, hvi, hvo⟩
 · omega
 rcases hyv with ⟨ad, cap', hv, h0, h1, h2⟩ | ⟨blk2, off2, cap2, us, hye, g1, g2, g3, g4, g5, g6⟩
 · omega
 have hcap := hfull trivial
 have hvl := hvr.length
 have hul := g4.length
 have ho1 := hvr.take (k * s)
 have ho2 : Ones (vs.take (k * s)) := hvo.take _
 have hn1 := g4.take (m * s)
 have hn2 : Ones (us.take (m * s)) := g6.take _
 have hol : (vs.take (k * s)).length = k * s := by rw [List.length_take]; omega
 have hnl : (us.take (m * s)).length = m * s := by rw [List.length_take]; omega
 have hrun := run_append_grow (P := P) w t o.type e i z hu hi hz ⟨blk, off, Option.none⟩ k cap (vs.take (k * s)) (by rw [hol, hsz]) (fun j v hj => by rw [addr_add]; exact hheap.gw _ _ _ (hvi.take _ j v hj))
   ⟨blk2, off2, Option.none⟩ m cap2 (us.take (m * s)) (by rw [hnl, hsz]) (fun j v hj => by rw [addr_add]; exact hheap.gw _ _ _ (g5.take _ j v hj)) (by omega) (by omega) (growslice_fits (by omega) (by rw [hby]; exact hbound))
 rw [← hxe, ← hye] at hrun
 have hge := grownCap_ge w (k + m) cap e
 have hle := grownCap_le_maxLen w (k + m) cap e (by simp only [maxLen]; omega)
 have hEnm : E nm = Option.none := hheap.none hnm
 have hE1 : EnvLe E (setE E nm (.buf w.heap.size s (grownCap w (k + m) cap e))) := setE_le hEnm
 have hbufok : BoxOk (setE E nm (.buf w.heap.size s (grownCap w (k + m) cap e))) G
     (w.drew.alloc (.cells ((vs.take (k * s)).toArray ++ (us.take (m * s)).toArray ++ Builtin.zeroCells z.cells (grownCap w (k + m) cap e - (k + m))) e))
     (.buf s (cs.take (k * s) ++ ds.take (m * s))) (some (.buf w.heap.size s (grownCap w (k + m) cap e))) := by
   simp only [BoxOk]
   refine ⟨trivial, vs.take (k * s) ++ us.take (m * s), (Builtin.zeroCells z.cells (grownCap w (k + m) cap e - (k + m))).toList, e, ?_, (ho1.mono hE1 (.refl _)).append (hn1.mono hE1 (.refl _)), ho2.append hn2, ?_⟩
   · have h0 := heap_alloc_new w.drew (.cells ((vs.take (k * s)).toArray ++ (us.take (m * s)).toArray ++ Builtin.zeroCells z.cells (grownCap w (k + m) cap e - (k + m))) e)
     have h1 : (vs.take (k * s) ++ us.take (m * s) ++ (Builtin.zeroCells z.cells (grownCap w (k + m) cap e - (k + m))).toList).toArray = (vs.take (k * s)).toArray ++ (us.take (m * s)).toArray ++ Builtin.zeroCells z.cells (grownCap w (k + m) cap e - (k + m)) := by
       apply Array.ext'; simp
     rw [h1]
     exact h0
   · have h2 := size_zeroCells z.cells (grownCap w (k + m) cap e - (k + m))
     simp only [List.length_append, Array.length_toList, hol, hnl, h2, hzs]
     rw [← Nat.add_mul, ← Nat.add_mul]
     congr 1; omega
 obtain ⟨hok2, hext2⟩ := hheap.push (n := nm) (l := .buf w.heap.size s (grownCap w (k + m) cap e)) (bn := .buf s (cs.take (k * s) ++ ds.take (m * s)))
   (w' := w.drew.alloc (.cells ((vs.take (k * s)).toArray ++ (us.take (m * s)).toArray ++ Builtin.zeroCells z.cells (grownCap w (k + m) cap e - (k + m))) e)) hnm rfl ⟨_, _, rfl⟩ rfl rfl rfl rfl hbufok
 refine .inl ?_
 unfold Oper.wp
 rw [hexec _ hrun]
 simp only [Result.andThen_ok]
 refine hK _ _ _ _ ?_ hok2 hext2
 simp only [Rel]
 exact .inl ⟨w.heap.size, _, rfl, hge, by omega, .inl ⟨s, grownCap w (k + m) cap e, by simp [setE], by simp⟩⟩
end
section
variable {P : Program} {ops : Array Oper} {cf : Oper → Cls} {l : List Oper} {i nx : Nat} {tm : Nat → AV} {bx : Nat → Box} {Q : (Nat → AV) → (Nat → Box) → Prop} {o : Oper}
theorem RunQ.appendF {c : Call} {t e : TypeId} {xo yo : Operand} {s by_ k m : Nat} {fl : Bool} {cs ds : List AV} (nm : Nat) (hok : AppOk P t e s by_) (ho : o.op = .call c) (hc : c.callee = .builtin .append)
   (hat : c.argTypes = #[t, t]) (harg : c.args = #[xo, yo]) (hx : evA tm xo = .sl true k cs) (hy : evA tm yo = .sl fl m ds) (hw : wantedA ops tm o = some true) (hcf : cf o = .w) (hk0 : 0 < k) (hm0 : 0 < m)
   (hk : k * s ≤ cs.length) (hm : m * s ≤ ds.length) (hbound : (k + m) * by_ ≤ 140737488355328) (hnm : bx nm = .none)
   (h : RunQ P ops cf l (i + 1) (putA tm o.dst (.msl nm 0 (k + m))) (upd bx nm (.buf s (cs.take (k * s) ++ ds.take (m * s)))) nx Q) : RunQ P ops cf (o :: l) i tm bx nx Q :=
 RunQ.mem hw hcf (Mems.appendF ho hc hat harg hok hx hy hk0 hm0 hk hm hbound hnm) h
theorem RunQ.callOz {c : Call} {fo : Operand} {f : FuncId} {caps args : List AV} {n k n' s' : Nat} {cs cs' : List AV} (nm t s : Nat) (hop : o.op = .call c) (hc : c.callee = .value fo) (hg : wantedA ops tm o = some true)
   (hcf : cf o = .w) (ht : tm t = .msl n 0 k) (hb : (bx n).cells? = some cs) (hf : evA (upd tm t (.sl false k (cs.take (k * s)))) fo = .fn f caps)
   (ha : LeL (c.args.toList.map (evA (upd tm t (.sl false k (cs.take (k * s))))) ++ caps) args) (h : FnO P f args n' s' cs') (hcl : ClL args = true) (hcs : ClL cs' = true) (hnm : bx nm = .none) (hne : nm ≠ n)
   (hk : RunQ P ops cf l (i + 1) (putA tm o.dst (.msl nm 0 n')) (upd (upd bx n .gone) nm (.buf s' cs')) nx Q) : RunQ P ops cf (o :: l) i tm bx nx Q := by
 refine RunQ.mem hg hcf (Mems.frz hb (ρ' := evA (upd tm t (.sl false k (cs.take (k * s))))) (fun y => ?_) (Mems.callO hop hc hf ha h hcl hcs (by rw [upd_ne _ _ _ _ hne]; exact hnm))) hk
 cases y with
 | tmp j =>
   by_cases hj : j = t
   · subst hj; exact .inr (.inr ⟨k, s, ht, by simp⟩)
   · left; simp [upd_ne _ _ _ _ hj]
 | const v => exact .inl rfl
 | global g => exact .inl rfl
 | func g => exact .inl rfl
end
end Go.AI
end

namespace Go.AI
theorem FnO.toP {P : Program} {f : FuncId} {args : List AV} {n s : Nat} {cs : List AV} (h : FnO P f args n s cs) (hcl : ClL (cs.take (n * s)) = true) : FnP P f args (.sl false n (cs.take (n * s))) := by
 refine ⟨h.1, fun w G vs hg hr => ?_⟩
 refine Calls.mono (h.2 w G vs hg hr) fun e w' he => ?_
 obtain ⟨v, G', E', rfl, hx, hok, hext⟩ := he
 obtain ⟨G'', h1, h2, h3, _, h4⟩ := frz hok (n := 0) (cs := cs) (by simp [Box.cells?])
 have h5 := h4 0 n s v hx (.inr rfl)
 simp only [List.drop_zero] at h5
 have hx2 := hext.trans h3
 exact ⟨v, G'', rfl, Rel.closed (E := E') _ _ (by simpa [Cl] using hcl) h5, h2.gw, ⟨hx2.os, hx2.tape, hx2.output, hx2.fz, hx2.size, .refl _, hx2.heap, hx2.frame, fun b hb => absurd hb (Live_B0 _ _)⟩⟩
end Go.AI

section
namespace Go.AI
structure Hid (p : Prop) : Prop where
 h : p
structure Fork (b : Bool) (A B : Prop) : Prop where
 t : b = true → A
 f : b = false → B
@[simp] theorem Fork.left (A B : Prop) : Fork true A B = A := propext ⟨fun h => h.t rfl, fun h => ⟨fun _ => h, fun x => by cases x⟩⟩
@[simp] theorem Fork.right (A B : Prop) : Fork false A B = B := propext ⟨fun h => h.f rfl, fun h => ⟨fun x => (by cases x), fun _ => h⟩⟩
def GuardQ (x : AV) (want : Bool) (A B : Prop) : Prop := match x with
 | .bool b => Fork (b == want) A B
 | .tup _ => B
 | _ => False
section
variable {P : Program} {ops : Array Oper} {C : Ctx} {cf : Oper → Cls} {l : List Oper} {i nx : Nat} {tm : Nat → AV} {bx : Nat → Box} {Q : (Nat → AV) → (Nat → Box) → Prop} {o : Oper}
def RunH (P : Program) (ops : Array Oper) (cf : Oper → Cls) (nx : Nat) (Q : (Nat → AV) → (Nat → Box) → Prop) : List Oper → Nat → (Nat → AV) → (Nat → Box) → Prop
 | [], _, tm, bx => Q tm bx
 | o :: l, i, tm, bx => match o.guard with
   | some _ => RunQ P ops cf (o :: l) i tm bx nx Q
   | none => match memF P (nx + i) o.op tm bx with
     | some (c, x, bx') => clsLe c (cf o) = true ∧ RunH P ops cf nx Q l (i + 1) (putA tm o.dst x) bx'
     | none => RunQ P ops cf (o :: l) i tm bx nx Q
theorem RunQ.evalH : ∀ {l : List Oper} {i : Nat} {tm : Nat → AV} {bx : Nat → Box}, RunH P ops cf nx Q l i tm bx → RunQ P ops cf l i tm bx nx Q
 | [], i, tm, bx, h => .nil h
 | o :: l, i, tm, bx, h => by
   simp only [RunH] at h
   split at h
   · exact h
   · rename_i hg
     split at h
     · rename_i c x bx' hs
       have hs' : stepF P ops (nx + i) o tm bx = some (c, x, bx') := by
         unfold stepF wantedA; rw [hg]; exact hs
       exact .consC (fun ho => stepF_sound (st := ⟨tm, bx, nx⟩) ho hs' h.1) (RunQ.evalH h.2)
     · exact h
def RunQW (P : Program) (ops : Array Oper) (cf : Oper → Cls) (l : List Oper) (i : Nat) (tm : Nat → AV) (bx : Nat → Box) (nx : Nat) (Q : (Nat → AV) → (Nat → Box) → Prop) (o : Oper) : Prop :=
 wantedA ops tm o = some true → RunQ P ops cf l i tm bx nx Q
def RunW (P : Program) (ops : Array Oper) (cf : Oper → Cls) (nx : Nat) (Q : (Nat → AV) → (Nat → Box) → Prop) (o : Oper) (l : List Oper) (i : Nat) (tm : Nat → AV) (bx : Nat → Box) : Prop :=
 match memF P (nx + i) o.op tm bx with
 | some (c, x, bx') => clsLe c (cf o) = true ∧ RunH P ops cf nx Q l (i + 1) (putA tm o.dst x) bx'
 | none => RunQW P ops cf (o :: l) i tm bx nx Q o
theorem RunQ.g {j t : Nat} {want : Bool} (hg : o.guard = some (j, want)) (ht : (ops[j]?).bind (·.dst) = some t)
   (h : GuardQ (tm t) want (RunW P ops cf nx Q o l i tm bx) (RunH P ops cf nx Q l (i + 1) (putA tm o.dst (.tup [])) bx)) : RunQ P ops cf (o :: l) i tm bx nx Q := by
 have skip : wantedA ops tm o = some false → RunH P ops cf nx Q l (i + 1) (putA tm o.dst (.tup [])) bx → RunQ P ops cf (o :: l) i tm bx nx Q := fun hw hh =>
   .consC (fun ho => .skip ho hw) (RunQ.evalH hh)
 have go : wantedA ops tm o = some true → RunW P ops cf nx Q o l i tm bx → RunQ P ops cf (o :: l) i tm bx nx Q := fun hw hh => by
   unfold RunW at hh
   split at hh
   · rename_i c x bx' hs
     exact .consC (fun ho => stepF_sound (st := ⟨tm, bx, nx⟩) ho (by unfold stepF; rw [hw]; exact hs) hh.1) (RunQ.evalH hh.2)
   · exact hh hw
 unfold GuardQ at h
 split at h
 · rename_i b hb
   have hw : wantedA ops tm o = some (b == want) := by unfold wantedA; rw [hg]; simp only [ht, hb]
   cases hk : b == want
   · rw [hk] at hw; exact skip hw (h.f hk)
   · rw [hk] at hw; exact go hw (h.t hk)
 · rename_i vs hb
   exact skip (by unfold wantedA; rw [hg]; simp only [ht, hb]) h
 · exact h.elim
theorem RunQW.call {c : Call} {fo : Operand} {f : FuncId} {caps args : List AV} {r : AV} (hop : o.op = .call c) (hc : c.callee = .value fo) (hcf : notWn (cf o) = true)
   (hf : evA tm fo = .fn f caps) (ha : LeL (c.args.toList.map (evA tm) ++ caps) args) (h : FnP P f args r) (hcl : ClL args = true)
   (t : RunQ P ops cf l (i + 1) (putA tm o.dst r) bx nx Q) : RunQW P ops cf (o :: l) i tm bx nx Q o := fun hw =>
 RunQ.callG hop hc hw hcf hf ha h hcl t
theorem RunQW.by (h : wantedA ops tm o = some true → RunQ P ops cf l i tm bx nx Q) : RunQW P ops cf l i tm bx nx Q o := h
theorem WK.rH {id n : Nat} {k : List Item} (hn : C.fn.ntmps = n) (hd : dstB n ops = true)
   (h : ∀ A, Hid (A = ops) → ∀ Q : (Nat → AV) → (Nat → Box) → Prop, Hid (∀ tm bx, WK P C k ⟨tm, bx, nx + 100⟩ → Q tm bx) → RunH P A (fun _ => .w) nx Q ops.toList 0 tm bx) :
   WK P C (.code (.region id ops false) :: k) ⟨tm, bx, nx⟩ := by
 obtain ⟨L, s, e1, e2, e3, e4⟩ := RunQ.evalH (h _ ⟨rfl⟩ (fun tm bx => WK P C k ⟨tm, bx, nx + 100⟩) ⟨fun _ _ h => h⟩) rfl
 refine WK.region (dstB_ok (hn ▸ hd)) (dstB_nd hd) ?_
 have := ChainC.opsK (C := C) (k := k) e3 (WK.anyNx e4)
 rw [e1] at this
 rwa [List.range_eq_range', ← Array.length_toList]
theorem WK.cT {c : Operand} {x y : Code} {k : List Item} {st : St} (hc : evA st.tm c = .bool true) (h : WK P C (.code x :: k) st) : WK P C (.code (.cond c x y) :: k) st :=
 WK.c2 hc (fun _ => h) (fun e => by cases e)
theorem WK.cF {c : Operand} {x y : Code} {k : List Item} {st : St} (hc : evA st.tm c = .bool false) (h : WK P C (.code y :: k) st) : WK P C (.code (.cond c x y) :: k) st :=
 WK.c2 hc (fun e => by cases e) (fun _ => h)
end
attribute [simp] RunH RunW GuardQ
end Go.AI
end

section
namespace Go.AI
def FnT (P : Program) (f : FuncId) (args : List AV) (n s : Nat) (cs : List AV) (rs : List AV) : Prop :=
 Callable P f ∧ ∀ (w : World) (G : Heap) (vs : List Value), GW G w → RelL E0 G args vs → Calls P f vs.toArray w (Rx B0 E0 G w (.tup (.msl 0 0 n :: rs)) (upd B0 0 (.buf s cs)))
section
variable {P : Program} {E E' : Env} {G G' : Heap} {w w' : World} {ρ : Operand → AV} {a : Act} {bx : Nat → Box} {C : Ctx} {st st' : St}
theorem Mems.callT {o : Oper} {c : Call} {fo : Operand} {f : FuncId} {caps args rs : List AV} {n s nm : Nat} {cs : List AV} (ho : o.op = .call c) (hc : c.callee = .value fo)
   (hf : ρ fo = .fn f caps) (hle : LeL (c.args.toList.map ρ ++ caps) args) (h : FnT P f args n s cs rs) (hcl : ClL args = true) (hcs : ClL cs = true) (hrs : ClL rs = true) (hnm : bx nm = .none) :
   Mems P ρ bx o (.tup (.msl nm 0 n :: rs)) (upd bx nm (.buf s cs)) := by
 intro a w E G hρ hok K Q hk
 obtain ⟨vs, hrun, hvs⟩ := run_callFn (w := w) ho hc hf h.1 hρ
 have hcalls := h.2 w G vs hok.gw (RelL.closed _ _ hcl (hle _ _ _ hvs) (E' := E0))
 refine .inl ?_
 unfold Oper.wp
 rw [hrun, Oper.upon_enter]
 refine Calls.mono hcalls fun e w'' he => ?_
 obtain ⟨v, G', E1, rfl, hx, hg, hext⟩ := he
 obtain ⟨l, hl⟩ := hg.loc (n := 0) (by simp [Box.live])
 have hE1 : E1 = setE E0 0 l := by
   funext m
   by_cases hm : m = 0
   · subst hm; simp [setE, hl]
   · have := hg.box m
     rw [upd_ne _ _ _ _ hm] at this
     simpa [setE, hm, E0, BoxOk, B0] using this
 subst hE1
 obtain ⟨h1, h2⟩ := hok.join hnm hcs hg hext
 refine hk v w'' _ G' ?_ h1 h2
 simp only [Rel] at hx
 obtain ⟨us, rfl, hx⟩ := hx
 simp only [RelL] at hx
 obtain ⟨v0, vs', rfl, hx0, hx1⟩ := hx
 simp only [Rel]
 refine ⟨v0 :: vs', rfl, RelL.cons ?_ (RelL.closed _ _ hrs hx1)⟩
 simp only [Rel, setE, if_true] at hx0 ⊢
 exact hx0
theorem FnT.intro {f : FuncId} {fn : Func} {c : Code} {args rs : List AV} {n s : Nat} {cs : List AV} (hf : P.funcs[f]? = some fn) (hn : (fn.name == "runtime.NumGoroutine") = false)
   (hb : fn.body = some c) (h : ∀ G w, WK P (CtxX f fn [] [] [] B0 E0 G w (.tup (.msl 0 0 n :: rs)) (upd B0 0 (.buf s cs))) [.code c] ⟨tmOf args, B0, 0⟩) : FnT P f args n s cs rs :=
 ⟨⟨fn, hf, hn, by simp [hb]⟩, fun w G vs hg hr => calls_of_wk (C := CtxX f fn [] [] [] B0 E0 G w (.tup (.msl 0 0 n :: rs)) (upd B0 0 (.buf s cs))) hf hb rfl rfl rfl (fun p hp => by cases hp) rfl rfl (fun b h1 => h1) (.start hg) hr (h G w)⟩
theorem WK.retT {f : FuncId} {fn : Func} {ms : List Nat} {kp : List (Nat × Obj)} {n n' s m : Nat} {cs c0 ys rs : List AV} {k : List Item} (hfn : P.funcs[f]? = some fn)
   (h : resL P st fn.results.toList = some (.msl m 0 n' :: ys)) (h2 : ys ≠ []) (hb : st.bx m = .buf s c0) (hn : n' = n) (hle : LeL c0 cs) (hrs : LeL ys rs) (hcl : ClL cs = true) (hcr : ClL rs = true) :
   WK P (CtxX f fn ms kp [] B0 E0 G w (.tup (.msl 0 0 n :: rs)) (upd B0 0 (.buf s cs))) (.code .ret :: k) st := by
 subst hn
 refine WK.retX (fun _ => m) hfn ?_ (BxW.upd BxW.nil (by simp only [wkB, hb]; exact ⟨trivial, .inl ⟨hcl, hle⟩⟩)) InjW.one (.inr ⟨k, rfl⟩) (fun n l h => by simp [E0] at h) trivial
 rw [h]
 have e : packA (.msl m 0 n' :: ys) = .tup (.msl m 0 n' :: ys) := by
   cases ys with
   | nil => exact absurd rfl h2
   | cons y ys => rfl
 simp only [e, wkT]
 refine .inr ⟨by simp [Cl, ClL], by simp [Nm, NmL, Box.live, NmL.closed _ _ hcr], ?_⟩
 simp only [Ren, RenL, RenL.closed _ _ hcr]
 exact Le.tup (LeL.cons (Le.refl _) hrs)
end
section
variable {P : Program} {E : Env} {G : Heap} {w : World} {ρ : Operand → AV} {bx : Nat → Box}
theorem zeroCells_one (z : Value) (m : Nat) : Builtin.zeroCells #[z] m = (List.replicate m z).toArray := by
 apply Array.ext'
 simp only [Builtin.zeroCells, List.size_toArray, List.length_cons, List.length_nil, Nat.zero_add, Nat.mul_one, Nat.mod_one]
 simp
 induction m with
 | zero => rfl
 | succ m ih => simp [List.range_succ, ih, List.replicate_succ']
theorem Mems.appendZ {o : Oper} {c : Call} {t ti e : TypeId} {xo yo : Operand} {n nm by_ k m : Nat} {kk : IntKind} {zv : AV} {cs : List AV} (ho : o.op = .call c) (hc : c.callee = .builtin .append)
   (hat : c.argTypes = #[t, ti]) (harg : c.args = #[xo, yo]) (hok : AppOk P t e 1 by_) (hti : td P ti = .int kk) (hzv : (zr P e).cells = [zv]) (hx : ρ xo = .msl n 0 k) (hy : ρ yo = .int .i64 (m : Int)) (hb : bx n = .buf 1 cs) (hk : cs.length = k)
   (hbound : (k + m) * by_ ≤ 140737488355328) (hnm : bx nm = .none) :
   Mems P ρ bx o (.msl nm 0 (k + m)) (upd (upd bx n .gone) nm (.buf 1 (cs ++ List.replicate m zv))) := by
 intro a w E G hρ hheap K Q hK
 obtain ⟨i, z, hu, hi, hz, hsz, hby, hzs⟩ := hok.facts
 have hti' : P.underlying ti = some (.int kk) := by
   obtain ⟨_, d, _, hd, hdt⟩ := td_some (P := P) (t := ti) (by rw [hti]; simp)
   rw [hti] at hdt
   cases d <;> simp only [tdOf, reduceCtorEq, TD.int.injEq] at hdt
   subst hdt; exact hd
 have htde : td P e ≠ .none := hok.tde
 have hxv := hρ xo (by simp [ho, Op.operands, Call.operands, hc, harg])
 have hyv := hρ yo (by simp [ho, Op.operands, Call.operands, hc, harg])
 rw [hx] at hxv; rw [hy] at hyv
 simp only [Rel] at hyv
 have hby1 : 0 < by_ := hok.bpos
 have hkm : k + m ≤ 140737488355328 := Nat.le_trans (Nat.le_mul_of_pos_right _ hby1) hbound
 have hlive : (bx n).live = true := by rw [hb]; rfl
 have hne : nm ≠ n := fun e => by subst e; rw [hnm] at hb; cases hb
 have hexec : ∀ r : Result Value, (Builtin.append_ #[t, ti] o.type #[a.eval xo, a.eval yo]).run P w = r →
     (execOp a.eval o).run P w = r.andThen fun v w' => .ok (.value v) w' := by
   intro r hr
   simp only [execOp, ho, resolve, hc, harg, hat, Sem.run_bind, Sem.run_pure, Result.andThen_ok, invoke, builtin, List.map_toArray, List.map_cons, List.map_nil, hr]
 -- the zero
 have hzv' : AI.zr P e = cv z := by unfold AI.zr; rw [hi]; simp [hz]
 obtain ⟨hzr, hzo⟩ := (cv_rel (E := E) (G := G) z).cells (by rw [← hzv']; exact hok.zr)
 rw [← hzv', hzv] at hzr
 obtain ⟨z0, hz0, hzrel⟩ := RelL.single hzr
 have hzc : z.cells = #[z0] := by apply Array.ext'; simpa using hz0
 rw [hz0] at hzo
 have hzcl : Cl zv = true := by
   have h1 : ∀ x, Cl (cv0 x) = true := by intro x; unfold cv0; split <;> rfl
   have h2 : ClL (zr P e).cells = true := by
     rw [hzv']; unfold cv
     split
     · split
       · simp only [AV.cells]; rename_i cs _; induction cs.toList with
         | nil => rfl
         | cons x l ih => simp only [List.map_cons, ClL, h1, Bool.true_and]; exact ih
       · rfl
     · have := h1 z
       revert this
       generalize cv0 z = y
       intro hy'
       cases y <;> simp_all [AV.cells, ClL, Cl]
   rw [hzv] at h2; simpa [ClL] using h2
 have hzR : ∀ (E1 : Env) (G1 : Heap), RelL E1 G1 (List.replicate m zv) (List.replicate m z0) := by
   intro E1 G1
   have hz1 : Rel E1 G1 zv z0 := by
     obtain ⟨hzr', _⟩ := (cv_rel (E := E1) (G := G1) z).cells (by rw [← hzv']; exact hok.zr)
     rw [← hzv', hzv, hz0] at hzr'
     obtain ⟨_, h1, h2⟩ := RelL.single hzr'
     simp at h1; rw [h1]; exact h2
   clear hbound hkm hy hyv hK
   induction m with
   | zero => exact RelL.nil
   | succ m ih => exact RelL.cons hz1 ih
 have hzO : Ones (List.replicate m z0) := fun v hv => by rw [List.eq_of_mem_replicate hv]; exact hzo z0 (by simp)
 have hm63 : IntKind.i64.wrap (m : Int) = m := by
   unfold IntKind.wrap
   have : ((m : Int)) % 18446744073709551616 = m := by omega
   show (if (true && decide ((m : Int) % 18446744073709551616 ≥ 9223372036854775808)) = true then (m : Int) % 18446744073709551616 - 18446744073709551616 else (m : Int) % 18446744073709551616) = m
   rw [this, Bool.true_and, if_neg (by simp; omega)]
 have hm48 : ¬ (281474976710656 < (m : Int) * (i.bytes : Int)) := by
   have h1 : m * by_ ≤ (k + m) * by_ := Nat.mul_le_mul_right _ (by omega)
   have h2 : ((m * by_ : Nat) : Int) = (m : Int) * (by_ : Int) := Int.natCast_mul _ _
   rw [hby]; omega
 have hm0 : ¬ ((m : Int) < 0) := by omega
 have hw0 : IntKind.i64.wrap 0 = 0 := rfl
 -- the location of the box
 have hbox := hheap.box n
 rw [hb] at hbox
 cases hE : E n with
 | none => rw [hE] at hbox; simp [BoxOk] at hbox
 | some l =>
   rw [hE] at hbox
   obtain ⟨hren, hrenx⟩ := hheap.rename hnm hlive hE
   rw [hb] at hren hrenx
   simp only [Rel] at hxv
   have grow : ∀ (olds : List Value) (cap : Nat), RelL E G cs olds → Ones olds → cap < k + m →
       (Builtin.append_ #[t, ti] o.type #[a.eval xo, a.eval yo]).run P w = .ok (.slice (some ⟨w.heap.size, 0, Option.none⟩) (k + m) (grownCap w (k + m) cap e))
         (w.drew.alloc (.cells (olds.toArray ++ (List.replicate m z0).toArray ++ Builtin.zeroCells z.cells (grownCap w (k + m) cap e - (k + m))) e)) → OpW P o a w K Q := by
     intro olds cap ho1 ho2 hcap hrun
     obtain ⟨G1, hG1, hok1, hext1, _, _⟩ := Go.AI.frz hheap (n := n) (cs := cs) (by rw [hb]; rfl)
     have hnm1 : upd bx n .gone nm = .none := by rw [upd_ne _ _ _ _ hne]; exact hnm
     have hge := grownCap_ge w (k + m) cap e
     have hle := grownCap_le_maxLen w (k + m) cap e (by simp only [maxLen]; omega)
     have hEnm : E nm = Option.none := hheap.none hnm
     have hE1 : EnvLe E (setE E nm (.buf w.heap.size 1 (grownCap w (k + m) cap e))) := setE_le hEnm
     have hbufok : BoxOk (setE E nm (.buf w.heap.size 1 (grownCap w (k + m) cap e))) G1
         (w.drew.alloc (.cells (olds.toArray ++ (List.replicate m z0).toArray ++ Builtin.zeroCells z.cells (grownCap w (k + m) cap e - (k + m))) e))
         (.buf 1 (cs ++ List.replicate m zv)) (some (.buf w.heap.size 1 (grownCap w (k + m) cap e))) := by
       simp only [BoxOk]
       refine ⟨trivial, olds ++ List.replicate m z0, (Builtin.zeroCells z.cells (grownCap w (k + m) cap e - (k + m))).toList, e, ?_, (ho1.mono hE1 hG1).append (hzR _ _), ho2.append hzO, ?_⟩
       · have h0 := heap_alloc_new w.drew (.cells (olds.toArray ++ (List.replicate m z0).toArray ++ Builtin.zeroCells z.cells (grownCap w (k + m) cap e - (k + m))) e)
         have h1 : (olds ++ List.replicate m z0 ++ (Builtin.zeroCells z.cells (grownCap w (k + m) cap e - (k + m))).toList).toArray = olds.toArray ++ (List.replicate m z0).toArray ++ Builtin.zeroCells z.cells (grownCap w (k + m) cap e - (k + m)) := by
           apply Array.ext'; simp
         rw [h1]
         exact h0
       · have h1 := ho1.length
         have h2 := size_zeroCells z.cells (grownCap w (k + m) cap e - (k + m))
         simp only [List.length_append, Array.length_toList, h1, hk, List.length_replicate, h2, hzs]
         omega
     obtain ⟨hok2, hext2⟩ := hok1.push (n := nm) (l := .buf w.heap.size 1 (grownCap w (k + m) cap e)) (bn := .buf 1 (cs ++ List.replicate m zv))
       (w' := w.drew.alloc (.cells (olds.toArray ++ (List.replicate m z0).toArray ++ Builtin.zeroCells z.cells (grownCap w (k + m) cap e - (k + m))) e)) hnm1 rfl ⟨_, _, rfl⟩ rfl rfl rfl rfl hbufok
     refine .inl ?_
     unfold Oper.wp
     rw [hexec _ hrun]
     simp only [Result.andThen_ok]
     refine hK _ _ _ _ ?_ hok2 (hext1.trans hext2)
     simp only [Rel]
     exact .inl ⟨w.heap.size, _, rfl, hge, by omega, .inl ⟨1, grownCap w (k + m) cap e, by simp [setE], by simp⟩⟩
   have hgrun : ∀ (base : Option Addr) (cap : Nat) (olds : List Value), m ≠ 0 → cap < k + m → (Builtin.firstCells 1 k (.slice base k cap)).run P w.drew = .ok olds.toArray w.drew →
       (Builtin.append_ #[t, ti] o.type #[.slice base k cap, .int .i64 (m : Int)]).run P w = .ok (.slice (some ⟨w.heap.size, 0, Option.none⟩) (k + m) (grownCap w (k + m) cap e))
         (w.drew.alloc (.cells (olds.toArray ++ (List.replicate m z0).toArray ++ Builtin.zeroCells z.cells (grownCap w (k + m) cap e - (k + m))) e)) := by
     intro base cap olds hmz hcap hfc
     have hn : ¬ (k + m ≤ cap) := by omega
     have h63' : ¬ (9223372036854775807 < ((k : Int) + (m : Int))) := by omega
     have hfit : Builtin.nextslicecap (k + m) cap * i.bytes ≤ 281474976710656 := growslice_fits (by omega) (by rw [hby]; exact hbound)
     have h48' : ¬ (281474976710656 < Builtin.nextslicecap (k + m) cap * i.bytes) := by omega
     simp [Builtin.append_, AI.run_underlying hu, AI.run_underlying hti', AI.run_sizeOf htde, typeInfo, zeroValue, hi, hz, asInt, asIntOf, hm63, hm48, hm0, hn, h63', h48', Question.forced, newRow, grownCap, hok.sz, hfc, hmz, hzc, zeroCells_one]
   rcases hxv with ⟨blk, cap, hxe, hkc, hk63, hloc⟩ | ⟨hnil, _, hk0, a0, hxe⟩
   · have hlb : ∃ tot, l = .buf blk 1 tot ∧ cap = tot := by
       rcases hloc with ⟨s', tot, h1, h2⟩ | h1
       · rw [hE] at h1; simp only [Option.some.injEq] at h1; subst h1
         simp only [BoxOk] at hbox
         obtain ⟨h0, _⟩ := hbox
         subst h0
         exact ⟨tot, rfl, by simpa using h2⟩
       · rw [hE] at h1; simp only [Option.some.injEq] at h1; subst h1
         simp [BoxOk] at hbox
     obtain ⟨tot, rfl, rfl⟩ := hlb
     simp only [BoxOk] at hbox
     obtain ⟨_, vs, rest, T, hh, hrel, hones, hlen⟩ := hbox
     have hvl := hrel.length
     by_cases hroom : k + m ≤ cap
     · have hst := run_storeCells_at P blk k T (List.replicate m z0) 0 (vs ++ rest).toArray w hh (by simp at hlen ⊢; omega) hzO
       simp only [Nat.add_zero] at hst
       have hsplit : (vs ++ rest).take k ++ List.replicate m z0 ++ (vs ++ rest).drop (k + (List.replicate m z0).length) = (vs ++ List.replicate m z0) ++ rest.drop m := by
         rw [List.take_append_of_le_length (by omega), List.take_of_length_le (by omega), List.drop_append, List.drop_of_length_le (by omega)]
         simp
         congr 1
         omega
       have hrun : (Builtin.append_ #[t, ti] o.type #[a.eval xo, a.eval yo]).run P w = .ok (.slice (some ⟨blk, 0, Option.none⟩) (k + m) cap)
           (w.setRow blk ((vs ++ List.replicate m z0) ++ rest.drop m).toArray) := by
         rw [hxe, hyv, ← hsplit]
         by_cases hmz : m = 0
         · subst hmz
           simp [Builtin.append_, AI.run_underlying hu, AI.run_underlying hti', AI.run_sizeOf htde, typeInfo, zeroValue, hi, hz, asInt, asIntOf, hm63, hm48, hm0, hw0, hkc, hok.sz, addr_add, storeCells] at hst ⊢
           exact hst
         · simp [Builtin.append_, AI.run_underlying hu, AI.run_underlying hti', AI.run_sizeOf htde, typeInfo, zeroValue, hi, hz, asInt, asIntOf, hm63, hm48, hm0, hroom, hok.sz, addr_add, hmz, hzc, zeroCells_one] at hst ⊢
           rw [hst]; simp
       have hEnm : E nm = Option.none := hheap.none hnm
       have hE1 := setE_le (l := .buf blk 1 cap) hEnm
       obtain ⟨hok2, hext2⟩ := hren.set (n := nm) (blk := blk) (l := .buf blk 1 cap) (arr := ((vs ++ List.replicate m z0) ++ rest.drop m).toArray) (c' := .buf 1 (cs ++ List.replicate m zv))
         (by simp [Box.live]) rfl (by simp [setE]) rfl (by
           simp only [BoxOk]
           refine ⟨trivial, vs ++ List.replicate m z0, rest.drop m, T, setRow_heap w blk _ _ T (0, 0) hh, (RelL.mono hE1 (.refl _) _ _ hrel).append (hzR _ _), hones.append hzO, ?_⟩
           simp at hlen ⊢; omega)
       rw [upd_upd] at hok2 hext2
       refine .inl ?_
       unfold Oper.wp
       rw [hexec _ hrun]
       simp only [Result.andThen_ok]
       refine hK _ _ _ G ?_ hok2 (hrenx.trans hext2)
       simp only [Rel]
       exact .inl ⟨blk, cap, rfl, hroom, by omega, .inl ⟨1, cap, by simp [setE], by simp⟩⟩
     · refine grow vs cap hrel hones (by omega) ?_
       rw [hxe, hyv]
       exact hgrun _ cap vs (by omega) (by omega) (run_firstCells_some (P := P) w.drew 1 k ⟨blk, 0, Option.none⟩ k cap vs (by omega) (fun j v hj => by rw [addr_add]; simpa using cells_of_heap hh j v hj))
   · rw [hE] at hnil; simp only [Option.some.injEq] at hnil; subst hnil
     subst hk0
     simp only [BoxOk] at hbox
     subst hbox
     by_cases hmz : m = 0
     · subst hmz
       have hrun : (Builtin.append_ #[t, ti] o.type #[a.eval xo, a.eval yo]).run P w = .ok (.slice a0 0 0) w := by
         rw [hxe, hyv]
         cases a0 <;> simp [Builtin.append_, AI.run_underlying hu, AI.run_underlying hti', AI.run_sizeOf htde, typeInfo, hi, asInt, asIntOf, hm63, hm48, hw0, hok.sz, storeCells]
       refine .inl ?_
       unfold Oper.wp
       rw [hexec _ hrun]
       simp only [Result.andThen_ok]
       refine hK _ w _ G ?_ (by simpa using hren) (by simpa using hrenx)
       simp only [Rel, Nat.add_zero]
       exact .inr ⟨by simp [setE], trivial, trivial, a0, rfl⟩
     · refine grow [] 0 RelL.nil (fun v hv => by simp at hv) (by omega) ?_
       rw [hxe, hyv]
       refine hgrun _ 0 [] hmz (by omega) ?_
       cases a0 <;> simp [Builtin.firstCells, loadCells, loadCellsFrom]
end
section
variable {P : Program} {ops : Array Oper} {cf : Oper → Cls} {l : List Oper} {i nx : Nat} {tm : Nat → AV} {bx : Nat → Box} {Q : (Nat → AV) → (Nat → Box) → Prop} {o : Oper}
theorem RunQ.callT (nm : Nat) {c : Call} {fo : Operand} {f : FuncId} {caps args rs : List AV} {n s : Nat} {cs : List AV} (hop : o.op = .call c) (hc : c.callee = .value fo) (hcf : cf o = .w) (hw : wantedA ops tm o = some true)
   (hf : evA tm fo = .fn f caps) (ha : LeL (c.args.toList.map (evA tm) ++ caps) args) (h : FnT P f args n s cs rs) (hcl : ClL args = true) (hcs : ClL cs = true) (hrs : ClL rs = true) (hnm : bx nm = .none)
   (t : RunQ P ops cf l (i + 1) (putA tm o.dst (.tup (.msl nm 0 n :: rs))) (upd bx nm (.buf s cs)) nx Q) : RunQ P ops cf (o :: l) i tm bx nx Q :=
 RunQ.mem hw hcf (Mems.callT hop hc hf ha h hcl hcs hrs hnm) t
theorem RunQ.appendZ {c : Call} {t ti e : TypeId} {xo yo : Operand} {n by_ k m : Nat} {kk : IntKind} {zv : AV} {cs : List AV} (nm : Nat) (hok : AppOk P t e 1 by_) (ho : o.op = .call c) (hc : c.callee = .builtin .append)
   (hat : c.argTypes = #[t, ti]) (harg : c.args = #[xo, yo]) (hti : td P ti = .int kk) (hzv : (zr P e).cells = [zv]) (hx : evA tm xo = .msl n 0 k) (hy : evA tm yo = .int .i64 (m : Int)) (hb : bx n = .buf 1 cs) (hw : wantedA ops tm o = some true) (hcf : cf o = .w)
   (hk : cs.length = k) (hbound : (k + m) * by_ ≤ 140737488355328) (hnm : bx nm = .none)
   (h : RunQ P ops cf l (i + 1) (putA tm o.dst (.msl nm 0 (k + m))) (upd (upd bx n .gone) nm (.buf 1 (cs ++ List.replicate m zv))) nx Q) : RunQ P ops cf (o :: l) i tm bx nx Q :=
 RunQ.mem hw hcf (Mems.appendZ ho hc hat harg hok hti hzv hx hy hb hk hbound hnm) h
end
end Go.AI
end

section
namespace Go.AI
section
variable {P : Program} {ops : Array Oper} {C : Ctx} {l : List Oper} {i nx : Nat} {tm : Nat → AV} {bx : Nat → Box} {cs : List Cls} {Q : (Nat → AV) → (Nat → Box) → List Cls → Prop} {o : Oper}
def RunX (P : Program) (ops : Array Oper) (l : List Oper) (i : Nat) (tm : Nat → AV) (bx : Nat → Box) (nx : Nat) (cs : List Cls) (Q : (Nat → AV) → (Nat → Box) → List Cls → Prop) : Prop :=
 ops.toList.drop i = l → ∃ (L : List (Nat × Cls)) (s : St), L.map (·.1) = List.range' i l.length ∧ ChainC P ops L ⟨tm, bx, nx⟩ s ∧ Q s.tm s.bx ((L.map (·.2)).reverse ++ cs)
theorem RunX.nil (h : Q tm bx cs) : RunX P ops [] i tm bx nx cs Q := fun _ => ⟨[], ⟨tm, bx, nx⟩, rfl, .nil, by simpa using h⟩
theorem RunX.consC {x : AV} {bx' : Nat → Box} (c : Cls) (h : ops[i]? = some o → StepC P ops i c ⟨tm, bx, nx⟩ ⟨putA tm o.dst x, bx', nx⟩)
   (t : RunX P ops l (i + 1) (putA tm o.dst x) bx' nx (c :: cs) Q) : RunX P ops (o :: l) i tm bx nx cs Q := by
 intro hl
 obtain ⟨h1, h2⟩ := drop_head hl
 obtain ⟨L, s, e1, e3, e4⟩ := t h2
 exact ⟨(i, c) :: L, s, by simp [e1, List.range'_succ], .cons (h h1) e3, by simpa using e4⟩
def RunY (P : Program) (ops : Array Oper) (nx : Nat) (Q : (Nat → AV) → (Nat → Box) → List Cls → Prop) : List Oper → Nat → (Nat → AV) → (Nat → Box) → List Cls → Prop
 | [], _, tm, bx, cs => Q tm bx cs
 | o :: l, i, tm, bx, cs => match o.guard with
   | some _ => RunX P ops (o :: l) i tm bx nx cs Q
   | none => match memF P (nx + i) o.op tm bx with
     | some (c, x, bx') => RunY P ops nx Q l (i + 1) (putA tm o.dst x) bx' (c :: cs)
     | none => RunX P ops (o :: l) i tm bx nx cs Q
theorem stepF_cls {n : Nat} {bx' : Nat → Box} {c : Cls} {x : AV} (h : stepF P ops n o tm bx = some (c, x, bx')) : clsLe c c = true := by
 unfold stepF at h
 split at h
 · cases h
 · simp only [Option.some.injEq, Prod.mk.injEq] at h; rw [← h.1]; rfl
 · rcases memF_sound h with ⟨rfl, _⟩ | ⟨m, rfl, _⟩ | ⟨m, b', rfl, _⟩ <;> simp [clsLe]
theorem RunX.e : ∀ {l : List Oper} {i : Nat} {tm : Nat → AV} {bx : Nat → Box} {cs : List Cls}, RunY P ops nx Q l i tm bx cs → RunX P ops l i tm bx nx cs Q
 | [], i, tm, bx, cs, h => .nil h
 | o :: l, i, tm, bx, cs, h => by
   simp only [RunY] at h
   split at h
   · exact h
   · rename_i hg
     split at h
     · rename_i c x bx' hs
       have hs' : stepF P ops (nx + i) o tm bx = some (c, x, bx') := by
         unfold stepF wantedA; rw [hg]; exact hs
       exact .consC c (fun ho => stepF_sound (st := ⟨tm, bx, nx⟩) ho hs' (stepF_cls hs')) (RunX.e h)
     · exact h
def RunXW (P : Program) (ops : Array Oper) (l : List Oper) (i : Nat) (tm : Nat → AV) (bx : Nat → Box) (nx : Nat) (cs : List Cls) (Q : (Nat → AV) → (Nat → Box) → List Cls → Prop) (o : Oper) : Prop :=
 wantedA ops tm o = some true → RunX P ops l i tm bx nx cs Q
def RunYW (P : Program) (ops : Array Oper) (nx : Nat) (Q : (Nat → AV) → (Nat → Box) → List Cls → Prop) (o : Oper) (l : List Oper) (i : Nat) (tm : Nat → AV) (bx : Nat → Box) (cs : List Cls) : Prop :=
 match memF P (nx + i) o.op tm bx with
 | some (c, x, bx') => RunY P ops nx Q l (i + 1) (putA tm o.dst x) bx' (c :: cs)
 | none => RunXW P ops (o :: l) i tm bx nx cs Q o
theorem RunX.gd {j t : Nat} {want : Bool} (hg : o.guard = some (j, want)) (ht : (ops[j]?).bind (·.dst) = some t)
   (h : GuardQ (tm t) want (RunYW P ops nx Q o l i tm bx cs) (RunY P ops nx Q l (i + 1) (putA tm o.dst (.tup [])) bx (.p :: cs))) : RunX P ops (o :: l) i tm bx nx cs Q := by
 have skip : wantedA ops tm o = some false → RunY P ops nx Q l (i + 1) (putA tm o.dst (.tup [])) bx (.p :: cs) → RunX P ops (o :: l) i tm bx nx cs Q := fun hw hh =>
   .consC .p (fun ho => .skip ho hw) (RunX.e hh)
 have go : wantedA ops tm o = some true → RunYW P ops nx Q o l i tm bx cs → RunX P ops (o :: l) i tm bx nx cs Q := fun hw hh => by
   unfold RunYW at hh
   split at hh
   · rename_i c x bx' hs
     have hs' : stepF P ops (nx + i) o tm bx = some (c, x, bx') := by unfold stepF; rw [hw]; exact hs
     exact .consC c (fun ho => stepF_sound (st := ⟨tm, bx, nx⟩) ho hs' (stepF_cls hs')) (RunX.e hh)
   · exact hh hw
 unfold GuardQ at h
 split at h
 · rename_i b hb
   have hw : wantedA ops tm o = some (b == want) := by unfold wantedA; rw [hg]; simp only [ht, hb]
   cases hk : b == want
   · rw [hk] at hw; exact skip hw (h.f hk)
   · rw [hk] at hw; exact go hw (h.t hk)
 · rename_i vs hb
   exact skip (by unfold wantedA; rw [hg]; simp only [ht, hb]) h
 · exact h.elim
theorem RunX.call {c : Call} {fo : Operand} {f : FuncId} {caps args : List AV} {r : AV} (hop : o.op = .call c) (hc : c.callee = .value fo) (hg : o.guard = none)
   (hf : evA tm fo = .fn f caps) (ha : LeL (c.args.toList.map (evA tm) ++ caps) args) (h : FnP P f args r) (hcl : ClL args = true)
   (t : RunX P ops l (i + 1) (putA tm o.dst r) bx nx (.p :: cs) Q) : RunX P ops (o :: l) i tm bx nx cs Q :=
 .consC .p (fun ho => StepC.ofP (fun n e => by cases e) ho (by simp [wantedA, hg]) fun b => Mems.call hop hc hf ha h hcl) t
theorem RunXW.call {c : Call} {fo : Operand} {f : FuncId} {caps args : List AV} {r : AV} (hop : o.op = .call c) (hc : c.callee = .value fo)
   (hf : evA tm fo = .fn f caps) (ha : LeL (c.args.toList.map (evA tm) ++ caps) args) (h : FnP P f args r) (hcl : ClL args = true)
   (t : RunX P ops l (i + 1) (putA tm o.dst r) bx nx (.p :: cs) Q) : RunXW P ops (o :: l) i tm bx nx cs Q o := fun hw =>
 .consC .p (fun ho => StepC.ofP (fun n e => by cases e) ho hw fun b => Mems.call hop hc hf ha h hcl) t
theorem WK.rX {id n : Nat} {k : List Item} (hm : P.follows .mixedOrders = true) (hn : C.fn.ntmps = n) (hd : dstB n ops = true)
   (h : ∀ A, Hid (A = ops) → ∀ Q : (Nat → AV) → (Nat → Box) → List Cls → Prop, Hid (∀ tm bx cs, drawOk ops cs.reverse = true → WK P C k ⟨tm, bx, nx + 100⟩ → Q tm bx cs) → RunY P A nx Q ops.toList 0 tm bx []) :
   WK P C (.code (.region id ops true) :: k) ⟨tm, bx, nx⟩ := by
 obtain ⟨L, s, e1, e3, hok, e4⟩ := RunX.e (h _ ⟨rfl⟩ (fun tm bx cs => drawOk ops cs.reverse = true ∧ WK P C k ⟨tm, bx, nx + 100⟩) ⟨fun _ _ _ h1 h2 => ⟨h1, h2⟩⟩) rfl
 simp only [List.append_nil, List.reverse_reverse] at hok
 refine WK.draw (cls := L.map (·.2)) (s' := s) hm (dstB_ok (hn ▸ hd)) (dstB_nd hd) hok ?_ (WK.anyNx e4)
 have : (List.range ops.size).zip (L.map (·.2)) = L := by
   rw [List.range_eq_range', ← Array.length_toList, ← e1]
   clear e1 e3 hok
   induction L with
   | nil => rfl
   | cons x L ih => simp [ih]
 rw [this]
 exact e3
end
attribute [simp] RunY RunYW
end Go.AI
end

section
namespace Go.AI
section
variable {P : Program} {ops : Array Oper} {l : List Oper} {i nx : Nat} {tm : Nat → AV} {bx : Nat → Box} {cs : List Cls} {Q : (Nat → AV) → (Nat → Box) → List Cls → Prop} {o : Oper}
theorem RunX.callO (nm : Nat) {c : Call} {fo : Operand} {f : FuncId} {caps args : List AV} {n s : Nat} {ds : List AV} (hop : o.op = .call c) (hc : c.callee = .value fo) (hw : wantedA ops tm o = some true)
   (hf : evA tm fo = .fn f caps) (ha : LeL (c.args.toList.map (evA tm) ++ caps) args) (h : FnO P f args n s ds) (hcl : ClL args = true) (hcs : ClL ds = true) (hnm : bx nm = .none)
   (t : RunX P ops l (i + 1) (putA tm o.dst (.msl nm 0 n)) (upd bx nm (.buf s ds)) nx (.wn nm :: cs) Q) : RunX P ops (o :: l) i tm bx nx cs Q :=
 .consC (.wn nm) (fun ho => .ofWn ho hw fun b hb => Mems.callO hop hc hf ha h hcl hcs (by rw [hb]; exact hnm)) t
end
section
variable {P : Program} {ops : Array Oper} {cf : Oper → Cls} {l : List Oper} {i nx : Nat} {tm : Nat → AV} {bx : Nat → Box} {Q : (Nat → AV) → (Nat → Box) → Prop} {o : Oper}
theorem frzρ {n k t s : Nat} {cs : List AV} (ht : tm t = .msl n 0 k) (y : Operand) : evA (upd tm t (.sl false k (cs.take (k * s)))) y = evA tm y ∨
   (∃ off, evA tm y = .ptr n off ∧ evA (upd tm t (.sl false k (cs.take (k * s)))) y = .iptr (cs.drop off)) ∨ ∃ k' s', evA tm y = .msl n 0 k' ∧ evA (upd tm t (.sl false k (cs.take (k * s)))) y = .sl false k' (cs.take (k' * s')) := by
 cases y with
 | tmp j =>
   by_cases hj : j = t
   · subst hj; exact .inr (.inr ⟨k, s, ht, by simp⟩)
   · left; simp [upd_ne _ _ _ _ hj]
 | const v => exact .inl rfl
 | global g => exact .inl rfl
 | func g => exact .inl rfl
theorem RunQ.appendFz {c : Call} {t e : TypeId} {xo : Operand} {y n n2 s by_ k m : Nat} {cs ds : List AV} (nm : Nat) (hok : AppOk P t e s by_) (ho : o.op = .call c) (hc : c.callee = .builtin .append)
   (hat : c.argTypes = #[t, t]) (harg : c.args = #[xo, .tmp y]) (hx : evA (upd tm y (.sl false m (ds.take (m * s)))) xo = .msl n 0 k) (hy : tm y = .msl n2 0 m) (hb2 : (bx n2).cells? = some ds) (hb : upd bx n2 .gone n = .buf s cs) (hw : wantedA ops tm o = some true) (hcf : cf o = .w) (hk : cs.length = k * s)
   (hm : ds.length = m * s) (hbound : (k + m) * by_ ≤ 140737488355328) (hnm : bx nm = .none) (hne : nm ≠ n2)
   (h : RunQ P ops cf l (i + 1) (putA tm o.dst (.msl nm 0 (k + m))) (upd (upd (upd bx n2 .gone) n .gone) nm (.buf s (cs ++ ds))) nx Q) : RunQ P ops cf (o :: l) i tm bx nx Q := by
 have hT : (ds.take (m * s)).take (m * s) = ds := by rw [List.take_take, Nat.min_self, List.take_of_length_le (by omega)]
 have h1 := Mems.append (P := P) (ρ := evA (upd tm y (.sl false m (ds.take (m * s))))) (bx := upd bx n2 .gone) (nm := nm) ho hc hat harg hok hx (show evA (upd tm y (.sl false m (ds.take (m * s)))) (.tmp y) = .sl false m (ds.take (m * s)) by simp) hb hk (by rw [List.length_take]; omega) hbound (by rw [upd_ne _ _ _ _ hne]; exact hnm)
 rw [hT] at h1
 exact RunQ.mem hw hcf (Mems.frz hb2 (frzρ hy) h1) h
end
theorem FnT.toP {P : Program} {f : FuncId} {args rs : List AV} {n s : Nat} {cs : List AV} (h : FnT P f args n s cs rs) (hcl : ClL (cs.take (n * s)) = true) (hrs : ClL rs = true) : FnP P f args (.tup (.sl false n (cs.take (n * s)) :: rs)) := by
 refine ⟨h.1, fun w G vs hg hr => ?_⟩
 refine Calls.mono (h.2 w G vs hg hr) fun e w' he => ?_
 obtain ⟨v, G', E', rfl, hx, hok, hext⟩ := he
 obtain ⟨G'', h1, h2, h3, _, h4⟩ := Go.AI.frz hok (n := 0) (cs := cs) (by simp [Box.cells?])
 simp only [Rel] at hx
 obtain ⟨us, rfl, hx⟩ := hx
 simp only [RelL] at hx
 obtain ⟨v0, vs', rfl, hx0, hx1⟩ := hx
 have h5 := h4 0 n s v0 (by simpa only [Rel] using hx0) (.inr rfl)
 simp only [List.drop_zero] at h5
 have hx2 := hext.trans h3
 refine ⟨_, G'', rfl, ?_, h2.gw, ⟨hx2.os, hx2.tape, hx2.output, hx2.fz, hx2.size, .refl _, hx2.heap, hx2.frame, fun b hb => absurd hb (Live_B0 _ _)⟩⟩
 simp only [Rel]
 exact ⟨v0 :: vs', rfl, RelL.cons (Rel.closed (E := E') _ _ (by simpa [Cl] using hcl) h5) (RelL.closed _ _ hrs (RelL.mono (.refl _) h1 _ _ hx1))⟩
end Go.AI
namespace Go.AI
section
variable {P : Program} {ops : Array Oper} {l : List Oper} {i nx : Nat} {tm : Nat → AV} {bx : Nat → Box} {cl : List Cls} {Q : (Nat → AV) → (Nat → Box) → List Cls → Prop} {o : Oper}
theorem StepC.ofWl {st : St} {L : List Nat} {x : AV} (g : Nat → Box) (ho : ops[i]? = some o) (hw : wantedA ops st.tm o = some true)
   (h : ∀ b : Nat → Box, (∀ n, n ∈ L → b n = st.bx n) → Mems P (evA st.tm) b o x (fun n => if n ∈ L then g n else b n)) : StepC P ops i (.wl L) st ⟨putA st.tm o.dst x, fun n => if n ∈ L then g n else st.bx n, st.nx⟩ :=
 .run (fun b n => if n ∈ L then g n else b n) ho hw ⟨g, fun _ => rfl⟩ fun b hb => h b hb
theorem two_upd (b : Nat → Box) (n m : Nat) (x y : Box) : (fun k => if k ∈ [n, m] then upd (upd b n x) m y k else b k) = upd (upd b n x) m y := by
 funext k
 by_cases h1 : k = m
 · subst h1; simp
 · by_cases h2 : k = n
   · subst h2; simp
   · simp [h1, h2]
theorem RunX.two {x : AV} {n m : Nat} {u v : Box} (hw : wantedA ops tm o = some true) (h : ∀ b : Nat → Box, b n = bx n → b m = bx m → Mems P (evA tm) b o x (upd (upd b n u) m v))
   (t : RunX P ops l (i + 1) (putA tm o.dst x) (upd (upd bx n u) m v) nx (.wl [n, m] :: cl) Q) : RunX P ops (o :: l) i tm bx nx cl Q := by
 refine .consC (.wl [n, m]) (fun ho => ?_) t
 have := StepC.ofWl (P := P) (st := ⟨tm, bx, nx⟩) (L := [n, m]) (x := x) (upd (upd bx n u) m v) ho hw (fun b hb => by
   have e : (fun k => if k ∈ [n, m] then upd (upd bx n u) m v k else b k) = upd (upd b n u) m v := by
     rw [← two_upd b n m u v]; funext k; by_cases hk : k ∈ [n, m]
     · simp only [hk, if_true]; unfold upd; simp at hk; rcases hk with rfl | rfl <;> simp
     · simp [hk]
   rw [e]; exact h b (hb n (by simp)) (hb m (by simp)))
 rwa [two_upd] at this
theorem RunX.one {x : AV} {n : Nat} {u : Box} (hw : wantedA ops tm o = some true) (h : ∀ b : Nat → Box, b n = bx n → Mems P (evA tm) b o x (upd b n u))
   (t : RunX P ops l (i + 1) (putA tm o.dst x) (upd bx n u) nx (.wn n :: cl) Q) : RunX P ops (o :: l) i tm bx nx cl Q :=
 .consC (.wn n) (fun ho => .ofWn ho hw h) t
theorem RunX.append {c : Call} {t e : TypeId} {xo yo : Operand} {n s by_ k m : Nat} {fl : Bool} {cs ds : List AV} (nm : Nat) (hok : AppOk P t e s by_) (ho : o.op = .call c) (hc : c.callee = .builtin .append)
   (hat : c.argTypes = #[t, t]) (harg : c.args = #[xo, yo]) (hx : evA tm xo = .msl n 0 k) (hy : evA tm yo = .sl fl m ds) (hb : bx n = .buf s cs) (hw : wantedA ops tm o = some true) (hk : cs.length = k * s)
   (hm : m * s ≤ ds.length) (hbound : (k + m) * by_ ≤ 140737488355328) (hnm : bx nm = .none)
   (h : RunX P ops l (i + 1) (putA tm o.dst (.msl nm 0 (k + m))) (upd (upd bx n .gone) nm (.buf s (cs ++ ds.take (m * s)))) nx (.wl [n, nm] :: cl) Q) : RunX P ops (o :: l) i tm bx nx cl Q :=
 RunX.two hw (fun b h1 h2 => Mems.append ho hc hat harg hok hx hy (h1.trans hb) hk hm hbound (h2.trans hnm)) h
theorem RunX.callOz {c : Call} {fo : Operand} {f : FuncId} {caps args : List AV} {n k n' s' : Nat} {cs cs' : List AV} (nm t s : Nat) (hop : o.op = .call c) (hc : c.callee = .value fo) (hg : wantedA ops tm o = some true)
   (ht : tm t = .msl n 0 k) (hb : (bx n).cells? = some cs) (hf : evA (upd tm t (.sl false k (cs.take (k * s)))) fo = .fn f caps)
   (ha : LeL (c.args.toList.map (evA (upd tm t (.sl false k (cs.take (k * s))))) ++ caps) args) (h : FnO P f args n' s' cs') (hcl : ClL args = true) (hcs : ClL cs' = true) (hnm : bx nm = .none) (hne : nm ≠ n)
   (hk : RunX P ops l (i + 1) (putA tm o.dst (.msl nm 0 n')) (upd (upd bx n .gone) nm (.buf s' cs')) nx (.wl [n, nm] :: cl) Q) : RunX P ops (o :: l) i tm bx nx cl Q :=
 RunX.two hg (fun b h1 h2 => Mems.frz (by rw [h1]; exact hb) (frzρ ht) (Mems.callO hop hc hf ha h hcl hcs (by rw [upd_ne _ _ _ _ hne]; exact h2.trans hnm))) hk
end
end Go.AI
end

namespace Go.AI
def BufLe (b : Box) (s : Nat) (cs : List AV) : Prop := match b with | .buf s' c0 => s' = s ∧ LeL c0 cs | _ => False
def RetT (bx : Nat → Box) (n s : Nat) (cs rs : List AV) : List AV → Prop
 | .msl m 0 n' :: y :: ys => n' = n ∧ BufLe (bx m) s cs ∧ LeL (y :: ys) rs
 | _ => False
theorem WK.retT2 {P : Program} {G : Heap} {w : World} {st : St} {f : FuncId} {fn : Func} {ms : List Nat} {kp : List (Nat × Obj)} {n s : Nat} {cs rs : List AV} {k : List Item} (hfn : P.funcs[f]? = some fn)
   (h : match resL P st fn.results.toList with | some xs => RetT st.bx n s cs rs xs | none => False) (hcl : ClL cs = true) (hcr : ClL rs = true) :
   WK P (CtxX f fn ms kp [] B0 E0 G w (.tup (.msl 0 0 n :: rs)) (upd B0 0 (.buf s cs))) (.code .ret :: k) st := by
 cases hx : resL P st fn.results.toList with
 | none => simp [hx] at h
 | some xs =>
   rw [hx] at h
   simp only at h
   unfold RetT at h
   split at h
   · rename_i m n' y ys
     obtain ⟨h1, h2, h3⟩ := h
     unfold BufLe at h2
     split at h2
     · rename_i s' c0 hb
       obtain ⟨rfl, h2⟩ := h2
       exact WK.retT hfn hx (by simp) hb h1 h2 h3 hcl hcr
     · exact h2.elim
   · exact h.elim
attribute [simp] BufLe RetT
end Go.AI

section
namespace Go.AI
open Go
section
variable {κ : Type} [DecidableEq κ]
def mpFrom (kv : κ → Value) : Nat → List (κ × Int) → List MapEntry
 | _, [] => []
 | i, x :: t => { key := kv x.1, val := .int .i64 x.2, born := i } :: mpFrom kv (i + 1) t
def mpObjK (kv : κ → Value) (c : Nat) (es : List (κ × Int)) : Obj := .map (mpFrom kv c es).toArray (c + es.length)
def mpLook : List (κ × Int) → κ → Option (Nat × Int)
 | [], _ => none
 | x :: t, k => if k = x.1 then some (0, x.2) else (mpLook t k).map fun x => (x.1 + 1, x.2)
def mpVal (es : List (κ × Int)) (k : κ) : Int := match mpLook es k with | some (_, v) => v | none => 0
def mpPut : List (κ × Int) → κ → Int → List (κ × Int)
 | [], k, v => [(k, v)]
 | x :: t, k, v => if k = x.1 then (x.1, v) :: t else x :: mpPut t k v
variable {kv : κ → Value}
omit [DecidableEq κ] in
theorem mpFrom_len (es : List (κ × Int)) : ∀ i, (mpFrom kv i es).length = es.length := by
 induction es with
 | nil => intro i; rfl
 | cons x t ih => intro i; simp [mpFrom, ih]
omit [DecidableEq κ] in
theorem mpFrom_get (es : List (κ × Int)) : ∀ (i j : Nat) (h : j < es.length), (mpFrom kv i es)[j]? = some { key := kv es[j].1, val := .int .i64 es[j].2, born := i + j } := by
 induction es with
 | nil => intro i j h; simp at h
 | cons x t ih =>
   intro i j h
   cases j with
   | zero => simp [mpFrom]
   | succ j =>
     simp only [mpFrom, List.getElem?_cons_succ, List.getElem_cons_succ]
     rw [ih (i + 1) j (by simpa using h)]
     simp; omega
omit [DecidableEq κ] in
theorem mpFrom_app (es : List (κ × Int)) (k : κ) (v : Int) : ∀ i, mpFrom kv i (es ++ [(k, v)]) = mpFrom kv i es ++ [{ key := kv k, val := .int .i64 v, born := i + es.length }] := by
 induction es with
 | nil => intro i; rfl
 | cons x t ih => intro i; simp only [List.cons_append, mpFrom, ih, List.length_cons, List.cons.injEq, true_and, List.append_cancel_left_eq, MapEntry.mk.injEq, and_true]; omega
theorem mpLook_some {es : List (κ × Int)} {k : κ} {v : Int} {j : Nat} (h : mpLook es k = some (j, v)) : ∃ hj : j < es.length, es[j] = (k, v) := by
 induction es generalizing j with
 | nil => simp [mpLook] at h
 | cons x t ih =>
   rw [mpLook] at h
   split at h
   · rename_i e
     simp only [Option.some.injEq, Prod.mk.injEq] at h
     obtain ⟨rfl, rfl⟩ := h
     exact ⟨by simp, by simp [e]⟩
   · cases hl : mpLook t k with
     | none => simp [hl] at h
     | some q =>
       obtain ⟨q1, q2⟩ := q
       simp only [hl, Option.map_some, Option.some.injEq, Prod.mk.injEq] at h
       obtain ⟨rfl, rfl⟩ := h
       obtain ⟨hj, e⟩ := ih hl
       exact ⟨by simpa using hj, by simpa using e⟩
theorem mpLook_put (es : List (κ × Int)) (k : κ) (v : Int) : ∀ j, mpLook (mpPut es k v) j = if j = k then (some (match mpLook es k with | some (p, _) => p | none => es.length, v)) else mpLook es j := by
 induction es with
 | nil => intro j; simp [mpPut, mpLook]
 | cons x t ih =>
   intro j
   simp only [mpPut, mpLook]
   by_cases h : k = x.1
   · rw [if_pos h, if_pos h]
     simp only [mpLook]
     by_cases hj : j = x.1
     · rw [if_pos hj, if_pos (hj.trans h.symm)]
     · rw [if_neg hj, if_neg (fun e => hj (e.trans h)), if_neg hj]
   · rw [if_neg h, if_neg h]
     simp only [mpLook, ih]
     by_cases hj : j = x.1
     · rw [if_pos hj, if_neg (fun e => h (e.symm.trans hj)), if_pos hj]
     · rw [if_neg hj, if_neg hj]
       by_cases hk : j = k
       · rw [if_pos hk, if_pos hk]
         cases mpLook t k <;> rfl
       · rw [if_neg hk, if_neg hk]
theorem mpVal_put (es : List (κ × Int)) (k : κ) (v : Int) (j : κ) : mpVal (mpPut es k v) j = if j = k then v else mpVal es j := by
 unfold mpVal
 rw [mpLook_put]
 by_cases h : j = k
 · rw [if_pos h, if_pos h]
 · rw [if_neg h, if_neg h]
theorem mpVal_nil (k : κ) : mpVal [] k = 0 := rfl
theorem mpPut_some {es : List (κ × Int)} {k : κ} {v u : Int} {j : Nat} (h : mpLook es k = some (j, u)) : mpPut es k v = es.modify j fun x => (x.1, v) := by
 induction es generalizing j with
 | nil => simp [mpLook] at h
 | cons x t ih =>
   rw [mpLook] at h
   rw [mpPut]
   split at h
   · rename_i e
     simp only [Option.some.injEq, Prod.mk.injEq] at h
     rw [if_pos e, ← h.1]; rfl
   · rename_i e
     cases hl : mpLook t k with
     | none => simp [hl] at h
     | some q =>
       obtain ⟨q1, q2⟩ := q
       simp only [hl, Option.map_some, Option.some.injEq, Prod.mk.injEq] at h
       obtain ⟨rfl, rfl⟩ := h
       rw [if_neg e, ih hl, List.modify_succ_cons]
theorem mpPut_none {es : List (κ × Int)} {k : κ} {v : Int} (h : mpLook es k = none) : mpPut es k v = es ++ [(k, v)] := by
 induction es with
 | nil => rfl
 | cons x t ih =>
   rw [mpLook] at h
   rw [mpPut]
   split at h
   · cases h
   · rename_i e
     rw [if_neg e, ih (by simpa using h)]; rfl
def mpSeen (ks : List κ) : List (κ × Int) := ks.foldl (fun es k => mpPut es k (mpVal es k + 1)) []
theorem mpSeen_snoc (ks : List κ) (k : κ) : mpSeen (ks ++ [k]) = mpPut (mpSeen ks) k (mpVal (mpSeen ks) k + 1) := by unfold mpSeen; rw [List.foldl_append]; rfl
theorem mpSeen_val (ks : List κ) (j : κ) : mpVal (mpSeen ks) j = (ks.count j : Nat) := by
 have key : ∀ (ks : List κ) (es : List (κ × Int)), mpVal (ks.foldl (fun es k => mpPut es k (mpVal es k + 1)) es) j = mpVal es j + (ks.count j : Nat) := by
   intro ks
   induction ks with
   | nil => intro es; simp
   | cons k ks ih =>
     intro es
     rw [List.foldl_cons, ih, mpVal_put, List.count_cons]
     by_cases h : j = k
     · subst h; simp; omega
     · have h' : (k == j) = false := by rw [beq_eq_false_iff_ne]; exact fun e => h e.symm
       rw [if_neg h, h']; simp
 have := key ks []
 rw [mpVal_nil] at this
 unfold mpSeen
 rw [this]; simp
structure KeyOk (P : Program) (kt : TypeId) (kv : κ → Value) : Prop where
 chk : ∀ e w k, (Instr.checkKey e 10000 kt (kv k)).run P w = .ok () w
 find : ∀ k c es w, (Instr.findKey kt (kv k) (mpFrom kv c es)).run P w = .ok ((mpLook es k).map fun x => (x.1, .int .i64 x.2)) w
 stay : ∀ k w, (Instr.keyThatStays (kv k) (kv k)).run P w = .ok (kv k) w
end
def mpObj (es : List (Int × Int)) : Obj := mpObjK (Value.int .i64) 0 es
@[simp] theorem mpObj_K (es : List (Int × Int)) : mpObjK (Value.int .i64) 0 es = mpObj es := rfl
theorem KeyOk.int {P : Program} {kt : TypeId} (hd : P.underlying kt = some (.int .i64)) : KeyOk P kt (Value.int .i64) := by
 refine ⟨fun e w k => MapKept.run_checkKey hd (show MapKept.IsKey (.int .i64) (.int .i64 k) from rfl) e _, fun k c es w => MapKept.run_findKey hd ?_, fun k w => MapKept.run_keyThatStays (d := .int .i64) (show MapKept.IsKey (.int .i64) (.int .i64 k) from rfl)⟩
 have key : ∀ (es : List (Int × Int)) (i n : Nat), Instr.findNow (.int .i64) (.int .i64 k) (mpFrom (Value.int .i64) i es) n = some ((mpLook es k).map fun x => (n + x.1, .int .i64 x.2)) := by
   intro es
   induction es with
   | nil => intro i n; rfl
   | cons x t ih =>
     intro i n
     obtain ⟨a, v⟩ := x
     rw [mpFrom, Instr.findNow, mpLook]
     by_cases h : k = a
     · subst h
       simp [Instr.sameNow]
     · have : (k == a) = false := by simpa using h
       simp only [Instr.sameNow, if_true, this, h, if_false]
       rw [ih]
       cases mpLook t k with
       | none => rfl
       | some q => simp; omega
 rw [key]; simp
def MpOkK {κ : Type} [DecidableEq κ] (P : Program) (t : TypeId) (kv : κ → Value) (ke : κ → AV) : Prop :=
 (∃ kt vt i, P.underlying t = some (.map kt vt) ∧ KeyOk P kt kv ∧ P.info? vt = some i ∧ i.zero = some (.int .i64 0)) ∧ ∀ E G k v, Rel E G (ke k) v → v = kv k
abbrev MpOk (P : Program) (t : TypeId) : Prop := MpOkK P t (Value.int .i64) (AV.int .i64)
theorem MpOkK.mk' {κ : Type} [DecidableEq κ] {P : Program} {t kt vt : TypeId} {kv : κ → Value} {ke : κ → AV} (h1 : P.underlying t = some (.map kt vt)) (h2 : KeyOk P kt kv) (h3 : (P.info? vt).bind (·.zero) = some (.int .i64 0)) (h4 : ∀ E G k v, Rel E G (ke k) v → v = kv k) : MpOkK P t kv ke := by
 cases h : P.info? vt with
 | none => rw [h] at h3; cases h3
 | some i => rw [h] at h3; exact ⟨⟨kt, vt, i, h1, h2, h, h3⟩, h4⟩
theorem MpOk.mk' {P : Program} {t kt vt : TypeId} (h1 : P.underlying t = some (.map kt vt)) (h2 : P.underlying kt = some (.int .i64)) (h3 : (P.info? vt).bind (·.zero) = some (.int .i64 0)) : MpOk P t :=
 MpOkK.mk' h1 (.int h2) h3 fun E G k v h => by simpa only [Rel] using h
section
variable {P : Program} {E E' : Env} {G G' : Heap} {w w' : World} {ρ : Operand → AV} {a : Act} {bx : Nat → Box}
theorem Mems.makeMap {o : Oper} {t : TypeId} {nm : Nat} (ho : o.op = .makeMap t none) (hnm : bx nm = .none) : Mems P ρ bx o (.mv nm) (upd bx nm (.obj (mpObj []))) := by
 intro a w E G hρ hheap K Q hK
 have hp := hheap.pushO (w' := w.alloc (.map #[] 0)) (n := nm) (l := .var w.heap.size) (bn := .obj (mpObj [])) hnm rfl (frozen_pushM rfl) rfl rfl rfl rfl (by
   simp only [BoxOk]
   have : (w.alloc (.map #[] 0)).heap = w.heap.push (.map #[] 0) := rfl
   rw [this]; simp [mpObj, mpObjK, mpFrom])
 have hrun : (execOp a.eval o).run P w = .ok (.value (.map (some w.heap.size))) (w.alloc (.map #[] 0)) := by
   simp [execOp, ho, Instr.makeMap, Result.andThen]
 refine .inl ?_
 unfold Oper.wp
 rw [hrun]
 refine hK _ _ _ G ?_ hp.1 hp.2
 simp only [Rel]
 exact ⟨.var w.heap.size, _, by simp [setE], rfl, rfl⟩
theorem frozen_setM {r : Nat} {o o' : Obj} (hb : w.heap[r]? = some o) (h1 : Obj.isC o = false) (h2 : Obj.isC o' = false) (a : Addr) : World.frozen? { w with heap := w.heap.setIfInBounds r o' } a = w.frozen? a := by
 unfold World.frozen?
 by_cases h : a.block = r
 · simp only [h, (MapKept.heap_set hb).1, hb]
   cases o <;> cases o' <;> simp_all [Obj.isC]
 · simp only [(MapKept.heap_set hb).2 _ h]
theorem HeapOk.objSet {n r : Nat} {o o' : Obj} (h : HeapOk bx E G w) (hbn : bx n = .obj o) (hE : E n = some (.var r)) (hc : Obj.isC o = false) (hc' : Obj.isC o' = false) :
   w.heap[r]? = some o ∧ HeapOk (upd bx n (.obj o')) E G { w with heap := w.heap.setIfInBounds r o' } ∧ Ext bx E G w (upd bx n (.obj o')) E G { w with heap := w.heap.setIfInBounds r o' } := by
 have hb : w.heap[r]? = some o := by have := h.box n; rw [hbn, hE] at this; exact this
 have hlive : (bx n).live = true := by rw [hbn]; rfl
 obtain ⟨hs1, hs2⟩ := MapKept.heap_set (o' := o') hb
 have hlive' : ∀ m, (upd bx n (.obj o') m).live = (bx m).live := fun m => by
   by_cases hm : m = n
   · subst hm; simp only [upd_same, hlive]; rfl
   · rw [upd_ne _ _ _ _ hm]
 have hL : ∀ b, Live (upd bx n (.obj o')) E b ↔ Live bx E b := fun b => by
   constructor <;> rintro ⟨m, k, h1, h2, h3⟩
   · exact ⟨m, k, by rw [← hlive' m]; exact h1, h2, h3⟩
   · exact ⟨m, k, by rw [hlive' m]; exact h1, h2, h3⟩
 have hGb : ∀ o, G r o = Option.none := (h.off r ⟨n, _, hlive, hE, rfl⟩).2
 refine ⟨hb, ⟨fun b o v hg => ?_, fun m => ?_, fun m m' k k' b h1 h2 => h.sep m m' k k' b (by rw [← hlive' m]; exact h1) (by rw [← hlive' m']; exact h2), fun b hb' => ?_⟩, rfl, rfl, rfl, fun a _ => (frozen_setM hb hc hc') a, by simp, .refl _, .refl _, fun b hb' hn => ?_, fun b hb' => .inr ((hL b).1 hb')⟩
 · have hne : b ≠ r := fun e => by subst e; simp [hGb] at hg
   rw [cell_of_heap (hs2 b hne)]; exact h.gw b o v hg
 · by_cases hm : m = n
   · subst hm; simp only [upd_same]; rw [hE]; exact hs1
   · rw [upd_ne _ _ _ _ hm]
     refine (h.box m).mono (.refl _) (.refl _) (by simp) fun l' b hl' hb' hcl => ⟨hs2 b fun e => ?_, rfl⟩
     subst e
     exact hm (h.sep m n l' _ b hcl hlive hl' hE hb' rfl)
 · have := h.off b ((hL b).1 hb')
   exact ⟨by simpa using this.1, this.2⟩
 · refine ⟨hs2 b fun e => hn ?_, rfl⟩
   subst e
   exact ⟨n, _, hlive, hE, rfl⟩
theorem HeapOk.mvLoc {n : Nat} {v : Value} (hv : Rel E G (.mv n) v) {o : Obj} (h : HeapOk bx E G w) (hbn : bx n = .obj o) : ∃ r, v = .map (some r) ∧ E n = some (.var r) := by
 simp only [Rel] at hv
 obtain ⟨l, blk, h1, h2, h3⟩ := hv
 have := h.box n
 rw [hbn, h1] at this
 cases l <;> simp only [BoxOk] at this
 simp only [Loc.blk?, Option.some.injEq] at h2
 subst h2
 exact ⟨_, h3, h1⟩
variable {κ : Type} [DecidableEq κ] {kv : κ → Value} {ke : κ → AV} {c : Nat} {es : List (κ × Int)} {k : κ}
theorem run_lookup {t kt vt : TypeId} {r : Nat} {ok : Bool} (hm : P.underlying t = some (.map kt vt)) (hk : KeyOk P kt kv) (hz : (zeroValue vt).run P w = .ok (.int .i64 0) w)
   (hb : w.heap[r]? = some (mpObjK kv c es)) :
   (Instr.lookup t (.map (some r)) (kv k) ok).run P w = .ok (if ok then .tuple #[.int .i64 (mpVal es k), .bool (mpLook es k).isSome] else .int .i64 (mpVal es k)) w := by
 have hf := hk.find k c es w
 unfold mpObjK at hb
 cases hl : mpLook es k with
 | none =>
   rw [hl] at hf
   simp only [Instr.lookup, Sem.run_bind, run_underlying hm, MapKept.run_getObj_map hb, hk.chk, hf, Result.andThen, Option.map_none, hz, Sem.run_pure, mpVal, hl]
   rfl
 | some q =>
   obtain ⟨j, v⟩ := q
   rw [hl] at hf
   simp only [Instr.lookup, Sem.run_bind, run_underlying hm, MapKept.run_getObj_map hb, hk.chk, hf, Option.map_some, Result.andThen, Sem.run_pure, mpVal, hl]
   rfl
omit [DecidableEq κ] in
theorem mpFrom_set (v : Int) : ∀ (es : List (κ × Int)) (i j : Nat), j < es.length → (mpFrom kv i es).modify j (fun e => { e with val := .int .i64 v }) = mpFrom kv i (es.modify j fun x => (x.1, v))
 | [], i, j, h => by simp at h
 | x :: t, i, 0, h => rfl
 | x :: t, i, j + 1, h => by
   simp only [mpFrom, List.modify_succ_cons]
   rw [mpFrom_set v t (i + 1) j (by simpa using h)]
theorem run_mapUpdate {t kt vt : TypeId} {v : Int} {r : Nat} (hm : P.underlying t = some (.map kt vt)) (hk : KeyOk P kt kv) (hb : w.heap[r]? = some (mpObjK kv c es)) :
   (Instr.mapUpdate t (.map (some r)) (kv k) (.int .i64 v)).run P w = .ok () { w with heap := w.heap.setIfInBounds r (mpObjK kv c (mpPut es k v)) } := by
 have hf := hk.find k c es w
 unfold mpObjK at hb
 cases hl : mpLook es k with
 | none =>
   rw [hl] at hf
   have e : (mpFrom kv c es).toArray.push { key := kv k, val := .int .i64 v, born := c + es.length } = (mpFrom kv c (es ++ [(k, v)])).toArray := by rw [mpFrom_app]; simp
   simp only [Instr.mapUpdate, Sem.run_bind, run_underlying hm, MapKept.run_getObj_map hb, hk.chk, hf, Result.andThen, Option.map_none, MapKept.run_setObj_map _ hb, mpPut_none hl, e, mpObjK, List.length_append, List.length_singleton, Nat.add_assoc]
 | some q =>
   obtain ⟨j, u⟩ := q
   rw [hl] at hf
   obtain ⟨hj, he⟩ := mpLook_some hl
   have hg : (mpFrom kv c es).toArray[j]? = some { key := kv k, val := .int .i64 u, born := c + j } := by
     have := mpFrom_get (kv := kv) es c j hj
     rw [he] at this
     simpa using this
   have h2 := mpFrom_set (kv := kv) v es c j hj
   have hmod : ((mpFrom kv c es).toArray.modify j fun e => { e with key := kv k, val := .int .i64 v }) = (mpFrom kv c (es.modify j fun x => (x.1, v))).toArray := by
     rw [← h2]
     apply Array.ext_getElem?
     intro i
     rw [Array.getElem?_modify, List.getElem?_toArray, List.getElem?_toArray, List.getElem?_modify]
     by_cases h : j = i
     · subst h
       have hg' : (mpFrom kv c es)[j]? = some { key := kv k, val := .int .i64 u, born := c + j } := by simpa using hg
       simp [hg']
     · simp [h]
   simp only [Instr.mapUpdate, Sem.run_bind, run_underlying hm, MapKept.run_getObj_map hb, hk.chk, hf, Result.andThen, hg, Option.map_some, Option.getD_some, hk.stay, hmod, MapKept.run_setObj_map _ hb, mpPut_some hl, mpObjK, List.length_modify]
theorem Mems.mapUpdate {o : Oper} {t : TypeId} {mo ko vo : Operand} {n : Nat} {v : Int} (ho : o.op = .mapUpdate t mo ko vo) (hok : MpOkK P t kv ke) (hm : ρ mo = .mv n) (hk : ρ ko = ke k) (hv : ρ vo = .int .i64 v)
   (hbn : bx n = .obj (mpObjK kv c es)) : Mems P ρ bx o .junk (upd bx n (.obj (mpObjK kv c (mpPut es k v)))) := by
 intro a w E G hρ hheap K Q hK
 obtain ⟨⟨kt, vt, i, e1, e2, e3, e4⟩, e5⟩ := hok
 have hmv := hρ mo (by simp [ho, Op.operands])
 have hkv := hρ ko (by simp [ho, Op.operands])
 have hvv := hρ vo (by simp [ho, Op.operands])
 rw [hm] at hmv
 rw [hk] at hkv
 rw [hv] at hvv
 obtain ⟨r, hr, hE⟩ := hheap.mvLoc hmv hbn
 have hkv := e5 _ _ _ _ hkv
 simp only [Rel] at hvv
 obtain ⟨hb, g1, g2⟩ := hheap.objSet (o' := mpObjK kv c (mpPut es k v)) hbn hE rfl rfl
 have hrun : (execOp a.eval o).run P w = .ok .skip { w with heap := w.heap.setIfInBounds r (mpObjK kv c (mpPut es k v)) } := by
   simp only [execOp, ho, hr, hkv, hvv, Sem.run_bind, run_mapUpdate e1 e2 hb, Result.andThen_ok, Sem.run_pure]
 refine .inl ?_
 unfold Oper.wp
 rw [hrun]
 exact hK undef _ E G (by simp [Rel]) g1 g2
theorem Mems.lookup {o : Oper} {t : TypeId} {mo ko : Operand} {n : Nat} (ho : o.op = .lookup t mo ko false) (hok : MpOkK P t kv ke) (hm : ρ mo = .mv n) (hk : ρ ko = ke k) (hbn : bx n = .obj (mpObjK kv c es)) :
   Mems P ρ bx o (.int .i64 (mpVal es k)) bx := by
 intro a w E G hρ hheap K Q hK
 obtain ⟨⟨kt, vt, i, e1, e2, e3, e4⟩, e5⟩ := hok
 have hmv := hρ mo (by simp [ho, Op.operands])
 have hkv := hρ ko (by simp [ho, Op.operands])
 rw [hm] at hmv
 rw [hk] at hkv
 obtain ⟨r, hr, hE⟩ := hheap.mvLoc hmv hbn
 have hkv := e5 _ _ _ _ hkv
 obtain ⟨hb, -, -⟩ := hheap.objSet (o' := mpObjK kv c es) hbn hE rfl rfl
 have hrun : (execOp a.eval o).run P w = .ok (.value (.int .i64 (mpVal es k))) w := by
   simp only [execOp, ho, hr, hkv, Sem.run_bind, run_lookup e1 e2 (run_zero e3 e4) hb, Result.andThen_ok, Sem.run_pure, Bool.false_eq_true, if_false]
 refine .inl ?_
 unfold Oper.wp
 rw [hrun]
 refine hK _ _ E G ?_ hheap (.refl _ _ _ _)
 simp only [Rel]
theorem Mems.clearM {o : Oper} {cl : Call} {t : TypeId} {mo : Operand} {n : Nat} (ho : o.op = .call cl) (hc : cl.callee = .builtin .clear) (hat : cl.argTypes = #[t]) (harg : cl.args = #[mo]) (hok : MpOkK P t kv ke) (hm : ρ mo = .mv n)
   (hbn : bx n = .obj (mpObjK kv c es)) : Mems P ρ bx o (.tup []) (upd bx n (.obj (mpObjK kv (c + es.length) []))) := by
 intro a w E G hρ hheap K Q hK
 obtain ⟨⟨kt, vt, i, e1, e2, e3, e4⟩, e5⟩ := hok
 have hmv := hρ mo (by simp [ho, hc, harg, Op.operands, Call.operands])
 rw [hm] at hmv
 obtain ⟨r, hr, hE⟩ := hheap.mvLoc hmv hbn
 obtain ⟨hb, g1, g2⟩ := hheap.objSet (o' := mpObjK kv (c + es.length) []) hbn hE rfl rfl
 have hrun : (execOp a.eval o).run P w = .ok (.value (.tuple #[])) { w with heap := w.heap.setIfInBounds r (mpObjK kv (c + es.length) []) } := by
   unfold mpObjK at hb
   have h2 : (Builtin.clear_ #[t] o.type #[.map (some r)]).run P w = .ok (.tuple #[]) { w with heap := w.heap.setIfInBounds r (mpObjK kv (c + es.length) []) } := by
     simp [Builtin.clear_, run_underlying e1, MapKept.run_getObj_map hb, MapKept.run_setObj_map _ hb, mpObjK, mpFrom]
   simp only [execOp, ho, resolve, hc, harg, hat, Sem.run_bind, Sem.run_pure, Result.andThen_ok, invoke, builtin, List.map_toArray, List.map_cons, List.map_nil, hr, h2]
 refine .inl ?_
 unfold Oper.wp
 rw [hrun]
 refine hK _ _ E G ?_ g1 g2
 simp only [Rel]
 exact ⟨[], rfl, RelL.nil⟩
end
end Go.AI
end

section
namespace Go.AI
open Go
section
variable {P : Program} {ops : Array Oper} {cf : Oper → Cls} {l : List Oper} {i nx : Nat} {tm : Nat → AV} {bx : Nat → Box} {Q : (Nat → AV) → (Nat → Box) → Prop} {o : Oper}
theorem RunQ.makeMap {t : TypeId} (nm : Nat) (ho : o.op = .makeMap t none) (hw : wantedA ops tm o = some true) (hcf : cf o = .w) (hnm : bx nm = .none) (h : RunQ P ops cf l (i + 1) (putA tm o.dst (.mv nm)) (upd bx nm (.obj (mpObj []))) nx Q) : RunQ P ops cf (o :: l) i tm bx nx Q := RunQ.mem hw hcf (Mems.makeMap ho hnm) h
theorem RunQ.mapUpdate {κ : Type} [DecidableEq κ] {kv : κ → Value} {ke : κ → AV} {c : Nat} {es : List (κ × Int)} {k : κ} {t : TypeId} {mo ko vo : Operand} {n : Nat} {v : Int} (hok : MpOkK P t kv ke) (ho : o.op = .mapUpdate t mo ko vo) (hw : wantedA ops tm o = some true) (hcf : cf o = .w) (hm : evA tm mo = .mv n) (hk : evA tm ko = ke k) (hv : evA tm vo = .int .i64 v) (hbn : bx n = .obj (mpObjK kv c es))
   (h : RunQ P ops cf l (i + 1) (putA tm o.dst (.junk)) (upd bx n (.obj (mpObjK kv c (mpPut es k v)))) nx Q) : RunQ P ops cf (o :: l) i tm bx nx Q := RunQ.mem hw hcf (Mems.mapUpdate ho hok hm hk hv hbn) h
theorem RunQ.lookup {κ : Type} [DecidableEq κ] {kv : κ → Value} {ke : κ → AV} {c : Nat} {es : List (κ × Int)} {k : κ} {t : TypeId} {mo ko : Operand} {n : Nat} (hok : MpOkK P t kv ke) (ho : o.op = .lookup t mo ko false) (hw : wantedA ops tm o = some true) (hcf : cf o = .w) (hm : evA tm mo = .mv n) (hk : evA tm ko = ke k) (hbn : bx n = .obj (mpObjK kv c es))
   (h : RunQ P ops cf l (i + 1) (putA tm o.dst (.int .i64 (mpVal es k))) bx nx Q) : RunQ P ops cf (o :: l) i tm bx nx Q := RunQ.mem hw hcf (Mems.lookup ho hok hm hk hbn) h
theorem RunQ.clearM {κ : Type} [DecidableEq κ] {kv : κ → Value} {ke : κ → AV} {c : Nat} {es : List (κ × Int)} {t : TypeId} {mo : Operand} {n : Nat} {g : Call} (hok : MpOkK P t kv ke) (ho : o.op = .call g) (hc : g.callee = .builtin .clear) (hat : g.argTypes = #[t]) (harg : g.args = #[mo]) (hw : wantedA ops tm o = some true) (hcf : cf o = .w) (hm : evA tm mo = .mv n) (hbn : bx n = .obj (mpObjK kv c es))
   (h : RunQ P ops cf l (i + 1) (putA tm o.dst (.tup [])) (upd bx n (.obj (mpObjK kv (c + es.length) []))) nx Q) : RunQ P ops cf (o :: l) i tm bx nx Q := RunQ.mem hw hcf (Mems.clearM ho hc hat harg hok hm hbn) h
end
section
variable {P : Program} {ops : Array Oper} {l : List Oper} {i nx : Nat} {tm : Nat → AV} {bx : Nat → Box} {cl : List Cls} {Q : (Nat → AV) → (Nat → Box) → List Cls → Prop} {o : Oper}
end
end Go.AI
end

namespace Go.AI
open Go
@[simp] theorem toNat_plus_lit (p n : Nat) : ((p : Int) + (no_index (OfNat.ofNat n) : Int)).toNat = p + OfNat.ofNat n := by
 show ((p : Int) + (n : Int)).toNat = p + n
 omega
@[simp] theorem nonneg_plus_lit (p n : Nat) : ((0 : Int) ≤ (p : Int) + (no_index (OfNat.ofNat n) : Int)) = True := by
 have : (0 : Int) ≤ (p : Int) + (n : Int) := by omega
 exact eq_true this
end Go.AI

section
namespace Go.AI
open Go
section
variable {P : Program} {E E' : Env} {G G' : Heap} {w w' : World} {ρ : Operand → AV} {a : Act} {bx : Nat → Box}
theorem Mems.appendN {o : Oper} {c : Call} {t e : TypeId} {xo yo : Operand} {s by_ k : Nat} {fl fl' : Bool} {cs ds : List AV} (ho : o.op = .call c) (hc : c.callee = .builtin .append)
   (hat : c.argTypes = #[t, t]) (harg : c.args = #[xo, yo]) (hok : AppOk P t e s by_) (hx : ρ xo = .sl fl k cs) (hy : ρ yo = .sl fl' 0 ds) : Mems P ρ bx o (.sl fl k cs) bx := by
 intro a w E G hρ hheap K Q hK
 obtain ⟨i, z, hu, hi, hz, hsz, hby, hzs⟩ := hok.facts
 have htde : td P e ≠ .none := hok.tde
 have hxv := hρ xo (by simp [ho, Op.operands, Call.operands, hc, harg])
 have hyv := hρ yo (by simp [ho, Op.operands, Call.operands, hc, harg])
 rw [hx] at hxv; rw [hy] at hyv
 have hexec : ∀ r : Result Value, (Builtin.append_ #[t, t] o.type #[a.eval xo, a.eval yo]).run P w = r →
     (execOp a.eval o).run P w = r.andThen fun v w' => .ok (.value v) w' := by
   intro r hr
   simp only [execOp, ho, resolve, hc, harg, hat, Sem.run_bind, Sem.run_pure, Result.andThen_ok, invoke, builtin, List.map_toArray, List.map_cons, List.map_nil, hr]
 have hx0 := hxv
 simp only [Rel] at hxv hyv
 obtain ⟨ax, nx, cx, hxe, hle⟩ : ∃ ax nx cx, a.eval xo = .slice ax nx cx ∧ nx ≤ cx := by
   rcases hxv with ⟨ad, cap, hv, h0, h1, h2⟩ | ⟨blk, off, cap, vs, hv, hkc, _⟩
   · exact ⟨_, _, _, hv, by omega⟩
   · exact ⟨_, _, _, hv, hkc⟩
 obtain ⟨ay, cy, hye⟩ : ∃ ay cy, a.eval yo = .slice ay 0 cy := by
   rcases hyv with ⟨ad, cap, hv, h0, h1, h2⟩ | ⟨blk, off, cap, vs, hv, hkc, _⟩
   · exact ⟨_, _, hv⟩
   · exact ⟨_, _, hv⟩
 have hrun := hexec (.ok (.slice ax nx cx) w) (by rw [hxe, hye]; exact append_none_x hu htde ax ay nx cx cy hle o.type)
 refine .inl ?_
 unfold Oper.wp
 rw [hrun]
 refine hK _ w E G ?_ hheap (.refl _ _ _ _)
 rw [← hxe]; exact hx0
end
section
variable {P : Program} {ops : Array Oper} {cf : Oper → Cls} {l : List Oper} {i nx : Nat} {tm : Nat → AV} {bx : Nat → Box} {Q : (Nat → AV) → (Nat → Box) → Prop} {o : Oper}
theorem RunQ.appendN {c : Call} {t e : TypeId} {xo yo : Operand} {s by_ k : Nat} {fl fl' : Bool} {cs ds : List AV} (hok : AppOk P t e s by_) (ho : o.op = .call c) (hc : c.callee = .builtin .append)
   (hat : c.argTypes = #[t, t]) (harg : c.args = #[xo, yo]) (hx : evA tm xo = .sl fl k cs) (hy : evA tm yo = .sl fl' 0 ds) (hw : wantedA ops tm o = some true) (hcf : notWn (cf o) = true)
   (h : RunQ P ops cf l (i + 1) (putA tm o.dst (.sl fl k cs)) bx nx Q) : RunQ P ops cf (o :: l) i tm bx nx Q := RunQ.pure hw hcf (fun b => Mems.appendN ho hc hat harg hok hx hy) h
end
section
variable {P : Program} {ops : Array Oper} {l : List Oper} {i nx : Nat} {tm : Nat → AV} {bx : Nat → Box} {cl : List Cls} {Q : (Nat → AV) → (Nat → Box) → List Cls → Prop} {o : Oper}
end
end Go.AI
end

section
namespace Go.AI
open Go
section
variable {P : Program} {E E' : Env} {G G' : Heap} {w w' : World} {ρ : Operand → AV} {a : Act} {bx : Nat → Box}
theorem Mems.copy {o : Oper} {c : Call} {t t' e : TypeId} {xo yo : Operand} {n off k m by_ : Nat} {fl : Bool} {cs ds : List AV} (ho : o.op = .call c) (hc : c.callee = .builtin .copy)
   (hat : c.argTypes = #[t, t']) (harg : c.args = #[xo, yo]) (hok : AppOk P t e 1 by_) (hx : ρ xo = .msl n off k) (hy : ρ yo = .sl fl m ds) (hb : bx n = .buf 1 cs) (hm0 : 0 < m) (hmk : m ≤ k) (hds : ds.length = m) (hl : off + k ≤ cs.length) :
   Mems P ρ bx o (.int .i64 (m : Int)) (upd bx n (.buf 1 (splice cs off ds))) := by
 intro a w E G hρ hheap K Q hK
 obtain ⟨i, z, hu, hi', hz, hsz, hby, hzs⟩ := hok.facts
 have hxv := hρ xo (by simp [ho, Op.operands, Call.operands, hc, harg])
 have hyv := hρ yo (by simp [ho, Op.operands, Call.operands, hc, harg])
 rw [hx] at hxv; rw [hy] at hyv
 simp only [Rel] at hxv hyv
 have hexec : ∀ (v : Value) w', (Builtin.copy_ #[t, t'] o.type #[a.eval xo, a.eval yo]).run P w = .ok v w' → (execOp a.eval o).run P w = .ok (.value v) w' := by
   intro v w' hr
   simp only [execOp, ho, resolve, hc, harg, hat, Sem.run_bind, Sem.run_pure, Result.andThen_ok, invoke, builtin, List.map_toArray, List.map_cons, List.map_nil, hr]
 rcases hyv with ⟨ad, cap', _, h0, _⟩ | ⟨blk', off', cap', us, hyev, _, _, _, hur, huG, huo⟩
 · omega
 rcases hxv with ⟨blk, cap, hev, _, _, hE⟩ | ⟨_, _, hk0, _⟩
 · have hbox := hheap.box n
   rw [hb] at hbox
   rcases hE with ⟨sz', tot, hE, ht⟩ | hE
   · rw [hE] at hbox
     simp only [BoxOk] at hbox
     obtain ⟨rfl, vs, rest, T, hh, hrel, hones, hlen⟩ := hbox
     have hvl := hrel.length
     have hul := hur.length
     have hrun0 := run_copy_row P w t t' o.type e blk off k cap ⟨blk', off', none⟩ m cap' (vs ++ rest).toArray T us hu (by rw [hi']; simp [hsz]) hh
       (by rw [hul, hds]; exact (Nat.min_eq_left hmk).symm) (fun j v hj => by rw [addr_add]; exact hheap.gw _ _ _ (huG j v hj)) (by simp; omega) huo
     have hsp : (vs ++ rest).take off ++ us ++ (vs ++ rest).drop (off + us.length) = (vs.take off ++ us ++ vs.drop (off + us.length)) ++ rest := by
       rw [List.take_append_of_le_length (by omega), List.drop_append_of_le_length (by omega)]
       simp
     simp only at hrun0
     rw [hsp] at hrun0
     have hcl : (splice cs off ds).length = cs.length := by
       simp only [splice, List.length_append, List.length_take, List.length_drop]
       omega
     obtain ⟨hok', hext⟩ := hheap.write (n := n) (blk := blk) (by rw [hb]; rfl) hE rfl hh hrel (hrel.splice hur) (((hones.take _).append huo).append (hones.drop _)) hcl
     rw [hb] at hok' hext
     have hrun : (Builtin.copy_ #[t, t'] o.type #[a.eval xo, a.eval yo]).run P w = .ok (goInt us.length) (w.setRow blk ((vs.take off ++ us ++ vs.drop (off + us.length)) ++ rest).toArray) := by
       rw [hev, hyev]; exact hrun0
     refine .inl ?_
     unfold Oper.wp
     rw [hexec _ _ hrun]
     refine hK _ _ E G ?_ hok' hext
     simp only [Rel, goInt]
     rw [hul, hds]
   · rw [hE] at hbox; simp [BoxOk] at hbox
 · omega
theorem Mems.mkI {o : Oper} {t : TypeId} {xo : Operand} (ho : o.op = .makeInterface t xo) (ht : P.concrete t = true) : Mems P ρ bx o (.iface t (ρ xo)) bx := by
 intro a w E G hρ hheap K Q hK
 have hxv := hρ xo (by simp [ho, Op.operands])
 have hrun : (execOp a.eval o).run P w = .ok (.value (.iface t (a.eval xo))) w := by
   simp only [execOp, ho, Sem.run_bind, run_makeInterface _ t _ ht, Result.andThen_ok, Sem.run_pure]
 refine .inl ?_
 unfold Oper.wp
 rw [hrun]
 refine hK _ w E G ?_ hheap (.refl _ _ _ _)
 simp only [Rel]
 exact ⟨_, rfl, hxv⟩
theorem Mems.nilI {o : Oper} {op : BinOp} {t yt : TypeId} {xo : Operand} {neg e : Bool} (ho : o.op = .binOp op t xo (.const .nilIface) yt) (hop : eqOf op = some neg) (ht : td P t = .iface e) (hx : ρ xo = .niface) : Mems P ρ bx o (eqA neg true) bx := by
 intro a w E G hρ hheap K Q hK
 have hxv := hρ xo (by simp [ho, Op.operands])
 rw [hx] at hxv
 simp only [Rel] at hxv
 have htd : td P t ≠ .none := by rw [ht]; simp
 obtain ⟨i, d, hi, hu, hd⟩ := td_some htd
 rw [ht] at hd
 have hd' : ∃ ms, d = .interface ms := by cases d <;> simp [tdOf] at hd; exact ⟨_, rfl⟩
 obtain ⟨ms, rfl⟩ := hd'
 have hrun : (execOp a.eval o).run P w = .ok (.value (.bool (if neg then !true else true))) w := by
   have he : a.eval (.const .nilIface) = .nilIface := rfl
   have hq : (Op.equal t .nilIface .nilIface).run P w = .ok true w := by
     unfold Op.equal
     rw [show Op.maxDepth = (Op.maxDepth - 1) + 1 from rfl]
     unfold Op.equalIn
     simp [run_underlying hu]
   cases op <;> simp [eqOf] at hop <;> subst hop <;>
     simp [execOp, ho, hxv, he, eqGuard, binOp, hq]
 refine .inl ?_
 unfold Oper.wp
 rw [hrun]
 exact hK _ w E G (by simp [Rel, eqA]) hheap (.refl _ _ _ _)
end
section
variable {P : Program} {ops : Array Oper} {cf : Oper → Cls} {l : List Oper} {i nx : Nat} {tm : Nat → AV} {bx : Nat → Box} {Q : (Nat → AV) → (Nat → Box) → Prop} {o : Oper}
theorem RunQ.mkI {t : TypeId} {xo : Operand} (ht : P.concrete t = true) (ho : o.op = .makeInterface t xo) (hw : wantedA ops tm o = some true) (hcf : notWn (cf o) = true)
   (h : RunQ P ops cf l (i + 1) (putA tm o.dst (.iface t (evA tm xo))) bx nx Q) : RunQ P ops cf (o :: l) i tm bx nx Q := RunQ.pure hw hcf (fun b => Mems.mkI ho ht) h
theorem RunQ.nilI {op : BinOp} {t yt : TypeId} {xo : Operand} {neg e : Bool} (ht : td P t = .iface e) (ho : o.op = .binOp op t xo (.const .nilIface) yt) (hop : eqOf op = some neg) (hx : evA tm xo = .niface) (hw : wantedA ops tm o = some true) (hcf : notWn (cf o) = true)
   (h : RunQ P ops cf l (i + 1) (putA tm o.dst (eqA neg true)) bx nx Q) : RunQ P ops cf (o :: l) i tm bx nx Q := RunQ.pure hw hcf (fun b => Mems.nilI ho hop ht hx) h
end
section
variable {P : Program} {ops : Array Oper} {l : List Oper} {i nx : Nat} {tm : Nat → AV} {bx : Nat → Box} {cl : List Cls} {Q : (Nat → AV) → (Nat → Box) → List Cls → Prop} {o : Oper}
theorem RunX.copy {c : Call} {t t' e : TypeId} {xo yo : Operand} {n off k m by_ : Nat} {fl : Bool} {cs ds : List AV} (hok : AppOk P t e 1 by_) (ho : o.op = .call c) (hc : c.callee = .builtin .copy)
   (hat : c.argTypes = #[t, t']) (harg : c.args = #[xo, yo]) (hx : evA tm xo = .msl n off k) (hy : evA tm yo = .sl fl m ds) (hb : bx n = .buf 1 cs) (hw : wantedA ops tm o = some true) (hm0 : 0 < m) (hmk : m ≤ k) (hds : ds.length = m) (hl : off + k ≤ cs.length)
   (h : RunX P ops l (i + 1) (putA tm o.dst (.int .i64 (m : Int))) (upd bx n (.buf 1 (splice cs off ds))) nx (.wn n :: cl) Q) : RunX P ops (o :: l) i tm bx nx cl Q :=
 RunX.one hw (fun b h1 => Mems.copy ho hc hat harg hok hx hy (h1.trans hb) hm0 hmk hds hl) h
end
end Go.AI
end

section
namespace Go.AI
open Go
structure Kp (p : Prop) : Prop where
 h : p
section
variable {P : Program} {ops : Array Oper} {cf : Oper → Cls} {l : List Oper} {i nx : Nat} {tm : Nat → AV} {bx : Nat → Box} {Q : (Nat → AV) → (Nat → Box) → Prop} {o : Oper}
theorem RunQ.k {c : Call} {fo : Operand} {f : FuncId} {caps args : List AV} {r : AV} (hop : o.op = .call c) (hc : c.callee = .value fo) (hg : o.guard = none) (hcf : notWn (cf o) = true)
   (hf : evA tm fo = .fn f caps) (ha : LeL (c.args.toList.map (evA tm) ++ caps) args) (h : FnP P f args r) (hcl : ClL args = true)
   (t : Kp (RunH P ops cf nx Q l (i + 1) (putA tm o.dst r) bx)) : RunQ P ops cf (o :: l) i tm bx nx Q :=
 RunQ.call hop hc hg hcf hf ha h hcl (RunQ.evalH t.h)
theorem RunQW.k {c : Call} {fo : Operand} {f : FuncId} {caps args : List AV} {r : AV} (hop : o.op = .call c) (hc : c.callee = .value fo) (hcf : notWn (cf o) = true)
   (hf : evA tm fo = .fn f caps) (ha : LeL (c.args.toList.map (evA tm) ++ caps) args) (h : FnP P f args r) (hcl : ClL args = true)
   (t : Kp (RunH P ops cf nx Q l (i + 1) (putA tm o.dst r) bx)) : RunQW P ops cf (o :: l) i tm bx nx Q o :=
 RunQW.call hop hc hcf hf ha h hcl (RunQ.evalH t.h)
end
section
variable {P : Program} {ops : Array Oper} {l : List Oper} {i nx : Nat} {tm : Nat → AV} {bx : Nat → Box} {cl : List Cls} {Q : (Nat → AV) → (Nat → Box) → List Cls → Prop} {o : Oper}
end
section
variable {P : Program} {k : List Item}
end
end Go.AI
end

section
namespace Go.AI
open Go
section
variable {P : Program} {ops : Array Oper} {l : List Oper} {i nx : Nat} {tm : Nat → AV} {bx : Nat → Box} {cs : List Cls} {Q : (Nat → AV) → (Nat → Box) → List Cls → Prop} {o : Oper}
theorem RunX.k {c : Call} {fo : Operand} {f : FuncId} {caps args : List AV} {r : AV} (hop : o.op = .call c) (hc : c.callee = .value fo) (hg : o.guard = none)
   (hf : evA tm fo = .fn f caps) (ha : LeL (c.args.toList.map (evA tm) ++ caps) args) (h : FnP P f args r) (hcl : ClL args = true)
   (t : Kp (RunY P ops nx Q l (i + 1) (putA tm o.dst r) bx (.p :: cs))) : RunX P ops (o :: l) i tm bx nx cs Q :=
 RunX.call hop hc hg hf ha h hcl (RunX.e t.h)
end
end Go.AI
end

section
namespace Go.AI
open Go
def zd : Lean.Meta.Simp.Config := { maxDischargeDepth := 120 }
section
variable {P : Program} {C : Ctx} {st : St}
theorem WK.z {k k' : List Item} (h : WK P C k' st) (e : WK P C k' st → WK P C k st := by intro h; (repeat (first | apply WK.s | apply WK.b | apply WK.n | apply WK.k | apply WK.label | apply WK.scope | apply WK.inScope | refine WK.exit rfl ?_)); exact h) : WK P C k st := e h
theorem WK.G {ops : Array Oper} {nx : Nat} {tm : Nat → AV} {bx : Nat → Box} (n' : Nat) {id n : Nat} {k : List Item} (hn : C.fn.ntmps = n)
   (h : ∀ A, A = ops → ∀ Q : (Nat → AV) → (Nat → Box) → Prop, (∀ tm bx, WK P C k ⟨tm, bx, n'⟩ → Q tm bx) → RunF P A (fun _ => .w) nx Q ops.toList 0 tm bx) (hd : dstB n ops = true := by kernel_rfl) :
   WK P C (.code (.region id ops false) :: k) ⟨tm, bx, nx⟩ := WK.g n' hn hd h
theorem WK.D {ops : Array Oper} {nx : Nat} {tm : Nat → AV} {bx : Nat → Box} (n' : Nat) {id n : Nat} {k : List Item} (hn : C.fn.ntmps = n)
   (h : ∀ A, A = ops → ∀ Q : (Nat → AV) → (Nat → Box) → Prop, (∀ tm bx, WK P C k ⟨tm, bx, n'⟩ → Q tm bx) → RunF P A clsOf nx Q ops.toList 0 tm bx) (hm : P.follows .mixedOrders = true := by kernel_rfl) (hd : dstB n ops = true := by kernel_rfl) (hok : drawOk ops (ops.toList.map clsOf) = true := by kernel_rfl) :
   WK P C (.code (.region id ops true) :: k) ⟨tm, bx, nx⟩ := WK.regD n' clsOf hm hn hd hok h
theorem WK.R {ops : Array Oper} {nx : Nat} {tm : Nat → AV} {bx : Nat → Box} {id n : Nat} {k : List Item} (hn : C.fn.ntmps = n)
   (h : ∀ A, Hid (A = ops) → ∀ Q : (Nat → AV) → (Nat → Box) → Prop, Hid (∀ tm bx, WK P C k ⟨tm, bx, nx + 100⟩ → Q tm bx) → RunH P A (fun _ => .w) nx Q ops.toList 0 tm bx) (hd : dstB n ops = true := by kernel_rfl) :
   WK P C (.code (.region id ops false) :: k) ⟨tm, bx, nx⟩ := WK.rH hn hd h
theorem WK.X {ops : Array Oper} {nx : Nat} {tm : Nat → AV} {bx : Nat → Box} {id n : Nat} {k : List Item} (hn : C.fn.ntmps = n)
   (h : ∀ A, Hid (A = ops) → ∀ Q : (Nat → AV) → (Nat → Box) → List Cls → Prop, Hid (∀ tm bx cs, drawOk ops cs.reverse = true → WK P C k ⟨tm, bx, nx + 100⟩ → Q tm bx cs) → RunY P A nx Q ops.toList 0 tm bx []) (hm : P.follows .mixedOrders = true := by kernel_rfl) (hd : dstB n ops = true := by kernel_rfl) :
   WK P C (.code (.region id ops true) :: k) ⟨tm, bx, nx⟩ := WK.rX hm hn hd h
theorem WK.N {k : List Item} {tm : Nat → AV} {bx : Nat → Box} {nx : Nat} {st' : St} (σ : Nat → Nat) (h : WK P C k st')
   (ht : TmW σ st'.bx st'.tm tm := by repeat (first | exact TmW.nil | refine TmW.upd ?_ (by simp (maxDischargeDepth := 120)))) (hb : BxW σ st'.bx st'.bx bx := by repeat (first | exact BxW.nil | refine BxW.upd ?_ (by simp (maxDischargeDepth := 120))))
   (hi : InjW σ st'.bx := by first | exact InjW.id | exact InjW.nil | exact InjW.one | exact InjW.two (by simp) | exact InjW.three (by simp) (by simp) (by simp))
   (hA : anOk (fun n => σ n = n ∧ (st'.bx n).live = true) C.an := by first | exact trivial | exact ⟨by simp, trivial⟩) : WK P C k ⟨tm, bx, nx⟩ := WK.next σ h ht hb hi hA
theorem WK.L {ι : Type} {c : Code} {k : List Item} {tm : Nat → AV} {bx : Nat → Box} {nx : Nat} (σ : Nat → Nat) (S : ι → St) (I : ι → Prop) (μ : ι → Nat) (i0 : ι)
   (ht : TmW σ (S i0).bx (S i0).tm tm) (hb : BxW σ (S i0).bx (S i0).bx bx) (h0 : I i0)
   (round : ∀ i, I i → (∀ j, I j → μ j < μ i → WK P C (.inLoop c :: k) (S j)) → WK P C (.code c :: .inLoop c :: k) (S i))
   (hi : InjW σ (S i0).bx := by first | exact InjW.id | exact InjW.nil | exact InjW.one | exact InjW.two (by simp) | exact InjW.three (by simp) (by simp) (by simp))
   (hA : anOk (fun n => σ n = n ∧ ((S i0).bx n).live = true) C.an := by first | exact trivial | exact ⟨by simp, trivial⟩) : WK P C (.code (.loop c) :: k) ⟨tm, bx, nx⟩ := WK.lI σ S I μ i0 ht hb hi h0 round hA
end
end Go.AI
end

section
namespace Go.AI
open Go
section
variable {P : Program} {ops : Array Oper} {l : List Oper} {i nx : Nat} {tm : Nat → AV} {bx : Nat → Box} {cl : List Cls} {Q : (Nat → AV) → (Nat → Box) → List Cls → Prop} {o : Oper}
theorem RunX.slOwn {t e : TypeId} {xo : Operand} {lo hi : Option Operand} {n k a b s by_ : Nat} {cs : List AV} (hok : AppOk P t e s by_) (ho : o.op = .slice t xo lo hi none) (hw : wantedA ops tm o = some true)
   (hx : evA tm xo = .msl n 0 k) (hb : bx n = .buf s cs) (hbd : boundsA k k (lo.map (evA tm)) (hi.map (evA tm)) none = some (a, b, none)) (hlk : a < k ∨ a = 0)
   (h : RunX P ops l (i + 1) (putA tm o.dst (.msl n (a * s) (b - a))) bx nx (.rn n :: cl) Q) : RunX P ops (o :: l) i tm bx nx cl Q :=
 .consC (.rn n) (fun ho' => StepC.ofRn ho' hw fun b h1 => Mems.slOwn ho hok hx (h1.trans hb) hbd hlk) h
end
end Go.AI
end
