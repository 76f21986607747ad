/- ! Maps to ints: their entries in the order in which they came. -/
import Derived.Test.YtmhapglejjehbaaGreatAe
import Derived.MapKept
import Derived.Laws.CopyRow
import Derived.Laws.BytesArg
import Derived.Laws.Strings
set_option linter.all false
set_option linter.unnecessarySimpa false
section
namespace Go.AI
section
variable {P : Program} {E E' : Env} {G G' : Heap} {w w' : World} {ρ : Operand → AV} {a : Act} {bx : Nat → Box}
open Classical in
theorem Mems.slOwn {o : Oper} {t e : TypeId} {xo : Operand} {lo hi : Option Operand} {n k l h s by_ : Nat} {cs : List AV} (ho : o.op = .slice t xo lo hi none) (hok : AppOk P t e s by_) (hx : ρ xo = .msl n 0 k)
   (hb : bx n = .buf s cs) (hbd : boundsA k k (lo.map ρ) (hi.map ρ) none = some (l, h, none)) (hlk : l < k ∨ l = 0) : Mems P ρ bx o (.msl n (l * s) (h - l)) bx := by
 intro a w E G hρ hheap K Q hK
 let ρ' : Operand → AV := fun y => if y ∈ o.op.operands then ρ y else .junk
 have hρ' : ∀ y, Rel E G (ρ' y) (a.eval y) := fun y => by
   by_cases hy : y ∈ o.op.operands
   · simp only [ρ', hy, if_true]; exact hρ y hy
   · simp only [ρ', hy, if_false, Rel]
 have hbd' : boundsA k k (lo.map ρ') (hi.map ρ') none = some (l, h, none) := by
   rw [← hbd]
   cases lo <;> cases hi <;> simp [ρ', ho, Op.operands]
 have hxv := hρ xo (by simp [ho, Op.operands])
 rw [hx] at hxv
 simp only [Rel] at hxv
 obtain ⟨i, z, hu, hi', hz, hsz, hby, hzs⟩ := hok.facts
 have htde := hok.tde
 have hes : sz P e = s := hok.sz
 rcases hxv with ⟨blk, cap, hev, hc1, hc2, hE⟩ | ⟨hE, _, hk0, ad, hev⟩
 · obtain ⟨hr, b1, b2, b3⟩ := bounds_sound (P := P) (w := w) (isSlice := true) (mx := none) hρ' hc1 (Nat.le_refl k) hbd'
   simp only [Option.getD_none] at hr b2
   have hbox := hheap.box n
   rw [hb] at hbox
   rcases hE with ⟨sz', tot, hE, ht⟩ | hE
   · rw [hE] at hbox
     simp only [BoxOk] at hbox
     obtain ⟨rfl, _⟩ := hbox
     have hrun : (execOp a.eval o).run P w = .ok (.value (.slice (some ⟨blk, l * sz', none⟩) (h - l) (cap - l))) w := by
       have hadd : (if cap = l then (some ⟨blk, 0, none⟩ : Option Addr) else (some ⟨blk, 0, none⟩ : Option Addr).map (·.add (l * sz P e))) = some ⟨blk, l * sz', none⟩ := by
         by_cases hcl : cap = l
         · rw [if_pos hcl]
           have : l = 0 := by rcases hlk with h0 | h0 <;> omega
           simp [this]
         · rw [if_neg hcl, hes]; simp [addr_add]
       have h1 : (Instr.sliceAt t (a.eval xo) (lo.map a.eval) (hi.map a.eval) none).run P w = .ok (.slice (some ⟨blk, l * sz', none⟩) (h - l) (cap - l)) w := by
         unfold Instr.sliceAt
         simp only [Option.map_none] at hr
         rw [← hadd]
         simp [AI.run_underlying hu, hev, Instr.slice, hr, run_sizeOf htde]
       simp [execOp, ho, h1]
     refine .inl ?_
     unfold Oper.wp
     rw [hrun]
     refine hK _ w E G ?_ hheap (.refl _ _ _ _)
     simp only [Rel]
     have hlc : l ≤ cap := by omega
     refine .inl ⟨blk, cap - l, rfl, by omega, by omega, .inl ⟨sz', tot, hE, ?_⟩⟩
     have : l * sz' + (cap - l) * sz' = cap * sz' := by rw [← Nat.add_mul]; congr 1; omega
     omega
   · rw [hE] at hbox; simp [BoxOk] at hbox
 · subst hk0
   obtain ⟨hr, b1, b2, b3⟩ := bounds_sound (P := P) (w := w) (isSlice := true) (mx := none) hρ' (Nat.le_refl 0) (Nat.le_refl 0) hbd'
   simp only [Option.getD_none, Nat.le_zero] at hr b2
   subst b2
   have hl0 : l = 0 := by omega
   subst hl0
   have hrun : (execOp a.eval o).run P w = .ok (.value (.slice ad 0 0)) w := by
     have h1 : (Instr.sliceAt t (a.eval xo) (lo.map a.eval) (hi.map a.eval) none).run P w = .ok (.slice ad 0 0) w := by
       unfold Instr.sliceAt
       simp only [Option.map_none] at hr
       simp [AI.run_underlying hu, hev, Instr.slice, hr, run_sizeOf htde]
     simp [execOp, ho, h1]
   refine .inl ?_
   unfold Oper.wp
   rw [hrun]
   refine hK _ w E G ?_ hheap (.refl _ _ _ _)
   simp only [Rel, Nat.zero_mul]
   exact .inr ⟨hE, trivial, trivial, ad, rfl⟩
theorem upd_id {α : Type} (f : Nat → α) (i : Nat) (v : α) (h : f i = v) : upd f i v = f := by
 funext j; unfold upd; split
 · rename_i e; rw [e, h]
 · rfl
theorem Mems.clear {o : Oper} {c : Call} {t e : TypeId} {xo : Operand} {n off k s by_ : Nat} {cs : List AV} (ho : o.op = .call c) (hc : c.callee = .builtin .clear)
   (hat : c.argTypes = #[t]) (harg : c.args = #[xo]) (hok : AppOk P t e s by_) (hx : ρ xo = .msl n off k) (hb : bx n = .buf s cs) (hl : off + k * s ≤ cs.length) :
   Mems P ρ bx o (.tup []) (upd bx n (.buf s (splice cs off (List.replicate k (zr P e).cells).flatten))) := by
 intro a w E G hρ hheap K Q hK
 obtain ⟨i, z, hu, hi', hz, hsz, hby, hzs⟩ := hok.facts
 have hxv := hρ xo (by simp [ho, Op.operands, Call.operands, hc, harg])
 rw [hx] at hxv
 simp only [Rel] at hxv
 have hexec : ∀ w', (Builtin.clear_ #[t] o.type #[a.eval xo]).run P w = .ok (.tuple #[]) w' → (execOp a.eval o).run P w = .ok (.value (.tuple #[])) w' := by
   intro w' hr
   simp only [execOp, ho, resolve, hc, harg, hat, Sem.run_bind, Sem.run_pure, Result.andThen_ok, invoke, builtin, List.map_toArray, List.map_cons, List.map_nil, hr]
 have hlen0 : ((List.replicate 0 (zr P e).cells).flatten : List AV) = [] := rfl
 by_cases hk : k = 0
 · subst hk
   have hsp : splice cs off (List.replicate 0 (zr P e).cells).flatten = cs := by
     rw [hlen0]; unfold splice; simp
   rw [hsp, upd_id bx n _ hb] at hK
   have hrun : (Builtin.clear_ #[t] o.type #[a.eval xo]).run P w = .ok (.tuple #[]) w := by
     rcases hxv with ⟨blk, cap, hev, _⟩ | ⟨hE, _, _, ad, hev⟩
     · rw [hev]; simp [Builtin.clear_, AI.run_underlying hu]
     · rw [hev]; cases ad <;> simp [Builtin.clear_, AI.run_underlying hu]
   refine .inl ?_
   unfold Oper.wp
   rw [hexec _ hrun]
   exact hK _ w E G (by simp [Rel, RelL]) hheap (.refl _ _ _ _)
 · rcases hxv with ⟨blk, cap, hev, _, _, hE⟩ | ⟨_, _, hk0, _⟩
   · have hbox := hheap.box n
     rw [hb] at hbox
     rcases hE with ⟨sz', tot, hE, ht⟩ | hE
     · rw [hE] at hbox
       simp only [BoxOk] at hbox
       obtain ⟨rfl, vs, rest, T, hh, hrel, hones, hlen⟩ := hbox
       obtain ⟨zv, hz1, hz2⟩ := zr_spec (P := P) (x := zr P e) rfl hok.zr
       have hzz : zv = z := by
         have h1 := hz1 w
         have h2 := run_zero (P := P) (w := w) hi' hz
         rw [h1] at h2
         simpa using h2
       subst hzz
       obtain ⟨g1, g2⟩ := (hz2 E G).cells hok.zr
       have hvl := hrel.length
       have hzl : (List.replicate k zv.cells.toList).flatten.length = k * sz' := by
         have := (g1.rep k).length
         have hzc : (zr P e).cells.length = sz' := hok.zl
         simp at this ⊢
         rw [hzs]
       have hcyc : (Builtin.zeroCells zv.cells k).toList = (List.replicate k zv.cells.toList).flatten := by
         rw [← cyc_eq hzs k]; simp [Builtin.zeroCells, hzs]
       have hst := run_storeCells_at P blk off T (List.replicate k zv.cells.toList).flatten 0 (vs ++ rest).toArray w hh (by simp only [hzl]; simp; omega) (g2.rep k)
       simp only [Nat.add_zero] at hst
       have hsp : (vs ++ rest).take off ++ (List.replicate k zv.cells.toList).flatten ++ (vs ++ rest).drop (off + (List.replicate k zv.cells.toList).flatten.length) =
           (vs.take off ++ (List.replicate k zv.cells.toList).flatten ++ vs.drop (off + (List.replicate k zv.cells.toList).flatten.length)) ++ rest := by
         rw [List.take_append_of_le_length (by omega), List.drop_append_of_le_length (by omega)]
         simp
       rw [hsp] at hst
       have hrr := g1.rep k
       have hcl : (splice cs off (List.replicate k (zr P e).cells).flatten).length = cs.length := by
         have := hrr.length
         simp only [splice, List.length_append, List.length_take, List.length_drop]
         omega
       obtain ⟨hok', hext⟩ := hheap.write (n := n) (blk := blk) (by rw [hb]; rfl) hE rfl hh hrel (hrel.splice hrr) (((hones.take _).append (g2.rep k)).append (hones.drop _)) hcl
       rw [hb] at hok' hext
       have hrun : (Builtin.clear_ #[t] o.type #[a.eval xo]).run P w = .ok (.tuple #[]) (w.setRow blk ((vs.take off ++ (List.replicate k zv.cells.toList).flatten ++ vs.drop (off + (List.replicate k zv.cells.toList).flatten.length)) ++ rest).toArray) := by
         rw [hev]
         obtain ⟨k', rfl⟩ : ∃ k', k = k' + 1 := ⟨k - 1, by omega⟩
         simp [Builtin.clear_, AI.run_underlying hu, hz1 w, hcyc, hst]
       refine .inl ?_
       unfold Oper.wp
       rw [hexec _ hrun]
       exact hK _ _ E G (by simp [Rel, RelL]) hok' hext
     · rw [hE] at hbox; simp [BoxOk] at hbox
   · exact absurd hk0 hk
theorem Mems.callBm {o : Oper} {c : Call} {fo : Operand} {f : FuncId} {caps args : List AV} {b b' : Box} {k : Nat} (n : Nat) (ho : o.op = .call c) (hc : c.callee = .value fo)
   (hf : ρ fo = .fn f caps) (h : FnB P f args b (.msl 0 0 k) b') (hle : wkL (fun _ => n) (upd B0 0 b) args (c.args.toList.map ρ ++ caps)) (hb : b.live = true) (hw : wkB (fun _ => n) (upd B0 0 b) bx 0 b)
   (hb' : b'.live = true) (hcb : ClB b' = true) :
   Mems P ρ bx o (.msl n 0 k) (upd bx n b') := by
 intro a w E G hρ hok K Q hk
 obtain ⟨vs, hrun, hvs⟩ := run_callFn (w := w) ho hc hf h.1 hρ
 have hln : (bx n).live = true := wkB_live hw hb
 obtain ⟨l, hE⟩ := hok.loc hln
 obtain ⟨g1, _⟩ := hok.give hE hw hb
 have hEE : ∀ m, (upd B0 0 b m).live = true → setE E0 0 l m = E ((fun _ => n) m) := fun m hm => by
   have := B0_one hm; subst this; simp [setE, hE]
 have hcalls := h.2 w G l vs g1 (wkL_rel hEE hle hvs)
 refine .inl ?_
 unfold Oper.wp
 rw [hrun, Oper.upon_enter]
 refine Calls.mono hcalls fun e w'' he => ?_
 obtain ⟨v, G', E1, rfl, hx, hg, hext⟩ := he
 obtain ⟨l', hl', g2, g3⟩ := hok.back hE hln hb' hcb hg hext
 refine hk v w'' _ G' ?_ g2 g3
 simp only [Rel, hl'] at hx ⊢
 simpa [setE] using hx
end
section
variable {P : Program} {ops : Array Oper} {cf : Oper → Cls} {l : List Oper} {i nx : Nat} {tm : Nat → AV} {bx : Nat → Box} {Q : (Nat → AV) → (Nat → Box) → Prop} {o : Oper}
theorem RunQ.slOwn {t e : TypeId} {xo : Operand} {lo hi : Option Operand} {n k a b s by_ : Nat} {cs : List AV} (hok : AppOk P t e s by_) (ho : o.op = .slice t xo lo hi none) (hw : wantedA ops tm o = some true)
   (hcf : cf o = .w) (hx : evA tm xo = .msl n 0 k) (hb : bx n = .buf s cs) (hbd : boundsA k k (lo.map (evA tm)) (hi.map (evA tm)) none = some (a, b, none)) (hlk : a < k ∨ a = 0)
   (h : RunQ P ops cf l (i + 1) (putA tm o.dst (.msl n (a * s) (b - a))) bx nx Q) : RunQ P ops cf (o :: l) i tm bx nx Q :=
 RunQ.mem hw hcf (Mems.slOwn ho hok hx hb hbd hlk) h
theorem RunQ.callBm (n : Nat) {c : Call} {fo : Operand} {f : FuncId} {caps args : List AV} {b b' : Box} {k : Nat} (hop : o.op = .call c) (hc : c.callee = .value fo) (hcf : cf o = .w) (hw : wantedA ops tm o = some true)
   (hf : evA tm fo = .fn f caps) (h : FnB P f args b (.msl 0 0 k) b') (hle : wkL (fun _ => n) (upd B0 0 b) args (c.args.toList.map (evA tm) ++ caps)) (hwb : wkB (fun _ => n) (upd B0 0 b) bx 0 b)
   (hb : b.live = true) (hb' : b'.live = true) (hcb : ClB b' = true)
   (t : RunQ P ops cf l (i + 1) (putA tm o.dst (.msl n 0 k)) (upd bx n b') nx Q) : RunQ P ops cf (o :: l) i tm bx nx Q :=
 RunQ.mem hw hcf (Mems.callBm n hop hc hf h hle hb hwb hb' hcb) t
theorem RunQ.clear {c : Call} {t e : TypeId} {xo : Operand} {n off k s by_ : Nat} {cs : List AV} (hok : AppOk P t e s by_) (ho : o.op = .call c) (hc : c.callee = .builtin .clear)
   (hat : c.argTypes = #[t]) (harg : c.args = #[xo]) (hw : wantedA ops tm o = some true) (hcf : cf o = .w) (hx : evA tm xo = .msl n off k) (hb : bx n = .buf s cs) (hl : off + k * s ≤ cs.length)
   (h : RunQ P ops cf l (i + 1) (putA tm o.dst (.tup [])) (upd bx n (.buf s (splice cs off (List.replicate k (zr P e).cells).flatten))) nx Q) : RunQ P ops cf (o :: l) i tm bx nx Q :=
 RunQ.mem hw hcf (Mems.clear ho hc hat harg hok hx hb hl) h
end
end Go.AI
end

section
namespace Go.AI
section
variable {P : Program} {E E' : Env} {G G' : Heap} {w w' : World} {ρ : Operand → AV} {a : Act} {bx : Nat → Box}
theorem Mems.appendF {o : Oper} {c : Call} {t e : TypeId} {xo yo : Operand} {nm s by_ k m : Nat} {fl : Bool} {cs ds : List AV} (ho : o.op = .call c) (hc : c.callee = .builtin .append)
   (hat : c.argTypes = #[t, t]) (harg : c.args = #[xo, yo]) (hok : AppOk P t e s by_) (hx : ρ xo = .sl true k cs) (hy : ρ yo = .sl fl m ds) (hk0 : 0 < k) (hm0 : 0 < m) (hk : k * s ≤ cs.length)
   (hm : m * s ≤ ds.length) (hbound : (k + m) * by_ ≤ 140737488355328) (hnm : bx nm = .none) :
   Mems P ρ bx o (.msl nm 0 (k + m)) (upd bx nm (.buf s (cs.take (k * s) ++ ds.take (m * s)))) := by
 intro a w E G hρ hheap K Q hK
 obtain ⟨i, z, hu, hi, hz, hsz, hby, hzs⟩ := hok.facts
 have hpos := hok.pos
 have htde : td P e ≠ .none := hok.tde
 have hxv := hρ xo (by simp [ho, Op.operands, Call.operands, hc, harg])
 have hyv := hρ yo (by simp [ho, Op.operands, Call.operands, hc, harg])
 rw [hx] at hxv; rw [hy] at hyv
 have hby1 : 0 < by_ := hok.bpos
 have hkm : k + m ≤ 140737488355328 := Nat.le_trans (Nat.le_mul_of_pos_right _ hby1) hbound
 have hexec : ∀ r : Result Value, (Builtin.append_ #[t, t] o.type #[a.eval xo, a.eval yo]).run P w = r →
     (execOp a.eval o).run P w = r.andThen fun v w' => .ok (.value v) w' := by
   intro r hr
   simp only [execOp, ho, resolve, hc, harg, hat, Sem.run_bind, Sem.run_pure, Result.andThen_ok, invoke, builtin, List.map_toArray, List.map_cons, List.map_nil, hr]
 simp only [Rel] at hxv hyv
 rcases hxv with ⟨ad, cap, hv, h0, h1, h2⟩ | ⟨blk, off, cap, vs, hxe, hkc, hk63, hfull, hvr, hvi, hvo⟩
 · omega
 rcases hyv with ⟨ad, cap', hv, h0, h1, h2⟩ | ⟨blk2, off2, cap2, us, hye, g1, g2, g3, g4, g5, g6⟩
 · omega
 have hcap := hfull trivial
 have hvl := hvr.length
 have hul := g4.length
 have ho1 := hvr.take (k * s)
 have ho2 : Ones (vs.take (k * s)) := hvo.take _
 have hn1 := g4.take (m * s)
 have hn2 : Ones (us.take (m * s)) := g6.take _
 have hol : (vs.take (k * s)).length = k * s := by rw [List.length_take]; omega
 have hnl : (us.take (m * s)).length = m * s := by rw [List.length_take]; omega
 have hrun := run_append_grow (P := P) w t o.type e i z hu hi hz ⟨blk, off, Option.none⟩ k cap (vs.take (k * s)) (by rw [hol, hsz]) (fun j v hj => by rw [addr_add]; exact hheap.gw _ _ _ (hvi.take _ j v hj))
   ⟨blk2, off2, Option.none⟩ m cap2 (us.take (m * s)) (by rw [hnl, hsz]) (fun j v hj => by rw [addr_add]; exact hheap.gw _ _ _ (g5.take _ j v hj)) (by omega) (by omega) (growslice_fits (by omega) (by rw [hby]; exact hbound))
 rw [← hxe, ← hye] at hrun
 have hge := grownCap_ge w (k + m) cap e
 have hle := grownCap_le_maxLen w (k + m) cap e (by simp only [maxLen]; omega)
 have hEnm : E nm = Option.none := hheap.none hnm
 have hE1 : EnvLe E (setE E nm (.buf w.heap.size s (grownCap w (k + m) cap e))) := setE_le hEnm
 have hbufok : BoxOk (setE E nm (.buf w.heap.size s (grownCap w (k + m) cap e))) G
     (w.drew.alloc (.cells ((vs.take (k * s)).toArray ++ (us.take (m * s)).toArray ++ Builtin.zeroCells z.cells (grownCap w (k + m) cap e - (k + m))) e))
     (.buf s (cs.take (k * s) ++ ds.take (m * s))) (some (.buf w.heap.size s (grownCap w (k + m) cap e))) := by
   simp only [BoxOk]
   refine ⟨trivial, vs.take (k * s) ++ us.take (m * s), (Builtin.zeroCells z.cells (grownCap w (k + m) cap e - (k + m))).toList, e, ?_, (ho1.mono hE1 (.refl _)).append (hn1.mono hE1 (.refl _)), ho2.append hn2, ?_⟩
   · have h0 := heap_alloc_new w.drew (.cells ((vs.take (k * s)).toArray ++ (us.take (m * s)).toArray ++ Builtin.zeroCells z.cells (grownCap w (k + m) cap e - (k + m))) e)
     have h1 : (vs.take (k * s) ++ us.take (m * s) ++ (Builtin.zeroCells z.cells (grownCap w (k + m) cap e - (k + m))).toList).toArray = (vs.take (k * s)).toArray ++ (us.take (m * s)).toArray ++ Builtin.zeroCells z.cells (grownCap w (k + m) cap e - (k + m)) := by
       apply Array.ext'; simp
     rw [h1]
     exact h0
   · have h2 := size_zeroCells z.cells (grownCap w (k + m) cap e - (k + m))
     simp only [List.length_append, Array.length_toList, hol, hnl, h2, hzs]
     rw [← Nat.add_mul, ← Nat.add_mul]
     congr 1; omega
 obtain ⟨hok2, hext2⟩ := hheap.push (n := nm) (l := .buf w.heap.size s (grownCap w (k + m) cap e)) (bn := .buf s (cs.take (k * s) ++ ds.take (m * s)))
   (w' := w.drew.alloc (.cells ((vs.take (k * s)).toArray ++ (us.take (m * s)).toArray ++ Builtin.zeroCells z.cells (grownCap w (k + m) cap e - (k + m))) e)) hnm rfl ⟨_, _, rfl⟩ rfl rfl rfl rfl hbufok
 refine .inl ?_
 unfold Oper.wp
 rw [hexec _ hrun]
 simp only [Result.andThen_ok]
 refine hK _ _ _ _ ?_ hok2 hext2
 simp only [Rel]
 exact .inl ⟨w.heap.size, _, rfl, hge, by omega, .inl ⟨s, grownCap w (k + m) cap e, by simp [setE], by simp⟩⟩
end
section
variable {P : Program} {ops : Array Oper} {cf : Oper → Cls} {l : List Oper} {i nx : Nat} {tm : Nat → AV} {bx : Nat → Box} {Q : (Nat → AV) → (Nat → Box) → Prop} {o : Oper}
theorem RunQ.appendF {c : Call} {t e : TypeId} {xo yo : Operand} {s by_ k m : Nat} {fl : Bool} {cs ds : List AV} (nm : Nat) (hok : AppOk P t e s by_) (ho : o.op = .call c) (hc : c.callee = .builtin .append)
   (hat : c.argTypes = #[t, t]) (harg : c.args = #[xo, yo]) (hx : evA tm xo = .sl true k cs) (hy : evA tm yo = .sl fl m ds) (hw : wantedA ops tm o = some true) (hcf : cf o = .w) (hk0 : 0 < k) (hm0 : 0 < m)
   (hk : k * s ≤ cs.length) (hm : m * s ≤ ds.length) (hbound : (k + m) * by_ ≤ 140737488355328) (hnm : bx nm = .none)
   (h : RunQ P ops cf l (i + 1) (putA tm o.dst (.msl nm 0 (k + m))) (upd bx nm (.buf s (cs.take (k * s) ++ ds.take (m * s)))) nx Q) : RunQ P ops cf (o :: l) i tm bx nx Q :=
 RunQ.mem hw hcf (Mems.appendF ho hc hat harg hok hx hy hk0 hm0 hk hm hbound hnm) h
theorem RunQ.callOz {c : Call} {fo : Operand} {f : FuncId} {caps args : List AV} {n k n' s' : Nat} {cs cs' : List AV} (nm t s : Nat) (hop : o.op = .call c) (hc : c.callee = .value fo) (hg : wantedA ops tm o = some true)
   (hcf : cf o = .w) (ht : tm t = .msl n 0 k) (hb : (bx n).cells? = some cs) (hf : evA (upd tm t (.sl false k (cs.take (k * s)))) fo = .fn f caps)
   (ha : LeL (c.args.toList.map (evA (upd tm t (.sl false k (cs.take (k * s))))) ++ caps) args) (h : FnO P f args n' s' cs') (hcl : ClL args = true) (hcs : ClL cs' = true) (hnm : bx nm = .none) (hne : nm ≠ n)
   (hk : RunQ P ops cf l (i + 1) (putA tm o.dst (.msl nm 0 n')) (upd (upd bx n .gone) nm (.buf s' cs')) nx Q) : RunQ P ops cf (o :: l) i tm bx nx Q := by
 refine RunQ.mem hg hcf (Mems.frz hb (ρ' := evA (upd tm t (.sl false k (cs.take (k * s))))) (fun y => ?_) (Mems.callO hop hc hf ha h hcl hcs (by rw [upd_ne _ _ _ _ hne]; exact hnm))) hk
 cases y with
 | tmp j =>
   by_cases hj : j = t
   · subst hj; exact .inr (.inr ⟨k, s, ht, by simp⟩)
   · left; simp [upd_ne _ _ _ _ hj]
 | const v => exact .inl rfl
 | global g => exact .inl rfl
 | func g => exact .inl rfl
end
end Go.AI
end

namespace Go.AI
theorem FnO.toP {P : Program} {f : FuncId} {args : List AV} {n s : Nat} {cs : List AV} (h : FnO P f args n s cs) (hcl : ClL (cs.take (n * s)) = true) : FnP P f args (.sl false n (cs.take (n * s))) := by
 refine ⟨h.1, fun w G vs hg hr => ?_⟩
 refine Calls.mono (h.2 w G vs hg hr) fun e w' he => ?_
 obtain ⟨v, G', E', rfl, hx, hok, hext⟩ := he
 obtain ⟨G'', h1, h2, h3, _, h4⟩ := frz hok (n := 0) (cs := cs) (by simp [Box.cells?])
 have h5 := h4 0 n s v hx (.inr rfl)
 simp only [List.drop_zero] at h5
 have hx2 := hext.trans h3
 exact ⟨v, G'', rfl, Rel.closed (E := E') _ _ (by simpa [Cl] using hcl) h5, h2.gw, ⟨hx2.os, hx2.tape, hx2.output, hx2.fz, hx2.size, .refl _, hx2.heap, hx2.frame, fun b hb => absurd hb (Live_B0 _ _)⟩⟩
end Go.AI

section
namespace Go.AI
structure Hid (p : Prop) : Prop where
 h : p
structure Fork (b : Bool) (A B : Prop) : Prop where
 t : b = true → A
 f : b = false → B
@[simp] theorem Fork.left (A B : Prop) : Fork true A B = A := propext ⟨fun h => h.t rfl, fun h => ⟨fun _ => h, fun x => by cases x⟩⟩
@[simp] theorem Fork.right (A B : Prop) : Fork false A B = B := propext ⟨fun h => h.f rfl, fun h => ⟨fun x => (by cases x), fun _ => h⟩⟩
def GuardQ (x : AV) (want : Bool) (A B : Prop) : Prop := match x with
 | .bool b => Fork (b == want) A B
 | .tup _ => B
 | _ => False
section
variable {P : Program} {ops : Array Oper} {C : Ctx} {cf : Oper → Cls} {l : List Oper} {i nx : Nat} {tm : Nat → AV} {bx : Nat → Box} {Q : (Nat → AV) → (Nat → Box) → Prop} {o : Oper}
def RunH (P : Program) (ops : Array Oper) (cf : Oper → Cls) (nx : Nat) (Q : (Nat → AV) → (Nat → Box) → Prop) : List Oper → Nat → (Nat → AV) → (Nat → Box) → Prop
 | [], _, tm, bx => Q tm bx
 | o :: l, i, tm, bx => match o.guard with
   | some _ => RunQ P ops cf (o :: l) i tm bx nx Q
   | none => match memF P (nx + i) o.op tm bx with
     | some (c, x, bx') => clsLe c (cf o) = true ∧ RunH P ops cf nx Q l (i + 1) (putA tm o.dst x) bx'
     | none => RunQ P ops cf (o :: l) i tm bx nx Q
theorem RunQ.evalH : ∀ {l : List Oper} {i : Nat} {tm : Nat → AV} {bx : Nat → Box}, RunH P ops cf nx Q l i tm bx → RunQ P ops cf l i tm bx nx Q
 | [], i, tm, bx, h => .nil h
 | o :: l, i, tm, bx, h => by
   simp only [RunH] at h
   split at h
   · exact h
   · rename_i hg
     split at h
     · rename_i c x bx' hs
       have hs' : stepF P ops (nx + i) o tm bx = some (c, x, bx') := by
         unfold stepF wantedA; rw [hg]; exact hs
       exact .consC (fun ho => stepF_sound (st := ⟨tm, bx, nx⟩) ho hs' h.1) (RunQ.evalH h.2)
     · exact h
def RunQW (P : Program) (ops : Array Oper) (cf : Oper → Cls) (l : List Oper) (i : Nat) (tm : Nat → AV) (bx : Nat → Box) (nx : Nat) (Q : (Nat → AV) → (Nat → Box) → Prop) (o : Oper) : Prop :=
 wantedA ops tm o = some true → RunQ P ops cf l i tm bx nx Q
def RunW (P : Program) (ops : Array Oper) (cf : Oper → Cls) (nx : Nat) (Q : (Nat → AV) → (Nat → Box) → Prop) (o : Oper) (l : List Oper) (i : Nat) (tm : Nat → AV) (bx : Nat → Box) : Prop :=
 match memF P (nx + i) o.op tm bx with
 | some (c, x, bx') => clsLe c (cf o) = true ∧ RunH P ops cf nx Q l (i + 1) (putA tm o.dst x) bx'
 | none => RunQW P ops cf (o :: l) i tm bx nx Q o
theorem RunQ.g {j t : Nat} {want : Bool} (hg : o.guard = some (j, want)) (ht : (ops[j]?).bind (·.dst) = some t)
   (h : GuardQ (tm t) want (RunW P ops cf nx Q o l i tm bx) (RunH P ops cf nx Q l (i + 1) (putA tm o.dst (.tup [])) bx)) : RunQ P ops cf (o :: l) i tm bx nx Q := by
 have skip : wantedA ops tm o = some false → RunH P ops cf nx Q l (i + 1) (putA tm o.dst (.tup [])) bx → RunQ P ops cf (o :: l) i tm bx nx Q := fun hw hh =>
   .consC (fun ho => .skip ho hw) (RunQ.evalH hh)
 have go : wantedA ops tm o = some true → RunW P ops cf nx Q o l i tm bx → RunQ P ops cf (o :: l) i tm bx nx Q := fun hw hh => by
   unfold RunW at hh
   split at hh
   · rename_i c x bx' hs
     exact .consC (fun ho => stepF_sound (st := ⟨tm, bx, nx⟩) ho (by unfold stepF; rw [hw]; exact hs) hh.1) (RunQ.evalH hh.2)
   · exact hh hw
 unfold GuardQ at h
 split at h
 · rename_i b hb
   have hw : wantedA ops tm o = some (b == want) := by unfold wantedA; rw [hg]; simp only [ht, hb]
   cases hk : b == want
   · rw [hk] at hw; exact skip hw (h.f hk)
   · rw [hk] at hw; exact go hw (h.t hk)
 · rename_i vs hb
   exact skip (by unfold wantedA; rw [hg]; simp only [ht, hb]) h
 · exact h.elim
theorem RunQW.call {c : Call} {fo : Operand} {f : FuncId} {caps args : List AV} {r : AV} (hop : o.op = .call c) (hc : c.callee = .value fo) (hcf : notWn (cf o) = true)
   (hf : evA tm fo = .fn f caps) (ha : LeL (c.args.toList.map (evA tm) ++ caps) args) (h : FnP P f args r) (hcl : ClL args = true)
   (t : RunQ P ops cf l (i + 1) (putA tm o.dst r) bx nx Q) : RunQW P ops cf (o :: l) i tm bx nx Q o := fun hw =>
 RunQ.callG hop hc hw hcf hf ha h hcl t
theorem RunQW.by (h : wantedA ops tm o = some true → RunQ P ops cf l i tm bx nx Q) : RunQW P ops cf l i tm bx nx Q o := h
theorem WK.rH {id n : Nat} {k : List Item} (hn : C.fn.ntmps = n) (hd : dstB n ops = true)
   (h : ∀ A, Hid (A = ops) → ∀ Q : (Nat → AV) → (Nat → Box) → Prop, Hid (∀ tm bx, WK P C k ⟨tm, bx, nx + 100⟩ → Q tm bx) → RunH P A (fun _ => .w) nx Q ops.toList 0 tm bx) :
   WK P C (.code (.region id ops false) :: k) ⟨tm, bx, nx⟩ := by
 obtain ⟨L, s, e1, e2, e3, e4⟩ := RunQ.evalH (h _ ⟨rfl⟩ (fun tm bx => WK P C k ⟨tm, bx, nx + 100⟩) ⟨fun _ _ h => h⟩) rfl
 refine WK.region (dstB_ok (hn ▸ hd)) (dstB_nd hd) ?_
 have := ChainC.opsK (C := C) (k := k) e3 (WK.anyNx e4)
 rw [e1] at this
 rwa [List.range_eq_range', ← Array.length_toList]
theorem WK.regDH {id n : Nat} {k : List Item} (cf : Oper → Cls) (hm : P.follows .mixedOrders = true) (hn : C.fn.ntmps = n) (hd : dstB n ops = true) (hok : drawOk ops (ops.toList.map cf) = true)
   (h : ∀ A, Hid (A = ops) → ∀ Q : (Nat → AV) → (Nat → Box) → Prop, Hid (∀ tm bx, WK P C k ⟨tm, bx, nx + 100⟩ → Q tm bx) → RunH P A cf nx Q ops.toList 0 tm bx) :
   WK P C (.code (.region id ops true) :: k) ⟨tm, bx, nx⟩ := by
 obtain ⟨L, s, e1, e2, e3, e4⟩ := RunQ.evalH (h _ ⟨rfl⟩ (fun tm bx => WK P C k ⟨tm, bx, nx + 100⟩) ⟨fun _ _ h => h⟩) rfl
 refine WK.draw (cls := ops.toList.map cf) (s' := s) hm (dstB_ok (hn ▸ hd)) (dstB_nd hd) hok ?_ (WK.anyNx e4)
 have : (List.range ops.size).zip (ops.toList.map cf) = L := by
   rw [List.range_eq_range', ← Array.length_toList, ← e1, ← e2]
   clear e1 e2 e3
   induction L with
   | nil => rfl
   | cons x L ih => simp [ih]
 rw [this]
 exact e3
theorem WK.cT {c : Operand} {x y : Code} {k : List Item} {st : St} (hc : evA st.tm c = .bool true) (h : WK P C (.code x :: k) st) : WK P C (.code (.cond c x y) :: k) st :=
 WK.c2 hc (fun _ => h) (fun e => by cases e)
theorem WK.cF {c : Operand} {x y : Code} {k : List Item} {st : St} (hc : evA st.tm c = .bool false) (h : WK P C (.code y :: k) st) : WK P C (.code (.cond c x y) :: k) st :=
 WK.c2 hc (fun e => by cases e) (fun _ => h)
end
attribute [simp] RunH RunW GuardQ
end Go.AI
end

section
namespace Go.AI
def FnT (P : Program) (f : FuncId) (args : List AV) (n s : Nat) (cs : List AV) (rs : List AV) : Prop :=
 Callable P f ∧ ∀ (w : World) (G : Heap) (vs : List Value), GW G w → RelL E0 G args vs → Calls P f vs.toArray w (Rx B0 E0 G w (.tup (.msl 0 0 n :: rs)) (upd B0 0 (.buf s cs)))
section
variable {P : Program} {E E' : Env} {G G' : Heap} {w w' : World} {ρ : Operand → AV} {a : Act} {bx : Nat → Box} {C : Ctx} {st st' : St}
theorem Mems.callT {o : Oper} {c : Call} {fo : Operand} {f : FuncId} {caps args rs : List AV} {n s nm : Nat} {cs : List AV} (ho : o.op = .call c) (hc : c.callee = .value fo)
   (hf : ρ fo = .fn f caps) (hle : LeL (c.args.toList.map ρ ++ caps) args) (h : FnT P f args n s cs rs) (hcl : ClL args = true) (hcs : ClL cs = true) (hrs : ClL rs = true) (hnm : bx nm = .none) :
   Mems P ρ bx o (.tup (.msl nm 0 n :: rs)) (upd bx nm (.buf s cs)) := by
 intro a w E G hρ hok K Q hk
 obtain ⟨vs, hrun, hvs⟩ := run_callFn (w := w) ho hc hf h.1 hρ
 have hcalls := h.2 w G vs hok.gw (RelL.closed _ _ hcl (hle _ _ _ hvs) (E' := E0))
 refine .inl ?_
 unfold Oper.wp
 rw [hrun, Oper.upon_enter]
 refine Calls.mono hcalls fun e w'' he => ?_
 obtain ⟨v, G', E1, rfl, hx, hg, hext⟩ := he
 obtain ⟨l, hl⟩ := hg.loc (n := 0) (by simp [Box.live])
 have hE1 : E1 = setE E0 0 l := by
   funext m
   by_cases hm : m = 0
   · subst hm; simp [setE, hl]
   · have := hg.box m
     rw [upd_ne _ _ _ _ hm] at this
     simpa [setE, hm, E0, BoxOk, B0] using this
 subst hE1
 obtain ⟨h1, h2⟩ := hok.join hnm hcs hg hext
 refine hk v w'' _ G' ?_ h1 h2
 simp only [Rel] at hx
 obtain ⟨us, rfl, hx⟩ := hx
 simp only [RelL] at hx
 obtain ⟨v0, vs', rfl, hx0, hx1⟩ := hx
 simp only [Rel]
 refine ⟨v0 :: vs', rfl, RelL.cons ?_ (RelL.closed _ _ hrs hx1)⟩
 simp only [Rel, setE, if_true] at hx0 ⊢
 exact hx0
theorem FnT.intro {f : FuncId} {fn : Func} {c : Code} {args rs : List AV} {n s : Nat} {cs : List AV} (hf : P.funcs[f]? = some fn) (hn : (fn.name == "runtime.NumGoroutine") = false)
   (hb : fn.body = some c) (h : ∀ G w, WK P (CtxX f fn [] [] [] B0 E0 G w (.tup (.msl 0 0 n :: rs)) (upd B0 0 (.buf s cs))) [.code c] ⟨tmOf args, B0, 0⟩) : FnT P f args n s cs rs :=
 ⟨⟨fn, hf, hn, by simp [hb]⟩, fun w G vs hg hr => calls_of_wk (C := CtxX f fn [] [] [] B0 E0 G w (.tup (.msl 0 0 n :: rs)) (upd B0 0 (.buf s cs))) hf hb rfl rfl rfl (fun p hp => by cases hp) rfl rfl (fun b h1 => h1) (.start hg) hr (h G w)⟩
theorem WK.retT {f : FuncId} {fn : Func} {ms : List Nat} {kp : List (Nat × Obj)} {n n' s m : Nat} {cs c0 ys rs : List AV} {k : List Item} (hfn : P.funcs[f]? = some fn)
   (h : resL P st fn.results.toList = some (.msl m 0 n' :: ys)) (h2 : ys ≠ []) (hb : st.bx m = .buf s c0) (hn : n' = n) (hle : LeL c0 cs) (hrs : LeL ys rs) (hcl : ClL cs = true) (hcr : ClL rs = true) :
   WK P (CtxX f fn ms kp [] B0 E0 G w (.tup (.msl 0 0 n :: rs)) (upd B0 0 (.buf s cs))) (.code .ret :: k) st := by
 subst hn
 refine WK.retX (fun _ => m) hfn ?_ (BxW.upd BxW.nil (by simp only [wkB, hb]; exact ⟨trivial, .inl ⟨hcl, hle⟩⟩)) InjW.one (.inr ⟨k, rfl⟩) (fun n l h => by simp [E0] at h) trivial
 rw [h]
 have e : packA (.msl m 0 n' :: ys) = .tup (.msl m 0 n' :: ys) := by
   cases ys with
   | nil => exact absurd rfl h2
   | cons y ys => rfl
 simp only [e, wkT]
 refine .inr ⟨by simp [Cl, ClL], by simp [Nm, NmL, Box.live, NmL.closed _ _ hcr], ?_⟩
 simp only [Ren, RenL, RenL.closed _ _ hcr]
 exact Le.tup (LeL.cons (Le.refl _) hrs)
end
section
variable {P : Program} {E : Env} {G : Heap} {w : World} {ρ : Operand → AV} {bx : Nat → Box}
theorem zeroCells_one (z : Value) (m : Nat) : Builtin.zeroCells #[z] m = (List.replicate m z).toArray := by
 apply Array.ext'
 simp only [Builtin.zeroCells, List.size_toArray, List.length_cons, List.length_nil, Nat.zero_add, Nat.mul_one, Nat.mod_one]
 simp
 induction m with
 | zero => rfl
 | succ m ih => simp [List.range_succ, ih, List.replicate_succ']
theorem Mems.appendZ {o : Oper} {c : Call} {t ti e : TypeId} {xo yo : Operand} {n nm by_ k m : Nat} {kk : IntKind} {zv : AV} {cs : List AV} (ho : o.op = .call c) (hc : c.callee = .builtin .append)
   (hat : c.argTypes = #[t, ti]) (harg : c.args = #[xo, yo]) (hok : AppOk P t e 1 by_) (hti : td P ti = .int kk) (hzv : (zr P e).cells = [zv]) (hx : ρ xo = .msl n 0 k) (hy : ρ yo = .int .i64 (m : Int)) (hb : bx n = .buf 1 cs) (hk : cs.length = k)
   (hbound : (k + m) * by_ ≤ 140737488355328) (hnm : bx nm = .none) :
   Mems P ρ bx o (.msl nm 0 (k + m)) (upd (upd bx n .gone) nm (.buf 1 (cs ++ List.replicate m zv))) := by
 intro a w E G hρ hheap K Q hK
 obtain ⟨i, z, hu, hi, hz, hsz, hby, hzs⟩ := hok.facts
 have hti' : P.underlying ti = some (.int kk) := by
   obtain ⟨_, d, _, hd, hdt⟩ := td_some (P := P) (t := ti) (by rw [hti]; simp)
   rw [hti] at hdt
   cases d <;> simp only [tdOf, reduceCtorEq, TD.int.injEq] at hdt
   subst hdt; exact hd
 have htde : td P e ≠ .none := hok.tde
 have hxv := hρ xo (by simp [ho, Op.operands, Call.operands, hc, harg])
 have hyv := hρ yo (by simp [ho, Op.operands, Call.operands, hc, harg])
 rw [hx] at hxv; rw [hy] at hyv
 simp only [Rel] at hyv
 have hby1 : 0 < by_ := hok.bpos
 have hkm : k + m ≤ 140737488355328 := Nat.le_trans (Nat.le_mul_of_pos_right _ hby1) hbound
 have hlive : (bx n).live = true := by rw [hb]; rfl
 have hne : nm ≠ n := fun e => by subst e; rw [hnm] at hb; cases hb
 have hexec : ∀ r : Result Value, (Builtin.append_ #[t, ti] o.type #[a.eval xo, a.eval yo]).run P w = r →
     (execOp a.eval o).run P w = r.andThen fun v w' => .ok (.value v) w' := by
   intro r hr
   simp only [execOp, ho, resolve, hc, harg, hat, Sem.run_bind, Sem.run_pure, Result.andThen_ok, invoke, builtin, List.map_toArray, List.map_cons, List.map_nil, hr]
 -- the zero
 have hzv' : AI.zr P e = cv z := by unfold AI.zr; rw [hi]; simp [hz]
 obtain ⟨hzr, hzo⟩ := (cv_rel (E := E) (G := G) z).cells (by rw [← hzv']; exact hok.zr)
 rw [← hzv', hzv] at hzr
 obtain ⟨z0, hz0, hzrel⟩ := RelL.single hzr
 have hzc : z.cells = #[z0] := by apply Array.ext'; simpa using hz0
 rw [hz0] at hzo
 have hzcl : Cl zv = true := by
   have h1 : ∀ x, Cl (cv0 x) = true := by intro x; unfold cv0; split <;> rfl
   have h2 : ClL (zr P e).cells = true := by
     rw [hzv']; unfold cv
     split
     · split
       · simp only [AV.cells]; rename_i cs _; induction cs.toList with
         | nil => rfl
         | cons x l ih => simp only [List.map_cons, ClL, h1, Bool.true_and]; exact ih
       · rfl
     · have := h1 z
       revert this
       generalize cv0 z = y
       intro hy'
       cases y <;> simp_all [AV.cells, ClL, Cl]
   rw [hzv] at h2; simpa [ClL] using h2
 have hzR : ∀ (E1 : Env) (G1 : Heap), RelL E1 G1 (List.replicate m zv) (List.replicate m z0) := by
   intro E1 G1
   have hz1 : Rel E1 G1 zv z0 := by
     obtain ⟨hzr', _⟩ := (cv_rel (E := E1) (G := G1) z).cells (by rw [← hzv']; exact hok.zr)
     rw [← hzv', hzv, hz0] at hzr'
     obtain ⟨_, h1, h2⟩ := RelL.single hzr'
     simp at h1; rw [h1]; exact h2
   clear hbound hkm hy hyv hK
   induction m with
   | zero => exact RelL.nil
   | succ m ih => exact RelL.cons hz1 ih
 have hzO : Ones (List.replicate m z0) := fun v hv => by rw [List.eq_of_mem_replicate hv]; exact hzo z0 (by simp)
 have hm63 : IntKind.i64.wrap (m : Int) = m := by
   unfold IntKind.wrap
   have : ((m : Int)) % 18446744073709551616 = m := by omega
   show (if (true && decide ((m : Int) % 18446744073709551616 ≥ 9223372036854775808)) = true then (m : Int) % 18446744073709551616 - 18446744073709551616 else (m : Int) % 18446744073709551616) = m
   rw [this, Bool.true_and, if_neg (by simp; omega)]
 have hm48 : ¬ (281474976710656 < (m : Int) * (i.bytes : Int)) := by
   have h1 : m * by_ ≤ (k + m) * by_ := Nat.mul_le_mul_right _ (by omega)
   have h2 : ((m * by_ : Nat) : Int) = (m : Int) * (by_ : Int) := Int.natCast_mul _ _
   rw [hby]; omega
 have hm0 : ¬ ((m : Int) < 0) := by omega
 have hw0 : IntKind.i64.wrap 0 = 0 := rfl
 -- the location of the box
 have hbox := hheap.box n
 rw [hb] at hbox
 cases hE : E n with
 | none => rw [hE] at hbox; simp [BoxOk] at hbox
 | some l =>
   rw [hE] at hbox
   obtain ⟨hren, hrenx⟩ := hheap.rename hnm hlive hE
   rw [hb] at hren hrenx
   simp only [Rel] at hxv
   have grow : ∀ (olds : List Value) (cap : Nat), RelL E G cs olds → Ones olds → cap < k + m →
       (Builtin.append_ #[t, ti] o.type #[a.eval xo, a.eval yo]).run P w = .ok (.slice (some ⟨w.heap.size, 0, Option.none⟩) (k + m) (grownCap w (k + m) cap e))
         (w.drew.alloc (.cells (olds.toArray ++ (List.replicate m z0).toArray ++ Builtin.zeroCells z.cells (grownCap w (k + m) cap e - (k + m))) e)) → OpW P o a w K Q := by
     intro olds cap ho1 ho2 hcap hrun
     obtain ⟨G1, hG1, hok1, hext1, _, _⟩ := Go.AI.frz hheap (n := n) (cs := cs) (by rw [hb]; rfl)
     have hnm1 : upd bx n .gone nm = .none := by rw [upd_ne _ _ _ _ hne]; exact hnm
     have hge := grownCap_ge w (k + m) cap e
     have hle := grownCap_le_maxLen w (k + m) cap e (by simp only [maxLen]; omega)
     have hEnm : E nm = Option.none := hheap.none hnm
     have hE1 : EnvLe E (setE E nm (.buf w.heap.size 1 (grownCap w (k + m) cap e))) := setE_le hEnm
     have hbufok : BoxOk (setE E nm (.buf w.heap.size 1 (grownCap w (k + m) cap e))) G1
         (w.drew.alloc (.cells (olds.toArray ++ (List.replicate m z0).toArray ++ Builtin.zeroCells z.cells (grownCap w (k + m) cap e - (k + m))) e))
         (.buf 1 (cs ++ List.replicate m zv)) (some (.buf w.heap.size 1 (grownCap w (k + m) cap e))) := by
       simp only [BoxOk]
       refine ⟨trivial, olds ++ List.replicate m z0, (Builtin.zeroCells z.cells (grownCap w (k + m) cap e - (k + m))).toList, e, ?_, (ho1.mono hE1 hG1).append (hzR _ _), ho2.append hzO, ?_⟩
       · have h0 := heap_alloc_new w.drew (.cells (olds.toArray ++ (List.replicate m z0).toArray ++ Builtin.zeroCells z.cells (grownCap w (k + m) cap e - (k + m))) e)
         have h1 : (olds ++ List.replicate m z0 ++ (Builtin.zeroCells z.cells (grownCap w (k + m) cap e - (k + m))).toList).toArray = olds.toArray ++ (List.replicate m z0).toArray ++ Builtin.zeroCells z.cells (grownCap w (k + m) cap e - (k + m)) := by
           apply Array.ext'; simp
         rw [h1]
         exact h0
       · have h1 := ho1.length
         have h2 := size_zeroCells z.cells (grownCap w (k + m) cap e - (k + m))
         simp only [List.length_append, Array.length_toList, h1, hk, List.length_replicate, h2, hzs]
         omega
     obtain ⟨hok2, hext2⟩ := hok1.push (n := nm) (l := .buf w.heap.size 1 (grownCap w (k + m) cap e)) (bn := .buf 1 (cs ++ List.replicate m zv))
       (w' := w.drew.alloc (.cells (olds.toArray ++ (List.replicate m z0).toArray ++ Builtin.zeroCells z.cells (grownCap w (k + m) cap e - (k + m))) e)) hnm1 rfl ⟨_, _, rfl⟩ rfl rfl rfl rfl hbufok
     refine .inl ?_
     unfold Oper.wp
     rw [hexec _ hrun]
     simp only [Result.andThen_ok]
     refine hK _ _ _ _ ?_ hok2 (hext1.trans hext2)
     simp only [Rel]
     exact .inl ⟨w.heap.size, _, rfl, hge, by omega, .inl ⟨1, grownCap w (k + m) cap e, by simp [setE], by simp⟩⟩
   have hgrun : ∀ (base : Option Addr) (cap : Nat) (olds : List Value), m ≠ 0 → cap < k + m → (Builtin.firstCells 1 k (.slice base k cap)).run P w.drew = .ok olds.toArray w.drew →
       (Builtin.append_ #[t, ti] o.type #[.slice base k cap, .int .i64 (m : Int)]).run P w = .ok (.slice (some ⟨w.heap.size, 0, Option.none⟩) (k + m) (grownCap w (k + m) cap e))
         (w.drew.alloc (.cells (olds.toArray ++ (List.replicate m z0).toArray ++ Builtin.zeroCells z.cells (grownCap w (k + m) cap e - (k + m))) e)) := by
     intro base cap olds hmz hcap hfc
     have hn : ¬ (k + m ≤ cap) := by omega
     have h63' : ¬ (9223372036854775807 < ((k : Int) + (m : Int))) := by omega
     have hfit : Builtin.nextslicecap (k + m) cap * i.bytes ≤ 281474976710656 := growslice_fits (by omega) (by rw [hby]; exact hbound)
     have h48' : ¬ (281474976710656 < Builtin.nextslicecap (k + m) cap * i.bytes) := by omega
     simp [Builtin.append_, AI.run_underlying hu, AI.run_underlying hti', AI.run_sizeOf htde, typeInfo, zeroValue, hi, hz, asInt, asIntOf, hm63, hm48, hm0, hn, h63', h48', Question.forced, newRow, grownCap, hok.sz, hfc, hmz, hzc, zeroCells_one]
   rcases hxv with ⟨blk, cap, hxe, hkc, hk63, hloc⟩ | ⟨hnil, _, hk0, a0, hxe⟩
   · have hlb : ∃ tot, l = .buf blk 1 tot ∧ cap = tot := by
       rcases hloc with ⟨s', tot, h1, h2⟩ | h1
       · rw [hE] at h1; simp only [Option.some.injEq] at h1; subst h1
         simp only [BoxOk] at hbox
         obtain ⟨h0, _⟩ := hbox
         subst h0
         exact ⟨tot, rfl, by simpa using h2⟩
       · rw [hE] at h1; simp only [Option.some.injEq] at h1; subst h1
         simp [BoxOk] at hbox
     obtain ⟨tot, rfl, rfl⟩ := hlb
     simp only [BoxOk] at hbox
     obtain ⟨_, vs, rest, T, hh, hrel, hones, hlen⟩ := hbox
     have hvl := hrel.length
     by_cases hroom : k + m ≤ cap
     · have hst := run_storeCells_at P blk k T (List.replicate m z0) 0 (vs ++ rest).toArray w hh (by simp at hlen ⊢; omega) hzO
       simp only [Nat.add_zero] at hst
       have hsplit : (vs ++ rest).take k ++ List.replicate m z0 ++ (vs ++ rest).drop (k + (List.replicate m z0).length) = (vs ++ List.replicate m z0) ++ rest.drop m := by
         rw [List.take_append_of_le_length (by omega), List.take_of_length_le (by omega), List.drop_append, List.drop_of_length_le (by omega)]
         simp
         congr 1
         omega
       have hrun : (Builtin.append_ #[t, ti] o.type #[a.eval xo, a.eval yo]).run P w = .ok (.slice (some ⟨blk, 0, Option.none⟩) (k + m) cap)
           (w.setRow blk ((vs ++ List.replicate m z0) ++ rest.drop m).toArray) := by
         rw [hxe, hyv, ← hsplit]
         by_cases hmz : m = 0
         · subst hmz
           simp [Builtin.append_, AI.run_underlying hu, AI.run_underlying hti', AI.run_sizeOf htde, typeInfo, zeroValue, hi, hz, asInt, asIntOf, hm63, hm48, hm0, hw0, hkc, hok.sz, addr_add, storeCells] at hst ⊢
           exact hst
         · simp [Builtin.append_, AI.run_underlying hu, AI.run_underlying hti', AI.run_sizeOf htde, typeInfo, zeroValue, hi, hz, asInt, asIntOf, hm63, hm48, hm0, hroom, hok.sz, addr_add, hmz, hzc, zeroCells_one] at hst ⊢
           rw [hst]; simp
       have hEnm : E nm = Option.none := hheap.none hnm
       have hE1 := setE_le (l := .buf blk 1 cap) hEnm
       obtain ⟨hok2, hext2⟩ := hren.set (n := nm) (blk := blk) (l := .buf blk 1 cap) (arr := ((vs ++ List.replicate m z0) ++ rest.drop m).toArray) (c' := .buf 1 (cs ++ List.replicate m zv))
         (by simp [Box.live]) rfl (by simp [setE]) rfl (by
           simp only [BoxOk]
           refine ⟨trivial, vs ++ List.replicate m z0, rest.drop m, T, setRow_heap w blk _ _ T (0, 0) hh, (RelL.mono hE1 (.refl _) _ _ hrel).append (hzR _ _), hones.append hzO, ?_⟩
           simp at hlen ⊢; omega)
       rw [upd_upd] at hok2 hext2
       refine .inl ?_
       unfold Oper.wp
       rw [hexec _ hrun]
       simp only [Result.andThen_ok]
       refine hK _ _ _ G ?_ hok2 (hrenx.trans hext2)
       simp only [Rel]
       exact .inl ⟨blk, cap, rfl, hroom, by omega, .inl ⟨1, cap, by simp [setE], by simp⟩⟩
     · refine grow vs cap hrel hones (by omega) ?_
       rw [hxe, hyv]
       exact hgrun _ cap vs (by omega) (by omega) (run_firstCells_some (P := P) w.drew 1 k ⟨blk, 0, Option.none⟩ k cap vs (by omega) (fun j v hj => by rw [addr_add]; simpa using cells_of_heap hh j v hj))
   · rw [hE] at hnil; simp only [Option.some.injEq] at hnil; subst hnil
     subst hk0
     simp only [BoxOk] at hbox
     subst hbox
     by_cases hmz : m = 0
     · subst hmz
       have hrun : (Builtin.append_ #[t, ti] o.type #[a.eval xo, a.eval yo]).run P w = .ok (.slice a0 0 0) w := by
         rw [hxe, hyv]
         cases a0 <;> simp [Builtin.append_, AI.run_underlying hu, AI.run_underlying hti', AI.run_sizeOf htde, typeInfo, hi, asInt, asIntOf, hm63, hm48, hw0, hok.sz, storeCells]
       refine .inl ?_
       unfold Oper.wp
       rw [hexec _ hrun]
       simp only [Result.andThen_ok]
       refine hK _ w _ G ?_ (by simpa using hren) (by simpa using hrenx)
       simp only [Rel, Nat.add_zero]
       exact .inr ⟨by simp [setE], trivial, trivial, a0, rfl⟩
     · refine grow [] 0 RelL.nil (fun v hv => by simp at hv) (by omega) ?_
       rw [hxe, hyv]
       refine hgrun _ 0 [] hmz (by omega) ?_
       cases a0 <;> simp [Builtin.firstCells, loadCells, loadCellsFrom]
end
section
variable {P : Program} {ops : Array Oper} {cf : Oper → Cls} {l : List Oper} {i nx : Nat} {tm : Nat → AV} {bx : Nat → Box} {Q : (Nat → AV) → (Nat → Box) → Prop} {o : Oper}
theorem RunQ.callT (nm : Nat) {c : Call} {fo : Operand} {f : FuncId} {caps args rs : List AV} {n s : Nat} {cs : List AV} (hop : o.op = .call c) (hc : c.callee = .value fo) (hcf : cf o = .w) (hw : wantedA ops tm o = some true)
   (hf : evA tm fo = .fn f caps) (ha : LeL (c.args.toList.map (evA tm) ++ caps) args) (h : FnT P f args n s cs rs) (hcl : ClL args = true) (hcs : ClL cs = true) (hrs : ClL rs = true) (hnm : bx nm = .none)
   (t : RunQ P ops cf l (i + 1) (putA tm o.dst (.tup (.msl nm 0 n :: rs))) (upd bx nm (.buf s cs)) nx Q) : RunQ P ops cf (o :: l) i tm bx nx Q :=
 RunQ.mem hw hcf (Mems.callT hop hc hf ha h hcl hcs hrs hnm) t
theorem RunQ.appendZ {c : Call} {t ti e : TypeId} {xo yo : Operand} {n by_ k m : Nat} {kk : IntKind} {zv : AV} {cs : List AV} (nm : Nat) (hok : AppOk P t e 1 by_) (ho : o.op = .call c) (hc : c.callee = .builtin .append)
   (hat : c.argTypes = #[t, ti]) (harg : c.args = #[xo, yo]) (hti : td P ti = .int kk) (hzv : (zr P e).cells = [zv]) (hx : evA tm xo = .msl n 0 k) (hy : evA tm yo = .int .i64 (m : Int)) (hb : bx n = .buf 1 cs) (hw : wantedA ops tm o = some true) (hcf : cf o = .w)
   (hk : cs.length = k) (hbound : (k + m) * by_ ≤ 140737488355328) (hnm : bx nm = .none)
   (h : RunQ P ops cf l (i + 1) (putA tm o.dst (.msl nm 0 (k + m))) (upd (upd bx n .gone) nm (.buf 1 (cs ++ List.replicate m zv))) nx Q) : RunQ P ops cf (o :: l) i tm bx nx Q :=
 RunQ.mem hw hcf (Mems.appendZ ho hc hat harg hok hti hzv hx hy hb hk hbound hnm) h
end
end Go.AI
end

section
namespace Go.AI
section
variable {P : Program} {ops : Array Oper} {C : Ctx} {l : List Oper} {i nx : Nat} {tm : Nat → AV} {bx : Nat → Box} {cs : List Cls} {Q : (Nat → AV) → (Nat → Box) → List Cls → Prop} {o : Oper}
def RunX (P : Program) (ops : Array Oper) (l : List Oper) (i : Nat) (tm : Nat → AV) (bx : Nat → Box) (nx : Nat) (cs : List Cls) (Q : (Nat → AV) → (Nat → Box) → List Cls → Prop) : Prop :=
 ops.toList.drop i = l → ∃ (L : List (Nat × Cls)) (s : St), L.map (·.1) = List.range' i l.length ∧ ChainC P ops L ⟨tm, bx, nx⟩ s ∧ Q s.tm s.bx ((L.map (·.2)).reverse ++ cs)
theorem RunX.nil (h : Q tm bx cs) : RunX P ops [] i tm bx nx cs Q := fun _ => ⟨[], ⟨tm, bx, nx⟩, rfl, .nil, by simpa using h⟩
theorem RunX.consC {x : AV} {bx' : Nat → Box} (c : Cls) (h : ops[i]? = some o → StepC P ops i c ⟨tm, bx, nx⟩ ⟨putA tm o.dst x, bx', nx⟩)
   (t : RunX P ops l (i + 1) (putA tm o.dst x) bx' nx (c :: cs) Q) : RunX P ops (o :: l) i tm bx nx cs Q := by
 intro hl
 obtain ⟨h1, h2⟩ := drop_head hl
 obtain ⟨L, s, e1, e3, e4⟩ := t h2
 exact ⟨(i, c) :: L, s, by simp [e1, List.range'_succ], .cons (h h1) e3, by simpa using e4⟩
def RunY (P : Program) (ops : Array Oper) (nx : Nat) (Q : (Nat → AV) → (Nat → Box) → List Cls → Prop) : List Oper → Nat → (Nat → AV) → (Nat → Box) → List Cls → Prop
 | [], _, tm, bx, cs => Q tm bx cs
 | o :: l, i, tm, bx, cs => match o.guard with
   | some _ => RunX P ops (o :: l) i tm bx nx cs Q
   | none => match memF P (nx + i) o.op tm bx with
     | some (c, x, bx') => RunY P ops nx Q l (i + 1) (putA tm o.dst x) bx' (c :: cs)
     | none => RunX P ops (o :: l) i tm bx nx cs Q
theorem stepF_cls {n : Nat} {bx' : Nat → Box} {c : Cls} {x : AV} (h : stepF P ops n o tm bx = some (c, x, bx')) : clsLe c c = true := by
 unfold stepF at h
 split at h
 · cases h
 · simp only [Option.some.injEq, Prod.mk.injEq] at h; rw [← h.1]; rfl
 · rcases memF_sound h with ⟨rfl, _⟩ | ⟨m, rfl, _⟩ | ⟨m, b', rfl, _⟩ <;> simp [clsLe]
theorem RunX.e : ∀ {l : List Oper} {i : Nat} {tm : Nat → AV} {bx : Nat → Box} {cs : List Cls}, RunY P ops nx Q l i tm bx cs → RunX P ops l i tm bx nx cs Q
 | [], i, tm, bx, cs, h => .nil h
 | o :: l, i, tm, bx, cs, h => by
   simp only [RunY] at h
   split at h
   · exact h
   · rename_i hg
     split at h
     · rename_i c x bx' hs
       have hs' : stepF P ops (nx + i) o tm bx = some (c, x, bx') := by
         unfold stepF wantedA; rw [hg]; exact hs
       exact .consC c (fun ho => stepF_sound (st := ⟨tm, bx, nx⟩) ho hs' (stepF_cls hs')) (RunX.e h)
     · exact h
def RunXW (P : Program) (ops : Array Oper) (l : List Oper) (i : Nat) (tm : Nat → AV) (bx : Nat → Box) (nx : Nat) (cs : List Cls) (Q : (Nat → AV) → (Nat → Box) → List Cls → Prop) (o : Oper) : Prop :=
 wantedA ops tm o = some true → RunX P ops l i tm bx nx cs Q
def RunYW (P : Program) (ops : Array Oper) (nx : Nat) (Q : (Nat → AV) → (Nat → Box) → List Cls → Prop) (o : Oper) (l : List Oper) (i : Nat) (tm : Nat → AV) (bx : Nat → Box) (cs : List Cls) : Prop :=
 match memF P (nx + i) o.op tm bx with
 | some (c, x, bx') => RunY P ops nx Q l (i + 1) (putA tm o.dst x) bx' (c :: cs)
 | none => RunXW P ops (o :: l) i tm bx nx cs Q o
theorem RunX.gd {j t : Nat} {want : Bool} (hg : o.guard = some (j, want)) (ht : (ops[j]?).bind (·.dst) = some t)
   (h : GuardQ (tm t) want (RunYW P ops nx Q o l i tm bx cs) (RunY P ops nx Q l (i + 1) (putA tm o.dst (.tup [])) bx (.p :: cs))) : RunX P ops (o :: l) i tm bx nx cs Q := by
 have skip : wantedA ops tm o = some false → RunY P ops nx Q l (i + 1) (putA tm o.dst (.tup [])) bx (.p :: cs) → RunX P ops (o :: l) i tm bx nx cs Q := fun hw hh =>
   .consC .p (fun ho => .skip ho hw) (RunX.e hh)
 have go : wantedA ops tm o = some true → RunYW P ops nx Q o l i tm bx cs → RunX P ops (o :: l) i tm bx nx cs Q := fun hw hh => by
   unfold RunYW at hh
   split at hh
   · rename_i c x bx' hs
     have hs' : stepF P ops (nx + i) o tm bx = some (c, x, bx') := by unfold stepF; rw [hw]; exact hs
     exact .consC c (fun ho => stepF_sound (st := ⟨tm, bx, nx⟩) ho hs' (stepF_cls hs')) (RunX.e hh)
   · exact hh hw
 unfold GuardQ at h
 split at h
 · rename_i b hb
   have hw : wantedA ops tm o = some (b == want) := by unfold wantedA; rw [hg]; simp only [ht, hb]
   cases hk : b == want
   · rw [hk] at hw; exact skip hw (h.f hk)
   · rw [hk] at hw; exact go hw (h.t hk)
 · rename_i vs hb
   exact skip (by unfold wantedA; rw [hg]; simp only [ht, hb]) h
 · exact h.elim
theorem RunX.call {c : Call} {fo : Operand} {f : FuncId} {caps args : List AV} {r : AV} (hop : o.op = .call c) (hc : c.callee = .value fo) (hg : o.guard = none)
   (hf : evA tm fo = .fn f caps) (ha : LeL (c.args.toList.map (evA tm) ++ caps) args) (h : FnP P f args r) (hcl : ClL args = true)
   (t : RunX P ops l (i + 1) (putA tm o.dst r) bx nx (.p :: cs) Q) : RunX P ops (o :: l) i tm bx nx cs Q :=
 .consC .p (fun ho => StepC.ofP (fun n e => by cases e) ho (by simp [wantedA, hg]) fun b => Mems.call hop hc hf ha h hcl) t
theorem RunXW.call {c : Call} {fo : Operand} {f : FuncId} {caps args : List AV} {r : AV} (hop : o.op = .call c) (hc : c.callee = .value fo)
   (hf : evA tm fo = .fn f caps) (ha : LeL (c.args.toList.map (evA tm) ++ caps) args) (h : FnP P f args r) (hcl : ClL args = true)
   (t : RunX P ops l (i + 1) (putA tm o.dst r) bx nx (.p :: cs) Q) : RunXW P ops (o :: l) i tm bx nx cs Q o := fun hw =>
 .consC .p (fun ho => StepC.ofP (fun n e => by cases e) ho hw fun b => Mems.call hop hc hf ha h hcl) t
theorem RunX.mem {x : AV} {bx' : Nat → Box} (hw : wantedA ops tm o = some true) (h : Mems P (evA tm) bx o x bx')
   (t : RunX P ops l (i + 1) (putA tm o.dst x) bx' nx (.w :: cs) Q) : RunX P ops (o :: l) i tm bx nx cs Q :=
 .consC .w (fun ho => .ofW ho hw h) t
theorem WK.rX {id n : Nat} {k : List Item} (hm : P.follows .mixedOrders = true) (hn : C.fn.ntmps = n) (hd : dstB n ops = true)
   (h : ∀ A, Hid (A = ops) → ∀ Q : (Nat → AV) → (Nat → Box) → List Cls → Prop, Hid (∀ tm bx cs, drawOk ops cs.reverse = true → WK P C k ⟨tm, bx, nx + 100⟩ → Q tm bx cs) → RunY P A nx Q ops.toList 0 tm bx []) :
   WK P C (.code (.region id ops true) :: k) ⟨tm, bx, nx⟩ := by
 obtain ⟨L, s, e1, e3, hok, e4⟩ := RunX.e (h _ ⟨rfl⟩ (fun tm bx cs => drawOk ops cs.reverse = true ∧ WK P C k ⟨tm, bx, nx + 100⟩) ⟨fun _ _ _ h1 h2 => ⟨h1, h2⟩⟩) rfl
 simp only [List.append_nil, List.reverse_reverse] at hok
 refine WK.draw (cls := L.map (·.2)) (s' := s) hm (dstB_ok (hn ▸ hd)) (dstB_nd hd) hok ?_ (WK.anyNx e4)
 have : (List.range ops.size).zip (L.map (·.2)) = L := by
   rw [List.range_eq_range', ← Array.length_toList, ← e1]
   clear e1 e3 hok
   induction L with
   | nil => rfl
   | cons x L ih => simp [ih]
 rw [this]
 exact e3
end
attribute [simp] RunY RunYW
end Go.AI
end

section
namespace Go.AI
section
variable {P : Program} {ops : Array Oper} {l : List Oper} {i nx : Nat} {tm : Nat → AV} {bx : Nat → Box} {cs : List Cls} {Q : (Nat → AV) → (Nat → Box) → List Cls → Prop} {o : Oper}
theorem RunX.callO (nm : Nat) {c : Call} {fo : Operand} {f : FuncId} {caps args : List AV} {n s : Nat} {ds : List AV} (hop : o.op = .call c) (hc : c.callee = .value fo) (hw : wantedA ops tm o = some true)
   (hf : evA tm fo = .fn f caps) (ha : LeL (c.args.toList.map (evA tm) ++ caps) args) (h : FnO P f args n s ds) (hcl : ClL args = true) (hcs : ClL ds = true) (hnm : bx nm = .none)
   (t : RunX P ops l (i + 1) (putA tm o.dst (.msl nm 0 n)) (upd bx nm (.buf s ds)) nx (.wn nm :: cs) Q) : RunX P ops (o :: l) i tm bx nx cs Q :=
 .consC (.wn nm) (fun ho => .ofWn ho hw fun b hb => Mems.callO hop hc hf ha h hcl hcs (by rw [hb]; exact hnm)) t
theorem RunX.callT (nm : Nat) {c : Call} {fo : Operand} {f : FuncId} {caps args rs : List AV} {n s : Nat} {ds : List AV} (hop : o.op = .call c) (hc : c.callee = .value fo) (hw : wantedA ops tm o = some true)
   (hf : evA tm fo = .fn f caps) (ha : LeL (c.args.toList.map (evA tm) ++ caps) args) (h : FnT P f args n s ds rs) (hcl : ClL args = true) (hcs : ClL ds = true) (hrs : ClL rs = true) (hnm : bx nm = .none)
   (t : RunX P ops l (i + 1) (putA tm o.dst (.tup (.msl nm 0 n :: rs))) (upd bx nm (.buf s ds)) nx (.wn nm :: cs) Q) : RunX P ops (o :: l) i tm bx nx cs Q :=
 .consC (.wn nm) (fun ho => .ofWn ho hw fun b hb => Mems.callT hop hc hf ha h hcl hcs hrs (by rw [hb]; exact hnm)) t
theorem RunX.by (h : wantedA ops tm o = some true → RunX P ops l i tm bx nx cs Q) : RunXW P ops l i tm bx nx cs Q o := h
end
section
variable {P : Program} {ops : Array Oper} {cf : Oper → Cls} {l : List Oper} {i nx : Nat} {tm : Nat → AV} {bx : Nat → Box} {Q : (Nat → AV) → (Nat → Box) → Prop} {o : Oper}
theorem frzρ {n k t s : Nat} {cs : List AV} (ht : tm t = .msl n 0 k) (y : Operand) : evA (upd tm t (.sl false k (cs.take (k * s)))) y = evA tm y ∨
   (∃ off, evA tm y = .ptr n off ∧ evA (upd tm t (.sl false k (cs.take (k * s)))) y = .iptr (cs.drop off)) ∨ ∃ k' s', evA tm y = .msl n 0 k' ∧ evA (upd tm t (.sl false k (cs.take (k * s)))) y = .sl false k' (cs.take (k' * s')) := by
 cases y with
 | tmp j =>
   by_cases hj : j = t
   · subst hj; exact .inr (.inr ⟨k, s, ht, by simp⟩)
   · left; simp [upd_ne _ _ _ _ hj]
 | const v => exact .inl rfl
 | global g => exact .inl rfl
 | func g => exact .inl rfl
theorem RunQ.appendFz {c : Call} {t e : TypeId} {xo : Operand} {y n n2 s by_ k m : Nat} {cs ds : List AV} (nm : Nat) (hok : AppOk P t e s by_) (ho : o.op = .call c) (hc : c.callee = .builtin .append)
   (hat : c.argTypes = #[t, t]) (harg : c.args = #[xo, .tmp y]) (hx : evA (upd tm y (.sl false m (ds.take (m * s)))) xo = .msl n 0 k) (hy : tm y = .msl n2 0 m) (hb2 : (bx n2).cells? = some ds) (hb : upd bx n2 .gone n = .buf s cs) (hw : wantedA ops tm o = some true) (hcf : cf o = .w) (hk : cs.length = k * s)
   (hm : ds.length = m * s) (hbound : (k + m) * by_ ≤ 140737488355328) (hnm : bx nm = .none) (hne : nm ≠ n2)
   (h : RunQ P ops cf l (i + 1) (putA tm o.dst (.msl nm 0 (k + m))) (upd (upd (upd bx n2 .gone) n .gone) nm (.buf s (cs ++ ds))) nx Q) : RunQ P ops cf (o :: l) i tm bx nx Q := by
 have hT : (ds.take (m * s)).take (m * s) = ds := by rw [List.take_take, Nat.min_self, List.take_of_length_le (by omega)]
 have h1 := Mems.append (P := P) (ρ := evA (upd tm y (.sl false m (ds.take (m * s))))) (bx := upd bx n2 .gone) (nm := nm) ho hc hat harg hok hx (show evA (upd tm y (.sl false m (ds.take (m * s)))) (.tmp y) = .sl false m (ds.take (m * s)) by simp) hb hk (by rw [List.length_take]; omega) hbound (by rw [upd_ne _ _ _ _ hne]; exact hnm)
 rw [hT] at h1
 exact RunQ.mem hw hcf (Mems.frz hb2 (frzρ hy) h1) h
end
theorem FnT.toP {P : Program} {f : FuncId} {args rs : List AV} {n s : Nat} {cs : List AV} (h : FnT P f args n s cs rs) (hcl : ClL (cs.take (n * s)) = true) (hrs : ClL rs = true) : FnP P f args (.tup (.sl false n (cs.take (n * s)) :: rs)) := by
 refine ⟨h.1, fun w G vs hg hr => ?_⟩
 refine Calls.mono (h.2 w G vs hg hr) fun e w' he => ?_
 obtain ⟨v, G', E', rfl, hx, hok, hext⟩ := he
 obtain ⟨G'', h1, h2, h3, _, h4⟩ := Go.AI.frz hok (n := 0) (cs := cs) (by simp [Box.cells?])
 simp only [Rel] at hx
 obtain ⟨us, rfl, hx⟩ := hx
 simp only [RelL] at hx
 obtain ⟨v0, vs', rfl, hx0, hx1⟩ := hx
 have h5 := h4 0 n s v0 (by simpa only [Rel] using hx0) (.inr rfl)
 simp only [List.drop_zero] at h5
 have hx2 := hext.trans h3
 refine ⟨_, G'', rfl, ?_, h2.gw, ⟨hx2.os, hx2.tape, hx2.output, hx2.fz, hx2.size, .refl _, hx2.heap, hx2.frame, fun b hb => absurd hb (Live_B0 _ _)⟩⟩
 simp only [Rel]
 exact ⟨v0 :: vs', rfl, RelL.cons (Rel.closed (E := E') _ _ (by simpa [Cl] using hcl) h5) (RelL.closed _ _ hrs (RelL.mono (.refl _) h1 _ _ hx1))⟩
end Go.AI
namespace Go.AI
section
variable {P : Program} {ops : Array Oper} {l : List Oper} {i nx : Nat} {tm : Nat → AV} {bx : Nat → Box} {cl : List Cls} {Q : (Nat → AV) → (Nat → Box) → List Cls → Prop} {o : Oper}
theorem StepC.ofWl {st : St} {L : List Nat} {x : AV} (g : Nat → Box) (ho : ops[i]? = some o) (hw : wantedA ops st.tm o = some true)
   (h : ∀ b : Nat → Box, (∀ n, n ∈ L → b n = st.bx n) → Mems P (evA st.tm) b o x (fun n => if n ∈ L then g n else b n)) : StepC P ops i (.wl L) st ⟨putA st.tm o.dst x, fun n => if n ∈ L then g n else st.bx n, st.nx⟩ :=
 .run (fun b n => if n ∈ L then g n else b n) ho hw ⟨g, fun _ => rfl⟩ fun b hb => h b hb
theorem two_upd (b : Nat → Box) (n m : Nat) (x y : Box) : (fun k => if k ∈ [n, m] then upd (upd b n x) m y k else b k) = upd (upd b n x) m y := by
 funext k
 by_cases h1 : k = m
 · subst h1; simp
 · by_cases h2 : k = n
   · subst h2; simp
   · simp [h1, h2]
theorem three_upd (b : Nat → Box) (p n m : Nat) (z x y : Box) : (fun k => if k ∈ [p, n, m] then upd (upd (upd b p z) n x) m y k else b k) = upd (upd (upd b p z) n x) m y := by
 funext k
 by_cases h1 : k = m
 · subst h1; simp
 · by_cases h2 : k = n
   · subst h2; simp
   · by_cases h3 : k = p
     · subst h3; simp
     · simp [h1, h2, h3]
theorem RunX.two {x : AV} {n m : Nat} {u v : Box} (hw : wantedA ops tm o = some true) (h : ∀ b : Nat → Box, b n = bx n → b m = bx m → Mems P (evA tm) b o x (upd (upd b n u) m v))
   (t : RunX P ops l (i + 1) (putA tm o.dst x) (upd (upd bx n u) m v) nx (.wl [n, m] :: cl) Q) : RunX P ops (o :: l) i tm bx nx cl Q := by
 refine .consC (.wl [n, m]) (fun ho => ?_) t
 have := StepC.ofWl (P := P) (st := ⟨tm, bx, nx⟩) (L := [n, m]) (x := x) (upd (upd bx n u) m v) ho hw (fun b hb => by
   have e : (fun k => if k ∈ [n, m] then upd (upd bx n u) m v k else b k) = upd (upd b n u) m v := by
     rw [← two_upd b n m u v]; funext k; by_cases hk : k ∈ [n, m]
     · simp only [hk, if_true]; unfold upd; simp at hk; rcases hk with rfl | rfl <;> simp
     · simp [hk]
   rw [e]; exact h b (hb n (by simp)) (hb m (by simp)))
 rwa [two_upd] at this
theorem RunX.three {x : AV} {p n m : Nat} {z u v : Box} (hw : wantedA ops tm o = some true) (h : ∀ b : Nat → Box, b p = bx p → b n = bx n → b m = bx m → Mems P (evA tm) b o x (upd (upd (upd b p z) n u) m v))
   (t : RunX P ops l (i + 1) (putA tm o.dst x) (upd (upd (upd bx p z) n u) m v) nx (.wl [p, n, m] :: cl) Q) : RunX P ops (o :: l) i tm bx nx cl Q := by
 refine .consC (.wl [p, n, m]) (fun ho => ?_) t
 have := StepC.ofWl (P := P) (st := ⟨tm, bx, nx⟩) (L := [p, n, m]) (x := x) (upd (upd (upd bx p z) n u) m v) ho hw (fun b hb => by
   have e : (fun k => if k ∈ [p, n, m] then upd (upd (upd bx p z) n u) m v k else b k) = upd (upd (upd b p z) n u) m v := by
     rw [← three_upd b p n m z u v]; funext k; by_cases hk : k ∈ [p, n, m]
     · simp only [hk, if_true]
       have hk' := hk
       simp at hk'
       by_cases h1 : k = m
       · subst h1; simp
       · by_cases h2 : k = n
         · subst h2; simp [h1]
         · rcases hk' with rfl | rfl | rfl
           · simp [upd_ne _ _ _ _ h1, upd_ne _ _ _ _ h2]
           · exact absurd rfl h2
           · exact absurd rfl h1
     · simp [hk]
   rw [e]; exact h b (hb p (by simp)) (hb n (by simp)) (hb m (by simp)))
 rwa [three_upd] at this
theorem RunX.one {x : AV} {n : Nat} {u : Box} (hw : wantedA ops tm o = some true) (h : ∀ b : Nat → Box, b n = bx n → Mems P (evA tm) b o x (upd b n u))
   (t : RunX P ops l (i + 1) (putA tm o.dst x) (upd bx n u) nx (.wn n :: cl) Q) : RunX P ops (o :: l) i tm bx nx cl Q :=
 .consC (.wn n) (fun ho => .ofWn ho hw h) t
theorem RunX.append {c : Call} {t e : TypeId} {xo yo : Operand} {n s by_ k m : Nat} {fl : Bool} {cs ds : List AV} (nm : Nat) (hok : AppOk P t e s by_) (ho : o.op = .call c) (hc : c.callee = .builtin .append)
   (hat : c.argTypes = #[t, t]) (harg : c.args = #[xo, yo]) (hx : evA tm xo = .msl n 0 k) (hy : evA tm yo = .sl fl m ds) (hb : bx n = .buf s cs) (hw : wantedA ops tm o = some true) (hk : cs.length = k * s)
   (hm : m * s ≤ ds.length) (hbound : (k + m) * by_ ≤ 140737488355328) (hnm : bx nm = .none)
   (h : RunX P ops l (i + 1) (putA tm o.dst (.msl nm 0 (k + m))) (upd (upd bx n .gone) nm (.buf s (cs ++ ds.take (m * s)))) nx (.wl [n, nm] :: cl) Q) : RunX P ops (o :: l) i tm bx nx cl Q :=
 RunX.two hw (fun b h1 h2 => Mems.append ho hc hat harg hok hx hy (h1.trans hb) hk hm hbound (h2.trans hnm)) h
theorem RunX.append0 {c : Call} {t e : TypeId} {xo yo : Operand} {s by_ m : Nat} {fl : Bool} {ds : List AV} (n0 nm : Nat) (hok : AppOk P t e s by_) (ho : o.op = .call c) (hc : c.callee = .builtin .append)
   (hat : c.argTypes = #[t, t]) (harg : c.args = #[xo, yo]) (hx : evA tm xo = .sl true 0 []) (hy : evA tm yo = .sl fl m ds) (hxy : xo ≠ yo) (hw : wantedA ops tm o = some true)
   (hm : m * s ≤ ds.length) (hbound : m * by_ ≤ 140737488355328) (h0 : bx n0 = .none) (hnm : bx nm = .none) (hne : nm ≠ n0)
   (h : RunX P ops l (i + 1) (putA tm o.dst (.msl nm 0 m)) (upd (upd bx n0 .gone) nm (.buf s (ds.take (m * s)))) nx (.wl [n0, nm] :: cl) Q) : RunX P ops (o :: l) i tm bx nx cl Q :=
 RunX.two hw (fun b h1 h2 => Mems.append0 ho hc hat harg hok hx hy hxy hm hbound (h1.trans h0) (h2.trans hnm) hne) h
theorem RunX.appendF {c : Call} {t e : TypeId} {xo yo : Operand} {s by_ k m : Nat} {fl : Bool} {cs ds : List AV} (nm : Nat) (hok : AppOk P t e s by_) (ho : o.op = .call c) (hc : c.callee = .builtin .append)
   (hat : c.argTypes = #[t, t]) (harg : c.args = #[xo, yo]) (hx : evA tm xo = .sl true k cs) (hy : evA tm yo = .sl fl m ds) (hw : wantedA ops tm o = some true) (hk0 : 0 < k) (hm0 : 0 < m)
   (hk : k * s ≤ cs.length) (hm : m * s ≤ ds.length) (hbound : (k + m) * by_ ≤ 140737488355328) (hnm : bx nm = .none)
   (h : RunX P ops l (i + 1) (putA tm o.dst (.msl nm 0 (k + m))) (upd bx nm (.buf s (cs.take (k * s) ++ ds.take (m * s)))) nx (.wn nm :: cl) Q) : RunX P ops (o :: l) i tm bx nx cl Q :=
 RunX.one hw (fun b h1 => Mems.appendF ho hc hat harg hok hx hy hk0 hm0 hk hm hbound (h1.trans hnm)) h
theorem RunX.appendZ {c : Call} {t ti e : TypeId} {xo yo : Operand} {n by_ k m : Nat} {kk : IntKind} {zv : AV} {cs : List AV} (nm : Nat) (hok : AppOk P t e 1 by_) (ho : o.op = .call c) (hc : c.callee = .builtin .append)
   (hat : c.argTypes = #[t, ti]) (harg : c.args = #[xo, yo]) (hti : td P ti = .int kk) (hzv : (zr P e).cells = [zv]) (hx : evA tm xo = .msl n 0 k) (hy : evA tm yo = .int .i64 (m : Int)) (hb : bx n = .buf 1 cs) (hw : wantedA ops tm o = some true)
   (hk : cs.length = k) (hbound : (k + m) * by_ ≤ 140737488355328) (hnm : bx nm = .none)
   (h : RunX P ops l (i + 1) (putA tm o.dst (.msl nm 0 (k + m))) (upd (upd bx n .gone) nm (.buf 1 (cs ++ List.replicate m zv))) nx (.wl [n, nm] :: cl) Q) : RunX P ops (o :: l) i tm bx nx cl Q :=
 RunX.two hw (fun b h1 h2 => Mems.appendZ ho hc hat harg hok hti hzv hx hy (h1.trans hb) hk hbound (h2.trans hnm)) h
theorem RunX.make {t e : TypeId} {xo yo : Operand} {s by_ n c : Nat} {k k' : IntKind} (nm : Nat) (hok : AppOk P t e s by_) (ho : o.op = .makeSlice t xo yo) (hw : wantedA ops tm o = some true)
   (hx : evA tm xo = .int k n) (hy : evA tm yo = .int k' c) (hnc : n ≤ c) (hbound : by_ * c ≤ 140737488355328) (hnm : bx nm = .none)
   (h : RunX P ops l (i + 1) (putA tm o.dst (.msl nm 0 n)) (upd bx nm (.buf s (List.replicate n (zr P e).cells).flatten)) nx (.wn nm :: cl) Q) : RunX P ops (o :: l) i tm bx nx cl Q :=
 RunX.one hw (fun b h1 => Mems.make ho hok hx hy hnc hbound (h1.trans hnm)) h
theorem RunX.callFz {c : Call} {fo : Operand} {f : FuncId} {caps args : List AV} {r : AV} {n k : Nat} {cs : List AV} (t s : Nat) (hop : o.op = .call c) (hc : c.callee = .value fo) (hg : wantedA ops tm o = some true)
   (ht : tm t = .msl n 0 k) (hb : (bx n).cells? = some cs) (hf : evA (upd tm t (.sl false k (cs.take (k * s)))) fo = .fn f caps)
   (ha : LeL (c.args.toList.map (evA (upd tm t (.sl false k (cs.take (k * s))))) ++ caps) args) (h : FnP P f args r) (hcl : ClL args = true)
   (hk : RunX P ops l (i + 1) (putA tm o.dst r) (upd bx n .gone) nx (.wn n :: cl) Q) : RunX P ops (o :: l) i tm bx nx cl Q :=
 RunX.one hg (fun b h1 => Mems.frz (by rw [h1]; exact hb) (frzρ ht) (Mems.call hop hc hf ha h hcl)) hk
theorem RunX.callOz {c : Call} {fo : Operand} {f : FuncId} {caps args : List AV} {n k n' s' : Nat} {cs cs' : List AV} (nm t s : Nat) (hop : o.op = .call c) (hc : c.callee = .value fo) (hg : wantedA ops tm o = some true)
   (ht : tm t = .msl n 0 k) (hb : (bx n).cells? = some cs) (hf : evA (upd tm t (.sl false k (cs.take (k * s)))) fo = .fn f caps)
   (ha : LeL (c.args.toList.map (evA (upd tm t (.sl false k (cs.take (k * s))))) ++ caps) args) (h : FnO P f args n' s' cs') (hcl : ClL args = true) (hcs : ClL cs' = true) (hnm : bx nm = .none) (hne : nm ≠ n)
   (hk : RunX P ops l (i + 1) (putA tm o.dst (.msl nm 0 n')) (upd (upd bx n .gone) nm (.buf s' cs')) nx (.wl [n, nm] :: cl) Q) : RunX P ops (o :: l) i tm bx nx cl Q :=
 RunX.two hg (fun b h1 h2 => Mems.frz (by rw [h1]; exact hb) (frzρ ht) (Mems.callO hop hc hf ha h hcl hcs (by rw [upd_ne _ _ _ _ hne]; exact h2.trans hnm))) hk
theorem RunQ.callTz {c : Call} {fo : Operand} {f : FuncId} {caps args rs : List AV} {n k n' s' : Nat} {cs cs' : List AV} {cf : Oper → Cls} {Q : (Nat → AV) → (Nat → Box) → Prop} (nm t s : Nat) (hop : o.op = .call c) (hc : c.callee = .value fo) (hg : wantedA ops tm o = some true)
   (hcf : cf o = .w) (ht : tm t = .msl n 0 k) (hb : (bx n).cells? = some cs) (hf : evA (upd tm t (.sl false k (cs.take (k * s)))) fo = .fn f caps)
   (ha : LeL (c.args.toList.map (evA (upd tm t (.sl false k (cs.take (k * s))))) ++ caps) args) (h : FnT P f args n' s' cs' rs) (hcl : ClL args = true) (hcs : ClL cs' = true) (hrs : ClL rs = true) (hnm : bx nm = .none) (hne : nm ≠ n)
   (hk : RunQ P ops cf l (i + 1) (putA tm o.dst (.tup (.msl nm 0 n' :: rs))) (upd (upd bx n .gone) nm (.buf s' cs')) nx Q) : RunQ P ops cf (o :: l) i tm bx nx Q :=
 RunQ.mem hg hcf (Mems.frz hb (frzρ ht) (Mems.callT hop hc hf ha h hcl hcs hrs (by rw [upd_ne _ _ _ _ hne]; exact hnm))) hk
theorem RunX.callTz {c : Call} {fo : Operand} {f : FuncId} {caps args rs : List AV} {n k n' s' : Nat} {cs cs' : List AV} (nm t s : Nat) (hop : o.op = .call c) (hc : c.callee = .value fo) (hg : wantedA ops tm o = some true)
   (ht : tm t = .msl n 0 k) (hb : (bx n).cells? = some cs) (hf : evA (upd tm t (.sl false k (cs.take (k * s)))) fo = .fn f caps)
   (ha : LeL (c.args.toList.map (evA (upd tm t (.sl false k (cs.take (k * s))))) ++ caps) args) (h : FnT P f args n' s' cs' rs) (hcl : ClL args = true) (hcs : ClL cs' = true) (hrs : ClL rs = true) (hnm : bx nm = .none) (hne : nm ≠ n)
   (hk : RunX P ops l (i + 1) (putA tm o.dst (.tup (.msl nm 0 n' :: rs))) (upd (upd bx n .gone) nm (.buf s' cs')) nx (.wl [n, nm] :: cl) Q) : RunX P ops (o :: l) i tm bx nx cl Q :=
 RunX.two hg (fun b h1 h2 => Mems.frz (by rw [h1]; exact hb) (frzρ ht) (Mems.callT hop hc hf ha h hcl hcs hrs (by rw [upd_ne _ _ _ _ hne]; exact h2.trans hnm))) hk
theorem RunX.appendFz {c : Call} {t e : TypeId} {xo : Operand} {y n n2 s by_ k m : Nat} {cs ds : List AV} (nm : Nat) (hok : AppOk P t e s by_) (ho : o.op = .call c) (hc : c.callee = .builtin .append)
   (hat : c.argTypes = #[t, t]) (harg : c.args = #[xo, .tmp y]) (hx : evA (upd tm y (.sl false m (ds.take (m * s)))) xo = .msl n 0 k) (hy : tm y = .msl n2 0 m) (hb2 : (bx n2).cells? = some ds) (hb : upd bx n2 .gone n = .buf s cs) (hw : wantedA ops tm o = some true) (hk : cs.length = k * s)
   (hm : ds.length = m * s) (hbound : (k + m) * by_ ≤ 140737488355328) (hnm : bx nm = .none) (hne : nm ≠ n2)
   (h : RunX P ops l (i + 1) (putA tm o.dst (.msl nm 0 (k + m))) (upd (upd (upd bx n2 .gone) n .gone) nm (.buf s (cs ++ ds))) nx (.wl [n2, n, nm] :: cl) Q) : RunX P ops (o :: l) i tm bx nx cl Q := by
 have hT : (ds.take (m * s)).take (m * s) = ds := by rw [List.take_take, Nat.min_self, List.take_of_length_le (by omega)]
 refine RunX.three hw (fun b h1 h2 h3 => ?_) h
 have hbn : upd b n2 .gone n = .buf s cs := by
   by_cases e : n = n2
   · subst e; simp at hb
   · rw [upd_ne _ _ _ _ e] at hb ⊢; exact h2.trans hb
 have h4 := Mems.append (P := P) (ρ := evA (upd tm y (.sl false m (ds.take (m * s))))) (bx := upd b n2 .gone) (nm := nm) ho hc hat harg hok hx (show evA (upd tm y (.sl false m (ds.take (m * s)))) (.tmp y) = .sl false m (ds.take (m * s)) by simp) hbn hk (by rw [List.length_take]; omega) hbound (by rw [upd_ne _ _ _ _ hne]; exact h3.trans hnm)
 rw [hT] at h4
 exact Mems.frz (by rw [h1]; exact hb2) (frzρ hy) h4
end
end Go.AI
end

namespace Go.AI
theorem FnP.bound {P : Program} {f : FuncId} {args : List AV} {r : AV} {fl : Bool} {n : Nat} {cs : List AV} (hc : Callable P f) (hm : AV.sl fl n cs ∈ args) (h : n ≤ 9223372036854775807 → FnP P f args r) : FnP P f args r := by
 refine ⟨hc, fun w G vs hg hr => (h ?_).2 w G vs hg hr⟩
 obtain ⟨i, hi⟩ := List.getElem?_of_mem hm
 obtain ⟨v, hv, hr'⟩ := hr.get hi
 simp only [Rel] at hr'
 rcases hr' with ⟨a, cap, _, h0, _⟩ | ⟨_, _, _, _, _, _, h1, _⟩ <;> omega
def BufLe (b : Box) (s : Nat) (cs : List AV) : Prop := match b with | .buf s' c0 => s' = s ∧ LeL c0 cs | _ => False
def RetT (bx : Nat → Box) (n s : Nat) (cs rs : List AV) : List AV → Prop
 | .msl m 0 n' :: y :: ys => n' = n ∧ BufLe (bx m) s cs ∧ LeL (y :: ys) rs
 | _ => False
theorem WK.retT2 {P : Program} {G : Heap} {w : World} {st : St} {f : FuncId} {fn : Func} {ms : List Nat} {kp : List (Nat × Obj)} {n s : Nat} {cs rs : List AV} {k : List Item} (hfn : P.funcs[f]? = some fn)
   (h : match resL P st fn.results.toList with | some xs => RetT st.bx n s cs rs xs | none => False) (hcl : ClL cs = true) (hcr : ClL rs = true) :
   WK P (CtxX f fn ms kp [] B0 E0 G w (.tup (.msl 0 0 n :: rs)) (upd B0 0 (.buf s cs))) (.code .ret :: k) st := by
 cases hx : resL P st fn.results.toList with
 | none => simp [hx] at h
 | some xs =>
   rw [hx] at h
   simp only at h
   unfold RetT at h
   split at h
   · rename_i m n' y ys
     obtain ⟨h1, h2, h3⟩ := h
     unfold BufLe at h2
     split at h2
     · rename_i s' c0 hb
       obtain ⟨rfl, h2⟩ := h2
       exact WK.retT hfn hx (by simp) hb h1 h2 h3 hcl hcr
     · exact h2.elim
   · exact h.elim
attribute [simp] BufLe RetT
end Go.AI

section
namespace Go.AI
section
variable {E : Env} {G : Heap} {w : World} {bx : Nat → Box}
theorem HeapOk.trim {n s : Nat} {a b : List AV} (h : HeapOk bx E G w) (hc : bx n = .buf s (a ++ b)) : HeapOk (upd bx n (.buf s a)) E G w := by
 have hl : ∀ m, (upd bx n (.buf s a) m).live = (bx m).live := fun m => by
   by_cases hm : m = n
   · subst hm; simp [hc, Box.live]
   · rw [upd_ne _ _ _ _ hm]
 refine ⟨h.gw, fun m => ?_, fun m m' k k' b h1 h2 h3 h4 h5 h6 => h.sep m m' k k' b (by rw [← hl]; exact h1) (by rw [← hl]; exact h2) h3 h4 h5 h6, fun b hb => h.off b ?_⟩
 · by_cases hm : m = n
   · subst hm
     simp only [upd_same]
     have hb := h.box m
     rw [hc] at hb
     cases hE : E m with
     | none => rw [hE] at hb; simp [BoxOk] at hb
     | some l =>
       rw [hE] at hb
       cases l with
       | var blk => simp [BoxOk] at hb
       | set p => simp [BoxOk] at hb
       | nil => simp only [BoxOk] at hb ⊢; exact (List.append_eq_nil_iff.1 hb).1
       | buf blk sz cap =>
         simp only [BoxOk] at hb ⊢
         obtain ⟨h1, vs, rest, T, g1, g2, g3, g4⟩ := hb
         have hlen := g2.length
         rw [List.length_append] at hlen
         have g2' := g2.take a.length
         rw [List.take_left] at g2'
         refine ⟨h1, vs.take a.length, vs.drop a.length ++ rest, T, ?_, g2', g3.take _, ?_⟩
         · rw [← List.append_assoc, List.take_append_drop]; exact g1
         · rw [← List.append_assoc, List.take_append_drop]; exact g4
   · rw [upd_ne _ _ _ _ hm]; exact h.box m
 · obtain ⟨m, k, g1, g2, g3⟩ := hb
   exact ⟨m, k, by rw [← hl]; exact g1, g2, g3⟩
theorem Live.trim {n s : Nat} {a b : List AV} {x : Nat} (hc : bx n = .buf s (a ++ b)) (h : Live (upd bx n (.buf s a)) E x) : Live bx E x := by
 obtain ⟨m, k, g1, g2, g3⟩ := h
 refine ⟨m, k, ?_, g2, g3⟩
 by_cases hm : m = n
 · subst hm; rw [hc]; rfl
 · rw [upd_ne _ _ _ _ hm] at g1; exact g1
theorem Ghost.trim {tm : Nat → AV} {nx : Nat} (n s : Nat) {a b : List AV} (hc : bx n = .buf s (a ++ b)) : Ghost (fun _ => True) ⟨tm, bx, nx⟩ ⟨tm, upd bx n (.buf s a), nx⟩ := by
 intro C ac w E G _ h
 have hlv : ∀ x, Live (upd bx n (.buf s a)) E x → Live bx E x := fun x hx => Live.trim hc hx
 exact ⟨E, G, h.size, h.tm, h.df, h.ok.trim hc, h.ext.less hlv, keep_less h.keep hlv, h.an, h.ms⟩
end
end Go.AI
end

section
namespace Go.AI
open Go
section
variable {κ : Type} [DecidableEq κ]
def mpFrom (kv : κ → Value) : Nat → List (κ × Int) → List MapEntry
 | _, [] => []
 | i, x :: t => { key := kv x.1, val := .int .i64 x.2, born := i } :: mpFrom kv (i + 1) t
def mpObjK (kv : κ → Value) (c : Nat) (es : List (κ × Int)) : Obj := .map (mpFrom kv c es).toArray (c + es.length)
def mpLook : List (κ × Int) → κ → Option (Nat × Int)
 | [], _ => none
 | x :: t, k => if k = x.1 then some (0, x.2) else (mpLook t k).map fun x => (x.1 + 1, x.2)
def mpVal (es : List (κ × Int)) (k : κ) : Int := match mpLook es k with | some (_, v) => v | none => 0
def mpPut : List (κ × Int) → κ → Int → List (κ × Int)
 | [], k, v => [(k, v)]
 | x :: t, k, v => if k = x.1 then (x.1, v) :: t else x :: mpPut t k v
variable {kv : κ → Value}
omit [DecidableEq κ] in
theorem mpFrom_len (es : List (κ × Int)) : ∀ i, (mpFrom kv i es).length = es.length := by
 induction es with
 | nil => intro i; rfl
 | cons x t ih => intro i; simp [mpFrom, ih]
omit [DecidableEq κ] in
theorem mpFrom_get (es : List (κ × Int)) : ∀ (i j : Nat) (h : j < es.length), (mpFrom kv i es)[j]? = some { key := kv es[j].1, val := .int .i64 es[j].2, born := i + j } := by
 induction es with
 | nil => intro i j h; simp at h
 | cons x t ih =>
   intro i j h
   cases j with
   | zero => simp [mpFrom]
   | succ j =>
     simp only [mpFrom, List.getElem?_cons_succ, List.getElem_cons_succ]
     rw [ih (i + 1) j (by simpa using h)]
     simp; omega
omit [DecidableEq κ] in
theorem mpFrom_app (es : List (κ × Int)) (k : κ) (v : Int) : ∀ i, mpFrom kv i (es ++ [(k, v)]) = mpFrom kv i es ++ [{ key := kv k, val := .int .i64 v, born := i + es.length }] := by
 induction es with
 | nil => intro i; rfl
 | cons x t ih => intro i; simp only [List.cons_append, mpFrom, ih, List.length_cons, List.cons.injEq, true_and, List.append_cancel_left_eq, MapEntry.mk.injEq, and_true]; omega
theorem mpLook_some {es : List (κ × Int)} {k : κ} {v : Int} {j : Nat} (h : mpLook es k = some (j, v)) : ∃ hj : j < es.length, es[j] = (k, v) := by
 induction es generalizing j with
 | nil => simp [mpLook] at h
 | cons x t ih =>
   rw [mpLook] at h
   split at h
   · rename_i e
     simp only [Option.some.injEq, Prod.mk.injEq] at h
     obtain ⟨rfl, rfl⟩ := h
     exact ⟨by simp, by simp [e]⟩
   · cases hl : mpLook t k with
     | none => simp [hl] at h
     | some q =>
       obtain ⟨q1, q2⟩ := q
       simp only [hl, Option.map_some, Option.some.injEq, Prod.mk.injEq] at h
       obtain ⟨rfl, rfl⟩ := h
       obtain ⟨hj, e⟩ := ih hl
       exact ⟨by simpa using hj, by simpa using e⟩
theorem mpLook_put (es : List (κ × Int)) (k : κ) (v : Int) : ∀ j, mpLook (mpPut es k v) j = if j = k then (some (match mpLook es k with | some (p, _) => p | none => es.length, v)) else mpLook es j := by
 induction es with
 | nil => intro j; simp [mpPut, mpLook]
 | cons x t ih =>
   intro j
   simp only [mpPut, mpLook]
   by_cases h : k = x.1
   · rw [if_pos h, if_pos h]
     simp only [mpLook]
     by_cases hj : j = x.1
     · rw [if_pos hj, if_pos (hj.trans h.symm)]
     · rw [if_neg hj, if_neg (fun e => hj (e.trans h)), if_neg hj]
   · rw [if_neg h, if_neg h]
     simp only [mpLook, ih]
     by_cases hj : j = x.1
     · rw [if_pos hj, if_neg (fun e => h (e.symm.trans hj)), if_pos hj]
     · rw [if_neg hj, if_neg hj]
       by_cases hk : j = k
       · rw [if_pos hk, if_pos hk]
         cases mpLook t k <;> rfl
       · rw [if_neg hk, if_neg hk]
theorem mpVal_put (es : List (κ × Int)) (k : κ) (v : Int) (j : κ) : mpVal (mpPut es k v) j = if j = k then v else mpVal es j := by
 unfold mpVal
 rw [mpLook_put]
 by_cases h : j = k
 · rw [if_pos h, if_pos h]
 · rw [if_neg h, if_neg h]
theorem mpVal_nil (k : κ) : mpVal [] k = 0 := rfl
theorem mpPut_some {es : List (κ × Int)} {k : κ} {v u : Int} {j : Nat} (h : mpLook es k = some (j, u)) : mpPut es k v = es.modify j fun x => (x.1, v) := by
 induction es generalizing j with
 | nil => simp [mpLook] at h
 | cons x t ih =>
   rw [mpLook] at h
   rw [mpPut]
   split at h
   · rename_i e
     simp only [Option.some.injEq, Prod.mk.injEq] at h
     rw [if_pos e, ← h.1]; rfl
   · rename_i e
     cases hl : mpLook t k with
     | none => simp [hl] at h
     | some q =>
       obtain ⟨q1, q2⟩ := q
       simp only [hl, Option.map_some, Option.some.injEq, Prod.mk.injEq] at h
       obtain ⟨rfl, rfl⟩ := h
       rw [if_neg e, ih hl, List.modify_succ_cons]
theorem mpPut_none {es : List (κ × Int)} {k : κ} {v : Int} (h : mpLook es k = none) : mpPut es k v = es ++ [(k, v)] := by
 induction es with
 | nil => rfl
 | cons x t ih =>
   rw [mpLook] at h
   rw [mpPut]
   split at h
   · cases h
   · rename_i e
     rw [if_neg e, ih (by simpa using h)]; rfl
def mpSeen (ks : List κ) : List (κ × Int) := ks.foldl (fun es k => mpPut es k (mpVal es k + 1)) []
theorem mpSeen_snoc (ks : List κ) (k : κ) : mpSeen (ks ++ [k]) = mpPut (mpSeen ks) k (mpVal (mpSeen ks) k + 1) := by unfold mpSeen; rw [List.foldl_append]; rfl
theorem mpSeen_val (ks : List κ) (j : κ) : mpVal (mpSeen ks) j = (ks.count j : Nat) := by
 have key : ∀ (ks : List κ) (es : List (κ × Int)), mpVal (ks.foldl (fun es k => mpPut es k (mpVal es k + 1)) es) j = mpVal es j + (ks.count j : Nat) := by
   intro ks
   induction ks with
   | nil => intro es; simp
   | cons k ks ih =>
     intro es
     rw [List.foldl_cons, ih, mpVal_put, List.count_cons]
     by_cases h : j = k
     · subst h; simp; omega
     · have h' : (k == j) = false := by rw [beq_eq_false_iff_ne]; exact fun e => h e.symm
       rw [if_neg h, h']; simp
 have := key ks []
 rw [mpVal_nil] at this
 unfold mpSeen
 rw [this]; simp
structure KeyOk (P : Program) (kt : TypeId) (kv : κ → Value) : Prop where
 chk : ∀ e w k, (Instr.checkKey e 10000 kt (kv k)).run P w = .ok () w
 find : ∀ k c es w, (Instr.findKey kt (kv k) (mpFrom kv c es)).run P w = .ok ((mpLook es k).map fun x => (x.1, .int .i64 x.2)) w
 stay : ∀ k w, (Instr.keyThatStays (kv k) (kv k)).run P w = .ok (kv k) w
end
def mpObj (es : List (Int × Int)) : Obj := mpObjK (Value.int .i64) 0 es
@[simp] theorem mpObj_K (es : List (Int × Int)) : mpObjK (Value.int .i64) 0 es = mpObj es := rfl
theorem KeyOk.int {P : Program} {kt : TypeId} (hd : P.underlying kt = some (.int .i64)) : KeyOk P kt (Value.int .i64) := by
 refine ⟨fun e w k => MapKept.run_checkKey hd (show MapKept.IsKey (.int .i64) (.int .i64 k) from rfl) e _, fun k c es w => MapKept.run_findKey hd ?_, fun k w => MapKept.run_keyThatStays (d := .int .i64) (show MapKept.IsKey (.int .i64) (.int .i64 k) from rfl)⟩
 have key : ∀ (es : List (Int × Int)) (i n : Nat), Instr.findNow (.int .i64) (.int .i64 k) (mpFrom (Value.int .i64) i es) n = some ((mpLook es k).map fun x => (n + x.1, .int .i64 x.2)) := by
   intro es
   induction es with
   | nil => intro i n; rfl
   | cons x t ih =>
     intro i n
     obtain ⟨a, v⟩ := x
     rw [mpFrom, Instr.findNow, mpLook]
     by_cases h : k = a
     · subst h
       simp [Instr.sameNow]
     · have : (k == a) = false := by simpa using h
       simp only [Instr.sameNow, if_true, this, h, if_false]
       rw [ih]
       cases mpLook t k with
       | none => rfl
       | some q => simp; omega
 rw [key]; simp
def MpOkK {κ : Type} [DecidableEq κ] (P : Program) (t : TypeId) (kv : κ → Value) (ke : κ → AV) : Prop :=
 (∃ kt vt i, P.underlying t = some (.map kt vt) ∧ KeyOk P kt kv ∧ P.info? vt = some i ∧ i.zero = some (.int .i64 0)) ∧ ∀ E G k v, Rel E G (ke k) v → v = kv k
abbrev MpOk (P : Program) (t : TypeId) : Prop := MpOkK P t (Value.int .i64) (AV.int .i64)
theorem MpOkK.mk' {κ : Type} [DecidableEq κ] {P : Program} {t kt vt : TypeId} {kv : κ → Value} {ke : κ → AV} (h1 : P.underlying t = some (.map kt vt)) (h2 : KeyOk P kt kv) (h3 : (P.info? vt).bind (·.zero) = some (.int .i64 0)) (h4 : ∀ E G k v, Rel E G (ke k) v → v = kv k) : MpOkK P t kv ke := by
 cases h : P.info? vt with
 | none => rw [h] at h3; cases h3
 | some i => rw [h] at h3; exact ⟨⟨kt, vt, i, h1, h2, h, h3⟩, h4⟩
theorem MpOk.mk' {P : Program} {t kt vt : TypeId} (h1 : P.underlying t = some (.map kt vt)) (h2 : P.underlying kt = some (.int .i64)) (h3 : (P.info? vt).bind (·.zero) = some (.int .i64 0)) : MpOk P t :=
 MpOkK.mk' h1 (.int h2) h3 fun E G k v h => by simpa only [Rel] using h
section
variable {P : Program} {E E' : Env} {G G' : Heap} {w w' : World} {ρ : Operand → AV} {a : Act} {bx : Nat → Box}
theorem Mems.makeMap {o : Oper} {t : TypeId} {nm : Nat} (ho : o.op = .makeMap t none) (hnm : bx nm = .none) : Mems P ρ bx o (.mv nm) (upd bx nm (.obj (mpObj []))) := by
 intro a w E G hρ hheap K Q hK
 have hp := hheap.pushO (w' := w.alloc (.map #[] 0)) (n := nm) (l := .var w.heap.size) (bn := .obj (mpObj [])) hnm rfl (frozen_pushM rfl) rfl rfl rfl rfl (by
   simp only [BoxOk]
   have : (w.alloc (.map #[] 0)).heap = w.heap.push (.map #[] 0) := rfl
   rw [this]; simp [mpObj, mpObjK, mpFrom])
 have hrun : (execOp a.eval o).run P w = .ok (.value (.map (some w.heap.size))) (w.alloc (.map #[] 0)) := by
   simp [execOp, ho, Instr.makeMap, Result.andThen]
 refine .inl ?_
 unfold Oper.wp
 rw [hrun]
 refine hK _ _ _ G ?_ hp.1 hp.2
 simp only [Rel]
 exact ⟨.var w.heap.size, _, by simp [setE], rfl, rfl⟩
theorem frozen_setM {r : Nat} {o o' : Obj} (hb : w.heap[r]? = some o) (h1 : Obj.isC o = false) (h2 : Obj.isC o' = false) (a : Addr) : World.frozen? { w with heap := w.heap.setIfInBounds r o' } a = w.frozen? a := by
 unfold World.frozen?
 by_cases h : a.block = r
 · simp only [h, (MapKept.heap_set hb).1, hb]
   cases o <;> cases o' <;> simp_all [Obj.isC]
 · simp only [(MapKept.heap_set hb).2 _ h]
theorem HeapOk.objSet {n r : Nat} {o o' : Obj} (h : HeapOk bx E G w) (hbn : bx n = .obj o) (hE : E n = some (.var r)) (hc : Obj.isC o = false) (hc' : Obj.isC o' = false) :
   w.heap[r]? = some o ∧ HeapOk (upd bx n (.obj o')) E G { w with heap := w.heap.setIfInBounds r o' } ∧ Ext bx E G w (upd bx n (.obj o')) E G { w with heap := w.heap.setIfInBounds r o' } := by
 have hb : w.heap[r]? = some o := by have := h.box n; rw [hbn, hE] at this; exact this
 have hlive : (bx n).live = true := by rw [hbn]; rfl
 obtain ⟨hs1, hs2⟩ := MapKept.heap_set (o' := o') hb
 have hlive' : ∀ m, (upd bx n (.obj o') m).live = (bx m).live := fun m => by
   by_cases hm : m = n
   · subst hm; simp only [upd_same, hlive]; rfl
   · rw [upd_ne _ _ _ _ hm]
 have hL : ∀ b, Live (upd bx n (.obj o')) E b ↔ Live bx E b := fun b => by
   constructor <;> rintro ⟨m, k, h1, h2, h3⟩
   · exact ⟨m, k, by rw [← hlive' m]; exact h1, h2, h3⟩
   · exact ⟨m, k, by rw [hlive' m]; exact h1, h2, h3⟩
 have hGb : ∀ o, G r o = Option.none := (h.off r ⟨n, _, hlive, hE, rfl⟩).2
 refine ⟨hb, ⟨fun b o v hg => ?_, fun m => ?_, fun m m' k k' b h1 h2 => h.sep m m' k k' b (by rw [← hlive' m]; exact h1) (by rw [← hlive' m']; exact h2), fun b hb' => ?_⟩, rfl, rfl, rfl, fun a _ => (frozen_setM hb hc hc') a, by simp, .refl _, .refl _, fun b hb' hn => ?_, fun b hb' => .inr ((hL b).1 hb')⟩
 · have hne : b ≠ r := fun e => by subst e; simp [hGb] at hg
   rw [cell_of_heap (hs2 b hne)]; exact h.gw b o v hg
 · by_cases hm : m = n
   · subst hm; simp only [upd_same]; rw [hE]; exact hs1
   · rw [upd_ne _ _ _ _ hm]
     refine (h.box m).mono (.refl _) (.refl _) (by simp) fun l' b hl' hb' hcl => ⟨hs2 b fun e => ?_, rfl⟩
     subst e
     exact hm (h.sep m n l' _ b hcl hlive hl' hE hb' rfl)
 · have := h.off b ((hL b).1 hb')
   exact ⟨by simpa using this.1, this.2⟩
 · refine ⟨hs2 b fun e => hn ?_, rfl⟩
   subst e
   exact ⟨n, _, hlive, hE, rfl⟩
theorem HeapOk.mvLoc {n : Nat} {v : Value} (hv : Rel E G (.mv n) v) {o : Obj} (h : HeapOk bx E G w) (hbn : bx n = .obj o) : ∃ r, v = .map (some r) ∧ E n = some (.var r) := by
 simp only [Rel] at hv
 obtain ⟨l, blk, h1, h2, h3⟩ := hv
 have := h.box n
 rw [hbn, h1] at this
 cases l <;> simp only [BoxOk] at this
 simp only [Loc.blk?, Option.some.injEq] at h2
 subst h2
 exact ⟨_, h3, h1⟩
variable {κ : Type} [DecidableEq κ] {kv : κ → Value} {ke : κ → AV} {c : Nat} {es : List (κ × Int)} {k : κ}
theorem run_lookup {t kt vt : TypeId} {r : Nat} {ok : Bool} (hm : P.underlying t = some (.map kt vt)) (hk : KeyOk P kt kv) (hz : (zeroValue vt).run P w = .ok (.int .i64 0) w)
   (hb : w.heap[r]? = some (mpObjK kv c es)) :
   (Instr.lookup t (.map (some r)) (kv k) ok).run P w = .ok (if ok then .tuple #[.int .i64 (mpVal es k), .bool (mpLook es k).isSome] else .int .i64 (mpVal es k)) w := by
 have hf := hk.find k c es w
 unfold mpObjK at hb
 cases hl : mpLook es k with
 | none =>
   rw [hl] at hf
   simp only [Instr.lookup, Sem.run_bind, run_underlying hm, MapKept.run_getObj_map hb, hk.chk, hf, Result.andThen, Option.map_none, hz, Sem.run_pure, mpVal, hl]
   rfl
 | some q =>
   obtain ⟨j, v⟩ := q
   rw [hl] at hf
   simp only [Instr.lookup, Sem.run_bind, run_underlying hm, MapKept.run_getObj_map hb, hk.chk, hf, Option.map_some, Result.andThen, Sem.run_pure, mpVal, hl]
   rfl
omit [DecidableEq κ] in
theorem mpFrom_set (v : Int) : ∀ (es : List (κ × Int)) (i j : Nat), j < es.length → (mpFrom kv i es).modify j (fun e => { e with val := .int .i64 v }) = mpFrom kv i (es.modify j fun x => (x.1, v))
 | [], i, j, h => by simp at h
 | x :: t, i, 0, h => rfl
 | x :: t, i, j + 1, h => by
   simp only [mpFrom, List.modify_succ_cons]
   rw [mpFrom_set v t (i + 1) j (by simpa using h)]
theorem run_mapUpdate {t kt vt : TypeId} {v : Int} {r : Nat} (hm : P.underlying t = some (.map kt vt)) (hk : KeyOk P kt kv) (hb : w.heap[r]? = some (mpObjK kv c es)) :
   (Instr.mapUpdate t (.map (some r)) (kv k) (.int .i64 v)).run P w = .ok () { w with heap := w.heap.setIfInBounds r (mpObjK kv c (mpPut es k v)) } := by
 have hf := hk.find k c es w
 unfold mpObjK at hb
 cases hl : mpLook es k with
 | none =>
   rw [hl] at hf
   have e : (mpFrom kv c es).toArray.push { key := kv k, val := .int .i64 v, born := c + es.length } = (mpFrom kv c (es ++ [(k, v)])).toArray := by rw [mpFrom_app]; simp
   simp only [Instr.mapUpdate, Sem.run_bind, run_underlying hm, MapKept.run_getObj_map hb, hk.chk, hf, Result.andThen, Option.map_none, MapKept.run_setObj_map _ hb, mpPut_none hl, e, mpObjK, List.length_append, List.length_singleton, Nat.add_assoc]
 | some q =>
   obtain ⟨j, u⟩ := q
   rw [hl] at hf
   obtain ⟨hj, he⟩ := mpLook_some hl
   have hg : (mpFrom kv c es).toArray[j]? = some { key := kv k, val := .int .i64 u, born := c + j } := by
     have := mpFrom_get (kv := kv) es c j hj
     rw [he] at this
     simpa using this
   have h2 := mpFrom_set (kv := kv) v es c j hj
   have hmod : ((mpFrom kv c es).toArray.modify j fun e => { e with key := kv k, val := .int .i64 v }) = (mpFrom kv c (es.modify j fun x => (x.1, v))).toArray := by
     rw [← h2]
     apply Array.ext_getElem?
     intro i
     rw [Array.getElem?_modify, List.getElem?_toArray, List.getElem?_toArray, List.getElem?_modify]
     by_cases h : j = i
     · subst h
       have hg' : (mpFrom kv c es)[j]? = some { key := kv k, val := .int .i64 u, born := c + j } := by simpa using hg
       simp [hg']
     · simp [h]
   simp only [Instr.mapUpdate, Sem.run_bind, run_underlying hm, MapKept.run_getObj_map hb, hk.chk, hf, Result.andThen, hg, Option.map_some, Option.getD_some, hk.stay, hmod, MapKept.run_setObj_map _ hb, mpPut_some hl, mpObjK, List.length_modify]
theorem Mems.mapUpdate {o : Oper} {t : TypeId} {mo ko vo : Operand} {n : Nat} {v : Int} (ho : o.op = .mapUpdate t mo ko vo) (hok : MpOkK P t kv ke) (hm : ρ mo = .mv n) (hk : ρ ko = ke k) (hv : ρ vo = .int .i64 v)
   (hbn : bx n = .obj (mpObjK kv c es)) : Mems P ρ bx o .junk (upd bx n (.obj (mpObjK kv c (mpPut es k v)))) := by
 intro a w E G hρ hheap K Q hK
 obtain ⟨⟨kt, vt, i, e1, e2, e3, e4⟩, e5⟩ := hok
 have hmv := hρ mo (by simp [ho, Op.operands])
 have hkv := hρ ko (by simp [ho, Op.operands])
 have hvv := hρ vo (by simp [ho, Op.operands])
 rw [hm] at hmv
 rw [hk] at hkv
 rw [hv] at hvv
 obtain ⟨r, hr, hE⟩ := hheap.mvLoc hmv hbn
 have hkv := e5 _ _ _ _ hkv
 simp only [Rel] at hvv
 obtain ⟨hb, g1, g2⟩ := hheap.objSet (o' := mpObjK kv c (mpPut es k v)) hbn hE rfl rfl
 have hrun : (execOp a.eval o).run P w = .ok .skip { w with heap := w.heap.setIfInBounds r (mpObjK kv c (mpPut es k v)) } := by
   simp only [execOp, ho, hr, hkv, hvv, Sem.run_bind, run_mapUpdate e1 e2 hb, Result.andThen_ok, Sem.run_pure]
 refine .inl ?_
 unfold Oper.wp
 rw [hrun]
 exact hK undef _ E G (by simp [Rel]) g1 g2
theorem Mems.lookup {o : Oper} {t : TypeId} {mo ko : Operand} {n : Nat} (ho : o.op = .lookup t mo ko false) (hok : MpOkK P t kv ke) (hm : ρ mo = .mv n) (hk : ρ ko = ke k) (hbn : bx n = .obj (mpObjK kv c es)) :
   Mems P ρ bx o (.int .i64 (mpVal es k)) bx := by
 intro a w E G hρ hheap K Q hK
 obtain ⟨⟨kt, vt, i, e1, e2, e3, e4⟩, e5⟩ := hok
 have hmv := hρ mo (by simp [ho, Op.operands])
 have hkv := hρ ko (by simp [ho, Op.operands])
 rw [hm] at hmv
 rw [hk] at hkv
 obtain ⟨r, hr, hE⟩ := hheap.mvLoc hmv hbn
 have hkv := e5 _ _ _ _ hkv
 obtain ⟨hb, -, -⟩ := hheap.objSet (o' := mpObjK kv c es) hbn hE rfl rfl
 have hrun : (execOp a.eval o).run P w = .ok (.value (.int .i64 (mpVal es k))) w := by
   simp only [execOp, ho, hr, hkv, Sem.run_bind, run_lookup e1 e2 (run_zero e3 e4) hb, Result.andThen_ok, Sem.run_pure, Bool.false_eq_true, if_false]
 refine .inl ?_
 unfold Oper.wp
 rw [hrun]
 refine hK _ _ E G ?_ hheap (.refl _ _ _ _)
 simp only [Rel]
theorem Mems.clearM {o : Oper} {cl : Call} {t : TypeId} {mo : Operand} {n : Nat} (ho : o.op = .call cl) (hc : cl.callee = .builtin .clear) (hat : cl.argTypes = #[t]) (harg : cl.args = #[mo]) (hok : MpOkK P t kv ke) (hm : ρ mo = .mv n)
   (hbn : bx n = .obj (mpObjK kv c es)) : Mems P ρ bx o (.tup []) (upd bx n (.obj (mpObjK kv (c + es.length) []))) := by
 intro a w E G hρ hheap K Q hK
 obtain ⟨⟨kt, vt, i, e1, e2, e3, e4⟩, e5⟩ := hok
 have hmv := hρ mo (by simp [ho, hc, harg, Op.operands, Call.operands])
 rw [hm] at hmv
 obtain ⟨r, hr, hE⟩ := hheap.mvLoc hmv hbn
 obtain ⟨hb, g1, g2⟩ := hheap.objSet (o' := mpObjK kv (c + es.length) []) hbn hE rfl rfl
 have hrun : (execOp a.eval o).run P w = .ok (.value (.tuple #[])) { w with heap := w.heap.setIfInBounds r (mpObjK kv (c + es.length) []) } := by
   unfold mpObjK at hb
   have h2 : (Builtin.clear_ #[t] o.type #[.map (some r)]).run P w = .ok (.tuple #[]) { w with heap := w.heap.setIfInBounds r (mpObjK kv (c + es.length) []) } := by
     simp [Builtin.clear_, run_underlying e1, MapKept.run_getObj_map hb, MapKept.run_setObj_map _ hb, mpObjK, mpFrom]
   simp only [execOp, ho, resolve, hc, harg, hat, Sem.run_bind, Sem.run_pure, Result.andThen_ok, invoke, builtin, List.map_toArray, List.map_cons, List.map_nil, hr, h2]
 refine .inl ?_
 unfold Oper.wp
 rw [hrun]
 refine hK _ _ E G ?_ g1 g2
 simp only [Rel]
 exact ⟨[], rfl, RelL.nil⟩
end
end Go.AI
end

section
namespace Go.AI
open Go
section
variable {P : Program} {ops : Array Oper} {cf : Oper → Cls} {l : List Oper} {i nx : Nat} {tm : Nat → AV} {bx : Nat → Box} {Q : (Nat → AV) → (Nat → Box) → Prop} {o : Oper}
theorem RunQ.makeMap {t : TypeId} (nm : Nat) (ho : o.op = .makeMap t none) (hw : wantedA ops tm o = some true) (hcf : cf o = .w) (hnm : bx nm = .none) (h : RunQ P ops cf l (i + 1) (putA tm o.dst (.mv nm)) (upd bx nm (.obj (mpObj []))) nx Q) : RunQ P ops cf (o :: l) i tm bx nx Q := RunQ.mem hw hcf (Mems.makeMap ho hnm) h
theorem RunQ.mapUpdate {κ : Type} [DecidableEq κ] {kv : κ → Value} {ke : κ → AV} {c : Nat} {es : List (κ × Int)} {k : κ} {t : TypeId} {mo ko vo : Operand} {n : Nat} {v : Int} (hok : MpOkK P t kv ke) (ho : o.op = .mapUpdate t mo ko vo) (hw : wantedA ops tm o = some true) (hcf : cf o = .w) (hm : evA tm mo = .mv n) (hk : evA tm ko = ke k) (hv : evA tm vo = .int .i64 v) (hbn : bx n = .obj (mpObjK kv c es))
   (h : RunQ P ops cf l (i + 1) (putA tm o.dst (.junk)) (upd bx n (.obj (mpObjK kv c (mpPut es k v)))) nx Q) : RunQ P ops cf (o :: l) i tm bx nx Q := RunQ.mem hw hcf (Mems.mapUpdate ho hok hm hk hv hbn) h
theorem RunQ.lookup {κ : Type} [DecidableEq κ] {kv : κ → Value} {ke : κ → AV} {c : Nat} {es : List (κ × Int)} {k : κ} {t : TypeId} {mo ko : Operand} {n : Nat} (hok : MpOkK P t kv ke) (ho : o.op = .lookup t mo ko false) (hw : wantedA ops tm o = some true) (hcf : cf o = .w) (hm : evA tm mo = .mv n) (hk : evA tm ko = ke k) (hbn : bx n = .obj (mpObjK kv c es))
   (h : RunQ P ops cf l (i + 1) (putA tm o.dst (.int .i64 (mpVal es k))) bx nx Q) : RunQ P ops cf (o :: l) i tm bx nx Q := RunQ.mem hw hcf (Mems.lookup ho hok hm hk hbn) h
theorem RunQ.clearM {κ : Type} [DecidableEq κ] {kv : κ → Value} {ke : κ → AV} {c : Nat} {es : List (κ × Int)} {t : TypeId} {mo : Operand} {n : Nat} {g : Call} (hok : MpOkK P t kv ke) (ho : o.op = .call g) (hc : g.callee = .builtin .clear) (hat : g.argTypes = #[t]) (harg : g.args = #[mo]) (hw : wantedA ops tm o = some true) (hcf : cf o = .w) (hm : evA tm mo = .mv n) (hbn : bx n = .obj (mpObjK kv c es))
   (h : RunQ P ops cf l (i + 1) (putA tm o.dst (.tup [])) (upd bx n (.obj (mpObjK kv (c + es.length) []))) nx Q) : RunQ P ops cf (o :: l) i tm bx nx Q := RunQ.mem hw hcf (Mems.clearM ho hc hat harg hok hm hbn) h
end
section
variable {P : Program} {ops : Array Oper} {l : List Oper} {i nx : Nat} {tm : Nat → AV} {bx : Nat → Box} {cl : List Cls} {Q : (Nat → AV) → (Nat → Box) → List Cls → Prop} {o : Oper}
theorem RunX.makeMap {t : TypeId} (nm : Nat) (ho : o.op = .makeMap t none) (hw : wantedA ops tm o = some true) (hnm : bx nm = .none) (h : RunX P ops l (i + 1) (putA tm o.dst (.mv nm)) (upd bx nm (.obj (mpObj []))) nx (.wn nm :: cl) Q) : RunX P ops (o :: l) i tm bx nx cl Q := RunX.one hw (fun b h1 => Mems.makeMap ho (h1.trans hnm)) h
theorem RunX.mapUpdate {κ : Type} [DecidableEq κ] {kv : κ → Value} {ke : κ → AV} {c : Nat} {es : List (κ × Int)} {k : κ} {t : TypeId} {mo ko vo : Operand} {n : Nat} {v : Int} (hok : MpOkK P t kv ke) (ho : o.op = .mapUpdate t mo ko vo) (hw : wantedA ops tm o = some true) (hm : evA tm mo = .mv n) (hk : evA tm ko = ke k) (hv : evA tm vo = .int .i64 v) (hbn : bx n = .obj (mpObjK kv c es))
   (h : RunX P ops l (i + 1) (putA tm o.dst (.junk)) (upd bx n (.obj (mpObjK kv c (mpPut es k v)))) nx (.wn n :: cl) Q) : RunX P ops (o :: l) i tm bx nx cl Q := RunX.one hw (fun b h1 => Mems.mapUpdate ho hok hm hk hv (h1.trans hbn)) h
theorem RunX.lookup {κ : Type} [DecidableEq κ] {kv : κ → Value} {ke : κ → AV} {c : Nat} {es : List (κ × Int)} {k : κ} {t : TypeId} {mo ko : Operand} {n : Nat} (hok : MpOkK P t kv ke) (ho : o.op = .lookup t mo ko false) (hw : wantedA ops tm o = some true) (hm : evA tm mo = .mv n) (hk : evA tm ko = ke k) (hbn : bx n = .obj (mpObjK kv c es))
   (h : RunX P ops l (i + 1) (putA tm o.dst (.int .i64 (mpVal es k))) bx nx (.rn n :: cl) Q) : RunX P ops (o :: l) i tm bx nx cl Q := .consC (.rn n) (fun ho' => StepC.ofRn ho' hw fun b h1 => Mems.lookup ho hok hm hk (h1.trans hbn)) h
theorem RunX.clearM {κ : Type} [DecidableEq κ] {kv : κ → Value} {ke : κ → AV} {c : Nat} {es : List (κ × Int)} {t : TypeId} {mo : Operand} {n : Nat} {g : Call} (hok : MpOkK P t kv ke) (ho : o.op = .call g) (hc : g.callee = .builtin .clear) (hat : g.argTypes = #[t]) (harg : g.args = #[mo]) (hw : wantedA ops tm o = some true) (hm : evA tm mo = .mv n) (hbn : bx n = .obj (mpObjK kv c es))
   (h : RunX P ops l (i + 1) (putA tm o.dst (.tup [])) (upd bx n (.obj (mpObjK kv (c + es.length) []))) nx (.wn n :: cl) Q) : RunX P ops (o :: l) i tm bx nx cl Q := RunX.one hw (fun b h1 => Mems.clearM ho hc hat harg hok hm (h1.trans hbn)) h
end
end Go.AI
end

namespace Go.AI
open Go
@[simp] theorem toNat_plus_lit (p n : Nat) : ((p : Int) + (no_index (OfNat.ofNat n) : Int)).toNat = p + OfNat.ofNat n := by
 show ((p : Int) + (n : Int)).toNat = p + n
 omega
@[simp] theorem toNat_plus_nat (p q : Nat) : ((p : Int) + (q : Int)).toNat = p + q := by omega
@[simp] theorem nonneg_plus_lit (p n : Nat) : ((0 : Int) ≤ (p : Int) + (no_index (OfNat.ofNat n) : Int)) = True := by
 have : (0 : Int) ≤ (p : Int) + (n : Int) := by omega
 exact eq_true this
@[simp] theorem nonneg_plus_nat (p q : Nat) : ((0 : Int) ≤ (p : Int) + (q : Int)) = True := eq_true (by omega)
end Go.AI

section
namespace Go.AI
open Go
section
variable {P : Program} {E E' : Env} {G G' : Heap} {w w' : World} {ρ : Operand → AV} {a : Act} {bx : Nat → Box}
theorem Mems.appendN {o : Oper} {c : Call} {t e : TypeId} {xo yo : Operand} {s by_ k : Nat} {fl fl' : Bool} {cs ds : List AV} (ho : o.op = .call c) (hc : c.callee = .builtin .append)
   (hat : c.argTypes = #[t, t]) (harg : c.args = #[xo, yo]) (hok : AppOk P t e s by_) (hx : ρ xo = .sl fl k cs) (hy : ρ yo = .sl fl' 0 ds) : Mems P ρ bx o (.sl fl k cs) bx := by
 intro a w E G hρ hheap K Q hK
 obtain ⟨i, z, hu, hi, hz, hsz, hby, hzs⟩ := hok.facts
 have htde : td P e ≠ .none := hok.tde
 have hxv := hρ xo (by simp [ho, Op.operands, Call.operands, hc, harg])
 have hyv := hρ yo (by simp [ho, Op.operands, Call.operands, hc, harg])
 rw [hx] at hxv; rw [hy] at hyv
 have hexec : ∀ r : Result Value, (Builtin.append_ #[t, t] o.type #[a.eval xo, a.eval yo]).run P w = r →
     (execOp a.eval o).run P w = r.andThen fun v w' => .ok (.value v) w' := by
   intro r hr
   simp only [execOp, ho, resolve, hc, harg, hat, Sem.run_bind, Sem.run_pure, Result.andThen_ok, invoke, builtin, List.map_toArray, List.map_cons, List.map_nil, hr]
 have hx0 := hxv
 simp only [Rel] at hxv hyv
 obtain ⟨ax, nx, cx, hxe, hle⟩ : ∃ ax nx cx, a.eval xo = .slice ax nx cx ∧ nx ≤ cx := by
   rcases hxv with ⟨ad, cap, hv, h0, h1, h2⟩ | ⟨blk, off, cap, vs, hv, hkc, _⟩
   · exact ⟨_, _, _, hv, by omega⟩
   · exact ⟨_, _, _, hv, hkc⟩
 obtain ⟨ay, cy, hye⟩ : ∃ ay cy, a.eval yo = .slice ay 0 cy := by
   rcases hyv with ⟨ad, cap, hv, h0, h1, h2⟩ | ⟨blk, off, cap, vs, hv, hkc, _⟩
   · exact ⟨_, _, hv⟩
   · exact ⟨_, _, hv⟩
 have hrun := hexec (.ok (.slice ax nx cx) w) (by rw [hxe, hye]; exact append_none_x hu htde ax ay nx cx cy hle o.type)
 refine .inl ?_
 unfold Oper.wp
 rw [hrun]
 refine hK _ w E G ?_ hheap (.refl _ _ _ _)
 rw [← hxe]; exact hx0
end
section
variable {P : Program} {ops : Array Oper} {cf : Oper → Cls} {l : List Oper} {i nx : Nat} {tm : Nat → AV} {bx : Nat → Box} {Q : (Nat → AV) → (Nat → Box) → Prop} {o : Oper}
theorem RunQ.appendN {c : Call} {t e : TypeId} {xo yo : Operand} {s by_ k : Nat} {fl fl' : Bool} {cs ds : List AV} (hok : AppOk P t e s by_) (ho : o.op = .call c) (hc : c.callee = .builtin .append)
   (hat : c.argTypes = #[t, t]) (harg : c.args = #[xo, yo]) (hx : evA tm xo = .sl fl k cs) (hy : evA tm yo = .sl fl' 0 ds) (hw : wantedA ops tm o = some true) (hcf : notWn (cf o) = true)
   (h : RunQ P ops cf l (i + 1) (putA tm o.dst (.sl fl k cs)) bx nx Q) : RunQ P ops cf (o :: l) i tm bx nx Q := RunQ.pure hw hcf (fun b => Mems.appendN ho hc hat harg hok hx hy) h
end
section
variable {P : Program} {ops : Array Oper} {l : List Oper} {i nx : Nat} {tm : Nat → AV} {bx : Nat → Box} {cl : List Cls} {Q : (Nat → AV) → (Nat → Box) → List Cls → Prop} {o : Oper}
theorem RunX.appendN {c : Call} {t e : TypeId} {xo yo : Operand} {s by_ k : Nat} {fl fl' : Bool} {cs ds : List AV} (hok : AppOk P t e s by_) (ho : o.op = .call c) (hc : c.callee = .builtin .append)
   (hat : c.argTypes = #[t, t]) (harg : c.args = #[xo, yo]) (hx : evA tm xo = .sl fl k cs) (hy : evA tm yo = .sl fl' 0 ds) (hw : wantedA ops tm o = some true)
   (h : RunX P ops l (i + 1) (putA tm o.dst (.sl fl k cs)) bx nx (.p :: cl) Q) : RunX P ops (o :: l) i tm bx nx cl Q := .consC .p (fun ho' => StepC.ofP (fun n e => by cases e) ho' hw fun b => Mems.appendN ho hc hat harg hok hx hy) h
end
end Go.AI
end

section
namespace Go.AI
open Go
section
variable {P : Program} {E E' : Env} {G G' : Heap} {w w' : World} {ρ : Operand → AV} {a : Act} {bx : Nat → Box}
theorem Mems.copy {o : Oper} {c : Call} {t t' e : TypeId} {xo yo : Operand} {n off k m by_ : Nat} {fl : Bool} {cs ds : List AV} (ho : o.op = .call c) (hc : c.callee = .builtin .copy)
   (hat : c.argTypes = #[t, t']) (harg : c.args = #[xo, yo]) (hok : AppOk P t e 1 by_) (hx : ρ xo = .msl n off k) (hy : ρ yo = .sl fl m ds) (hb : bx n = .buf 1 cs) (hm0 : 0 < m) (hmk : m ≤ k) (hds : ds.length = m) (hl : off + k ≤ cs.length) :
   Mems P ρ bx o (.int .i64 (m : Int)) (upd bx n (.buf 1 (splice cs off ds))) := by
 intro a w E G hρ hheap K Q hK
 obtain ⟨i, z, hu, hi', hz, hsz, hby, hzs⟩ := hok.facts
 have hxv := hρ xo (by simp [ho, Op.operands, Call.operands, hc, harg])
 have hyv := hρ yo (by simp [ho, Op.operands, Call.operands, hc, harg])
 rw [hx] at hxv; rw [hy] at hyv
 simp only [Rel] at hxv hyv
 have hexec : ∀ (v : Value) w', (Builtin.copy_ #[t, t'] o.type #[a.eval xo, a.eval yo]).run P w = .ok v w' → (execOp a.eval o).run P w = .ok (.value v) w' := by
   intro v w' hr
   simp only [execOp, ho, resolve, hc, harg, hat, Sem.run_bind, Sem.run_pure, Result.andThen_ok, invoke, builtin, List.map_toArray, List.map_cons, List.map_nil, hr]
 rcases hyv with ⟨ad, cap', _, h0, _⟩ | ⟨blk', off', cap', us, hyev, _, _, _, hur, huG, huo⟩
 · omega
 rcases hxv with ⟨blk, cap, hev, _, _, hE⟩ | ⟨_, _, hk0, _⟩
 · have hbox := hheap.box n
   rw [hb] at hbox
   rcases hE with ⟨sz', tot, hE, ht⟩ | hE
   · rw [hE] at hbox
     simp only [BoxOk] at hbox
     obtain ⟨rfl, vs, rest, T, hh, hrel, hones, hlen⟩ := hbox
     have hvl := hrel.length
     have hul := hur.length
     have hrun0 := run_copy_row P w t t' o.type e blk off k cap ⟨blk', off', none⟩ m cap' (vs ++ rest).toArray T us hu (by rw [hi']; simp [hsz]) hh
       (by rw [hul, hds]; exact (Nat.min_eq_left hmk).symm) (fun j v hj => by rw [addr_add]; exact hheap.gw _ _ _ (huG j v hj)) (by simp; omega) huo
     have hsp : (vs ++ rest).take off ++ us ++ (vs ++ rest).drop (off + us.length) = (vs.take off ++ us ++ vs.drop (off + us.length)) ++ rest := by
       rw [List.take_append_of_le_length (by omega), List.drop_append_of_le_length (by omega)]
       simp
     simp only at hrun0
     rw [hsp] at hrun0
     have hcl : (splice cs off ds).length = cs.length := by
       simp only [splice, List.length_append, List.length_take, List.length_drop]
       omega
     obtain ⟨hok', hext⟩ := hheap.write (n := n) (blk := blk) (by rw [hb]; rfl) hE rfl hh hrel (hrel.splice hur) (((hones.take _).append huo).append (hones.drop _)) hcl
     rw [hb] at hok' hext
     have hrun : (Builtin.copy_ #[t, t'] o.type #[a.eval xo, a.eval yo]).run P w = .ok (goInt us.length) (w.setRow blk ((vs.take off ++ us ++ vs.drop (off + us.length)) ++ rest).toArray) := by
       rw [hev, hyev]; exact hrun0
     refine .inl ?_
     unfold Oper.wp
     rw [hexec _ _ hrun]
     refine hK _ _ E G ?_ hok' hext
     simp only [Rel, goInt]
     rw [hul, hds]
   · rw [hE] at hbox; simp [BoxOk] at hbox
 · omega
theorem Mems.mkI {o : Oper} {t : TypeId} {xo : Operand} (ho : o.op = .makeInterface t xo) (ht : P.concrete t = true) : Mems P ρ bx o (.iface t (ρ xo)) bx := by
 intro a w E G hρ hheap K Q hK
 have hxv := hρ xo (by simp [ho, Op.operands])
 have hrun : (execOp a.eval o).run P w = .ok (.value (.iface t (a.eval xo))) w := by
   simp only [execOp, ho, Sem.run_bind, run_makeInterface _ t _ ht, Result.andThen_ok, Sem.run_pure]
 refine .inl ?_
 unfold Oper.wp
 rw [hrun]
 refine hK _ w E G ?_ hheap (.refl _ _ _ _)
 simp only [Rel]
 exact ⟨_, rfl, hxv⟩
theorem Mems.invoke {o : Oper} {c : Call} {ro : Operand} {name : String} {t : TypeId} {f : FuncId} {v r : AV} (ho : o.op = .call c) (hc : c.callee = .invoke ro name) (ha : c.args = #[])
   (hm : ∀ (v : Value) (w : World), (callMethod (.iface t v) name #[]).run P w = .ok (.enter f #[v]) w) (hr : ρ ro = .iface t v) (h : FnP P f [v] r) (hcl : Cl v = true) : Mems P ρ bx o r bx := by
 intro a w E G hρ hok K Q hk
 have hrv := hρ ro (by simp [ho, Op.operands, Call.operands, hc])
 rw [hr] at hrv
 simp only [Rel] at hrv
 obtain ⟨y, hy, hyr⟩ := hrv
 have hcalls := h.2 w G [y] hok.gw (RelL.cons (Rel.closed (E' := E0) _ _ hcl hyr) RelL.nil)
 have hrun : (execOp a.eval o).run P w = .ok (.enter f #[y]) w := by
   have e1 : (#[Value.iface t y] ++ (#[] : Array Operand).map a.eval) = #[Value.iface t y] := by simp
   simp only [execOp, ho, resolve, hc, ha, hy, Sem.run_bind, Sem.run_pure, Result.andThen_ok, Go.invoke, e1]
   exact hm y w
 refine .inl ?_
 unfold Oper.wp
 rw [hrun, Oper.upon_enter]
 refine Calls.mono hcalls fun e w'' he => ?_
 obtain ⟨v, G', rfl, hx, hg, hext⟩ := he
 obtain ⟨h1, h2⟩ := hok.quiet hg hext
 exact hk v w'' E G' (hx.mono (E0_le E) (.refl _)) h1 h2
theorem Mems.nilI {o : Oper} {op : BinOp} {t yt : TypeId} {xo : Operand} {neg e : Bool} (ho : o.op = .binOp op t xo (.const .nilIface) yt) (hop : eqOf op = some neg) (ht : td P t = .iface e) (hx : ρ xo = .niface) : Mems P ρ bx o (eqA neg true) bx := by
 intro a w E G hρ hheap K Q hK
 have hxv := hρ xo (by simp [ho, Op.operands])
 rw [hx] at hxv
 simp only [Rel] at hxv
 have htd : td P t ≠ .none := by rw [ht]; simp
 obtain ⟨i, d, hi, hu, hd⟩ := td_some htd
 rw [ht] at hd
 have hd' : ∃ ms, d = .interface ms := by cases d <;> simp [tdOf] at hd; exact ⟨_, rfl⟩
 obtain ⟨ms, rfl⟩ := hd'
 have hrun : (execOp a.eval o).run P w = .ok (.value (.bool (if neg then !true else true))) w := by
   have he : a.eval (.const .nilIface) = .nilIface := rfl
   have hq : (Op.equal t .nilIface .nilIface).run P w = .ok true w := by
     unfold Op.equal
     rw [show Op.maxDepth = (Op.maxDepth - 1) + 1 from rfl]
     unfold Op.equalIn
     simp [run_underlying hu]
   cases op <;> simp [eqOf] at hop <;> subst hop <;>
     simp [execOp, ho, hxv, he, eqGuard, binOp, hq]
 refine .inl ?_
 unfold Oper.wp
 rw [hrun]
 exact hK _ w E G (by simp [Rel, eqA]) hheap (.refl _ _ _ _)
end
section
variable {P : Program} {ops : Array Oper} {cf : Oper → Cls} {l : List Oper} {i nx : Nat} {tm : Nat → AV} {bx : Nat → Box} {Q : (Nat → AV) → (Nat → Box) → Prop} {o : Oper}
theorem RunQ.copy {c : Call} {t t' e : TypeId} {xo yo : Operand} {n off k m by_ : Nat} {fl : Bool} {cs ds : List AV} (hok : AppOk P t e 1 by_) (ho : o.op = .call c) (hc : c.callee = .builtin .copy)
   (hat : c.argTypes = #[t, t']) (harg : c.args = #[xo, yo]) (hx : evA tm xo = .msl n off k) (hy : evA tm yo = .sl fl m ds) (hb : bx n = .buf 1 cs) (hw : wantedA ops tm o = some true) (hcf : cf o = .w) (hm0 : 0 < m) (hmk : m ≤ k) (hds : ds.length = m) (hl : off + k ≤ cs.length)
   (h : RunQ P ops cf l (i + 1) (putA tm o.dst (.int .i64 (m : Int))) (upd bx n (.buf 1 (splice cs off ds))) nx Q) : RunQ P ops cf (o :: l) i tm bx nx Q :=
 RunQ.mem hw hcf (Mems.copy ho hc hat harg hok hx hy hb hm0 hmk hds hl) h
theorem RunQ.mkI {t : TypeId} {xo : Operand} (ht : P.concrete t = true) (ho : o.op = .makeInterface t xo) (hw : wantedA ops tm o = some true) (hcf : notWn (cf o) = true)
   (h : RunQ P ops cf l (i + 1) (putA tm o.dst (.iface t (evA tm xo))) bx nx Q) : RunQ P ops cf (o :: l) i tm bx nx Q := RunQ.pure hw hcf (fun b => Mems.mkI ho ht) h
theorem RunQ.invoke {c : Call} {ro : Operand} {name : String} {t : TypeId} {f : FuncId} {v r : AV} (hm : ∀ (v : Value) (w : World), (callMethod (.iface t v) name #[]).run P w = .ok (.enter f #[v]) w) (h : FnP P f [v] r)
   (ho : o.op = .call c) (hc : c.callee = .invoke ro name) (ha : c.args = #[]) (hr : evA tm ro = .iface t v) (hw : wantedA ops tm o = some true) (hcf : notWn (cf o) = true) (hcl : Cl v = true)
   (hn : RunQ P ops cf l (i + 1) (putA tm o.dst r) bx nx Q) : RunQ P ops cf (o :: l) i tm bx nx Q := RunQ.pure hw hcf (fun b => Mems.invoke ho hc ha hm hr h hcl) hn
theorem RunQ.nilI {op : BinOp} {t yt : TypeId} {xo : Operand} {neg e : Bool} (ht : td P t = .iface e) (ho : o.op = .binOp op t xo (.const .nilIface) yt) (hop : eqOf op = some neg) (hx : evA tm xo = .niface) (hw : wantedA ops tm o = some true) (hcf : notWn (cf o) = true)
   (h : RunQ P ops cf l (i + 1) (putA tm o.dst (eqA neg true)) bx nx Q) : RunQ P ops cf (o :: l) i tm bx nx Q := RunQ.pure hw hcf (fun b => Mems.nilI ho hop ht hx) h
end
section
variable {P : Program} {ops : Array Oper} {l : List Oper} {i nx : Nat} {tm : Nat → AV} {bx : Nat → Box} {cl : List Cls} {Q : (Nat → AV) → (Nat → Box) → List Cls → Prop} {o : Oper}
theorem RunX.copy {c : Call} {t t' e : TypeId} {xo yo : Operand} {n off k m by_ : Nat} {fl : Bool} {cs ds : List AV} (hok : AppOk P t e 1 by_) (ho : o.op = .call c) (hc : c.callee = .builtin .copy)
   (hat : c.argTypes = #[t, t']) (harg : c.args = #[xo, yo]) (hx : evA tm xo = .msl n off k) (hy : evA tm yo = .sl fl m ds) (hb : bx n = .buf 1 cs) (hw : wantedA ops tm o = some true) (hm0 : 0 < m) (hmk : m ≤ k) (hds : ds.length = m) (hl : off + k ≤ cs.length)
   (h : RunX P ops l (i + 1) (putA tm o.dst (.int .i64 (m : Int))) (upd bx n (.buf 1 (splice cs off ds))) nx (.wn n :: cl) Q) : RunX P ops (o :: l) i tm bx nx cl Q :=
 RunX.one hw (fun b h1 => Mems.copy ho hc hat harg hok hx hy (h1.trans hb) hm0 hmk hds hl) h
theorem RunX.mkI {t : TypeId} {xo : Operand} (ht : P.concrete t = true) (ho : o.op = .makeInterface t xo) (hw : wantedA ops tm o = some true)
   (h : RunX P ops l (i + 1) (putA tm o.dst (.iface t (evA tm xo))) bx nx (.p :: cl) Q) : RunX P ops (o :: l) i tm bx nx cl Q := .consC .p (fun ho' => StepC.ofP (fun n e => by cases e) ho' hw fun b => Mems.mkI ho ht) h
theorem RunX.invoke {c : Call} {ro : Operand} {name : String} {t : TypeId} {f : FuncId} {v r : AV} (hm : ∀ (v : Value) (w : World), (callMethod (.iface t v) name #[]).run P w = .ok (.enter f #[v]) w) (h : FnP P f [v] r)
   (ho : o.op = .call c) (hc : c.callee = .invoke ro name) (ha : c.args = #[]) (hr : evA tm ro = .iface t v) (hw : wantedA ops tm o = some true) (hcl : Cl v = true)
   (hn : RunX P ops l (i + 1) (putA tm o.dst r) bx nx (.p :: cl) Q) : RunX P ops (o :: l) i tm bx nx cl Q := .consC .p (fun ho' => StepC.ofP (fun n e => by cases e) ho' hw fun b => Mems.invoke ho hc ha hm hr h hcl) hn
theorem RunX.nilI {op : BinOp} {t yt : TypeId} {xo : Operand} {neg e : Bool} (ht : td P t = .iface e) (ho : o.op = .binOp op t xo (.const .nilIface) yt) (hop : eqOf op = some neg) (hx : evA tm xo = .niface) (hw : wantedA ops tm o = some true)
   (h : RunX P ops l (i + 1) (putA tm o.dst (eqA neg true)) bx nx (.p :: cl) Q) : RunX P ops (o :: l) i tm bx nx cl Q := .consC .p (fun ho' => StepC.ofP (fun n e => by cases e) ho' hw fun b => Mems.nilI ho hop ht hx) h
end
end Go.AI
end

section
namespace Go.AI
open Go
section
variable {P : Program} {E E' : Env} {G G' : Heap} {w w' : World} {ρ : Operand → AV} {a : Act} {bx bx' : Nat → Box} {C : Ctx} {st st' : St}
def FnSeqV (P : Program) (f : FuncId) (xs : List (List AV)) (bs : Nat → Box) : Prop :=
 Callable P f ∧ ∀ (l : Nat) (Y : FSpec) (go : Nat → Bool), Works P l Y xs go → ∀ (w : World) (G : Heap) (own : Nat → Prop) (l1 : Loc) (vs : List Value), HeapOk (upd (upd B0 0 (.frn Y 0)) 1 (bs 0)) (setE (setE E0 0 (.set own)) 1 l1) G w →
   RelL (setE (setE E0 0 (.set own)) 1 l1) G [.yv l, .ptr 1 0] vs → Calls P f vs.toArray w (Rx (upd (upd B0 0 (.frn Y 0)) 1 (bs 0)) (setE (setE E0 0 (.set own)) 1 l1) G w (.tup []) (upd (upd B0 0 (.frn Y (taken go xs.length))) 1 (bs (taken go xs.length))))
theorem StRel.weak' {C : Ctx} {st : St} {tm' : Nat → AV} {nx' : Nat} (σ : Nat → Nat) (ht : TmW σ bx' tm' st.tm) (hb : BxW σ bx' bx' st.bx) (hi : InjW σ bx') (hA : anOk (fun n => σ n = n ∧ (bx' n).live = true) C.an) (h : StRel C st a w E G) :
   ∃ E' : Env, (∀ n, (bx' n).live = true → E' n = E (σ n)) ∧ StRel C ⟨tm', bx', nx'⟩ a w E' G := by
 let E' : Env := fun n => if (bx' n).live = true then E (σ n) else none
 have hEE : ∀ n, (bx' n).live = true → E' n = E (σ n) := fun n hn => by simp only [E', hn, if_true]
 have hlv : ∀ b, Live bx' E' b → Live st.bx E b := by
   rintro b ⟨n, l, h1, h2, h3⟩
   simp only [E', h1, if_true] at h2
   have := hb n
   refine ⟨σ n, l, ?_, h2, h3⟩
   exact wkB_live this h1
 refine ⟨E', hEE, h.size, fun t => ?_, h.df, ⟨h.ok.gw, fun n => ?_, fun n m l k b h1 h2 h3 h4 h5 h6 => ?_, fun b hb' => h.ok.off b (hlv b hb')⟩, h.ext.less hlv, keep_less h.keep hlv, fun p hp hf => ?_, h.ms⟩
 · have h1 := ht t
   have h2 := h.tm t
   show Rel E' G (tm' t) _
   revert h1
   generalize tm' t = x
   intro h1
   cases x <;> simp only [wkT] at h1
   case junk => simp only [Rel]
   case ptr n off =>
     rw [h1.1] at h2
     simp only [Rel, E', h1.2, if_true] at h2 ⊢
     exact h2
   case msl n off k =>
     rw [h1.1] at h2
     simp only [Rel, E', h1.2, if_true] at h2 ⊢
     exact h2
   case mv n =>
     rw [h1.1] at h2
     simp only [Rel, E', h1.2, if_true] at h2 ⊢
     exact h2
   all_goals exact wkA_rel hEE h1 h2
 · have h1 := hb n
   have h2 := h.ok.box (σ n)
   cases hbn : bx' n <;> simp only [hbn, wkB] at h1
   · simp [BoxOk, E', hbn, Box.live]
   · split at h1
     · rename_i c0 hc0
       rw [hc0] at h2
       simp only [E', hbn, Box.live, if_true]
       cases hEn : E (σ n) with
       | none => simp [hEn, BoxOk] at h2
       | some l =>
         rw [hEn] at h2
         cases l <;> simp only [BoxOk] at h2 ⊢
         obtain ⟨vs, T, g1, g2, g3⟩ := h2
         exact ⟨vs, T, g1, wkL_rel hEE h1 g2, g3⟩
     · exact h1.elim
   · split at h1
     · rename_i s0 c0 hc0
       obtain ⟨rfl, h1⟩ := h1
       rw [hc0] at h2
       simp only [E', hbn, Box.live, if_true]
       cases hEn : E (σ n) with
       | none => simp [hEn, BoxOk] at h2
       | some l =>
         rw [hEn] at h2
         cases l <;> simp only [BoxOk] at h2 ⊢
         · obtain ⟨g0, vs, rest, T, g1, g2, g3⟩ := h2
           exact ⟨g0, vs, rest, T, g1, wkL_rel hEE h1 g2, g3⟩
         · subst h2
           have := (wkL_rel (G := G) hEE h1 RelL.nil).length
           exact List.eq_nil_of_length_eq_zero this.symm
     · exact h1.elim
   · split at h1
     · rename_i Y0 i0 hc0
       obtain ⟨rfl, rfl⟩ := h1
       rw [hc0] at h2
       simp only [E', hbn, Box.live, if_true]
       cases hEn : E (σ n) with
       | none => simp [hEn, BoxOk] at h2
       | some l =>
         rw [hEn] at h2
         cases l <;> simp only [BoxOk] at h2 ⊢
         exact h2
     · exact h1.elim
   · split at h1
     · rename_i o0 hc0
       subst h1
       rw [hc0] at h2
       simp only [E', hbn, Box.live, if_true]
       cases hEn : E (σ n) with
       | none => simp [hEn, BoxOk] at h2
       | some l =>
         rw [hEn] at h2
         cases l <;> simp only [BoxOk] at h2 ⊢
         exact h2
     · exact h1.elim
 · simp only [E', h1, h2, if_true] at h3 h4
   have e1 : (st.bx (σ n)).live = true := by
     have := hb n
     exact wkB_live this h1
   have e2 : (st.bx (σ m)).live = true := by
     have := hb m
     exact wkB_live this h2
   exact hi n m h1 h2 (h.ok.sep _ _ l k b e1 e2 h3 h4 h5 h6)
 · obtain ⟨h1, h2⟩ := anOk_mem hA p hp
   show E' p.1 = _
   rw [hEE _ h2, h1]
   exact h.an p hp hf
theorem WK.rangeV {fo : Operand} {ps : Array Tmp} {asg body : Code} {k : List Item} {tm tm0 : Nat → AV} {bx0 : Nat → Box} {nx : Nat} {fid : FuncId} (n0 : Nat) (bs : Nat → Box)
   (xs : List (List AV)) (go : Nat → Bool) (jmp : Nat → Option Code) (S : Nat → Nat → Box) (N : List Nat) (hrd : C.rd = none)
   (hf : evA tm0 fo = .fn fid [.ptr n0 0]) (hb0 : bx0 n0 = bs 0) (hbl : ∀ i, (bs i).live = true) (hbc : ClB (bs 0) = true) (hbf : ∀ Y i, bs 0 ≠ .frn Y i) (hS : S 0 n0 = .none) (hseq : FnSeqV P fid xs bs)
   (hwt : TmW (fun n => n) (S 0) tm tm0) (hwb : BxW (fun n => n) (S 0) (S 0) bx0)
   (hps : ∀ p, p ∈ ps.toList → p < C.fn.ntmps) (hlen : ∀ x, x ∈ xs → x.length = ps.toList.length) (hxcl : ∀ x, x ∈ xs → ClL x = true)
   (hN : ∀ i n, n ∈ N → (S i n).live = true) (hNf : ∀ n, n ∈ N → ∀ Y i, S 0 n ≠ .frn Y i) (htm : ∀ t, Nm (maskN N) (tm t) = true)
   (rounds : ∀ i x, xs[i]? = some x → (∀ j, j < i → go j = true) → ∀ (l : Nat) (rc : Loop) (kp : List (Nat × Obj)) (E : Env) (own : Nat → Prop) (G : Heap) (w : World), RdOk l kp E N own →
     WK P (CtxR C.f C.fn l { rc with state := .ready, pending := none } (recAt rc go jmp (i + 1)) kp E N (S (i + 1)) own G w (go i)) [.code asg, .beginRound, .code body] ⟨setPs tm ps.toList x, S i, 0⟩)
   (after : ∀ r, WK P { C with ms := r :: C.ms, kp := (r, .deferred (some [])) :: C.kp } (((jumpAt go jmp (taken go xs.length)).map Item.code).toList ++ k) ⟨tm, S (taken go xs.length), 0⟩)
   (hAn : anOk (· ∈ N) C.an := by first | exact trivial | exact ⟨by simp, trivial⟩) :
   WK P C (.code (.rangeFunc fo ps asg body) :: k) ⟨tm0, bx0, nx⟩ := by
 intro a w Ef G hstf b cs hfb hkd hr
 have hAw : anOk (fun n => n = n ∧ (S 0 n).live = true) C.an := by
   have : ∀ L : List (Nat × Loc), anOk (· ∈ N) L → anOk (fun n => n = n ∧ (S 0 n).live = true) L := by
     intro L
     induction L with
     | nil => intro _; trivial
     | cons q L ih => intro h; exact ⟨⟨rfl, hN 0 _ h.1⟩, ih h.2⟩
   exact this _ hAn
 obtain ⟨E, hEE, hst⟩ := hstf.weak' (tm' := tm) (nx' := 0) (fun n => n) hwt hwb InjW.id hAw
 have hfok : HeapOk bx0 Ef G w := hstf.ok
 have hbln : (bx0 n0).live = true := by rw [hb0]; exact hbl 0
 obtain ⟨l1, hl1⟩ := hfok.loc hbln
 have hl1f : l1.fr = false := by
   have hbx := hfok.box n0
   rw [hl1, hb0] at hbx
   have h1 := hbl 0
   have h2 := hbf
   cases hb : bs 0 <;> rw [hb] at hbx h1 h2 <;> simp only [Box.live, Bool.false_eq_true] at h1
   · cases l1 <;> simp only [BoxOk] at hbx; rfl
   · cases l1 <;> simp only [BoxOk] at hbx <;> rfl
   · exact absurd rfl (h2 _ _)
   · cases l1 <;> simp only [BoxOk] at hbx; rfl
 have hl1L : ∀ c, l1.has c → Live bx0 Ef c := fun c hc => ⟨n0, l1, hbln, hl1, hc⟩
 have hl1n : ∀ c, l1.has c → C.w.heap.size ≤ c ∨ C.own c := fun c hc => hstf.ext.newb c (hl1L c hc)
 have hdis : ∀ c, Live (S 0) E c → ¬ l1.has c := by
   rintro c ⟨m, q, h1, h2, h3⟩ hc
   have hm : m ≠ n0 := fun e => by subst e; rw [hS] at h1; cases h1
   exact hm (hfok.sep m n0 q l1 c (wkB_live (hwb m) h1) hbln (by rw [← hEE m h1]; exact h2) hl1 h3 hc)
 have hkpf : ∀ b o, (b, o) ∈ C.kp → ¬ l1.has b := fun b o hb hc => (hstf.keep b o hb).2 (hl1L b hc)
 have hl1s : ∀ c, l1.has c → c < w.heap.size ∧ ∀ o, G c o = none := fun c hc => hfok.off c (hl1L c hc)
 have hrn : b.roundOf = none := hr.trans hrd
 have hst_tm : ∀ t, Rel E G (tm t) (a.tmps.getD t undef) := hst.tm
 have hst_ok : HeapOk (S 0) E G w := hst.ok
 have hst_ext : ExtS C.own C.G C.w (S 0) E G w := hst.ext
 have hst_keep : ∀ b o, (b, o) ∈ C.kp → w.heap[b]? = some o ∧ ¬ Live (S 0) E b := hst.keep
 let r := w.heap.size
 let l := w.heap.size + 1
 let rc : Loop := { state := .ready, pending := none, fn := b.fn, tmps := a.tmps, params := ps, assign := asg, body, defers := w.heap.size }
 let W1 := w.alloc (.deferred (some []))
 let W2 := W1.alloc (.loop rc)
 have hW1s : W1.heap.size = w.heap.size + 1 := by show (w.heap.push _).size = _; simp
 have hW2s : W2.heap.size = w.heap.size + 2 := by show (W1.heap.push _).size = _; rw [Array.size_push, hW1s]
 have t1 : Turn r w W1 := Turn.alloc rfl
 have t2 : Turn l W1 W2 := by have := Turn.alloc (w := W1) (o := .loop rc) rfl; rwa [hW1s] at this
 have hlt : ∀ b, Live (S 0) E b → b < w.heap.size := fun b hb => (hst_ok.off b hb).1
 have ok1 : HeapOk (S 0) E G W1 := hst_ok.turn t1 fun h => Nat.lt_irrefl _ (hlt _ h)
 have ok2 : HeapOk (S 0) E G W2 := ok1.turn t2 fun h => by have := hlt _ h; omega
 have hkp2 : ∀ b o, (b, o) ∈ ((r, Obj.deferred (some [])) :: C.kp) → W2.heap[b]? = some o ∧ ¬ Live (S 0) E b := by
   intro b o hb
   rcases List.mem_cons.1 hb with hb | hb
   · simp only [Prod.mk.injEq] at hb
     obtain ⟨rfl, rfl⟩ := hb
     refine ⟨(t2.heap r (by omega)).trans (World.alloc_heap_new _ _), fun h => Nat.lt_irrefl _ (hlt _ h)⟩
   · obtain ⟨h1, h2⟩ := hst_keep b o hb
     have := (Array.getElem?_eq_some_iff.1 h1).1
     exact ⟨((t2.heap b (by omega)).trans (t1.heap b (by omega))).trans h1, h2⟩
 have hl2 : W2.heap[l]? = some (.loop rc) := by have := World.alloc_heap_new W1 (.loop rc); rwa [hW1s] at this
 have hnl : ¬ Live (S 0) E l := fun h => by have := hlt _ h; omega
 let kp' : List (Nat × Obj) := (r, Obj.deferred (some [])) :: C.kp
 have hkc : ∀ b o, (b, o) ∈ kp' → Obj.isC o = false := fun b o hb => by
   rcases List.mem_cons.1 hb with hb | hb
   · simp only [Prod.mk.injEq] at hb; rw [hb.2]; rfl
   · exact hst.ms.2.2 b o hb
 have hkl : ∀ o, (l, o) ∉ kp' := fun o hb => by
   rcases List.mem_cons.1 hb with hb | hb
   · simp only [Prod.mk.injEq] at hb; omega
   · have := (Array.getElem?_eq_some_iff.1 (hst_keep l o hb).1).1; omega
 let Y := loopY E G N S l (recAt rc go jmp) kp'
 let own0 : Nat → Prop := fun b => Live (S 0) E b ∨ b = l ∨ ∃ o, (b, o) ∈ kp'
 have hNE : ∀ n, n ∈ N → ∃ q, E n = some q ∧ q.fr = false := fun n hn => by
   obtain ⟨q, hq⟩ := hst_ok.loc (hN 0 n hn)
   refine ⟨q, hq, ?_⟩
   have hbx := hst_ok.box n
   rw [hq] at hbx
   have h1 := hN 0 n hn
   have h2 := hNf n hn
   cases hb : S 0 n <;> rw [hb] at hbx h1 h2 <;> simp only [Box.live, Bool.false_eq_true] at h1
   · cases q <;> simp only [BoxOk] at hbx; rfl
   · cases q <;> simp only [BoxOk] at hbx <;> rfl
   · exact absurd rfl (h2 _ _)
   · cases q <;> simp only [BoxOk] at hbx; rfl
 have okF : ∀ (i : Nat) (E1 : Env) (G1 : Heap) (w1 : World), (HeapLe G G1 ∧ ∀ n, n ∈ N → E1 n = E n) → HeapOk (S i) E1 G1 w1 → w1.heap[l]? = some (.loop (recAt rc go jmp i)) → ¬ Live (S i) E1 l →
     (∀ b o, (b, o) ∈ kp' → w1.heap[b]? = some o ∧ ¬ Live (S i) E1 b) →
     HeapOk (upd B0 0 (.frn Y i)) (setE E0 0 (.set fun b => Live (S i) E1 b ∨ b = l ∨ ∃ o, (b, o) ∈ kp')) G1 w1 := by
   intro i E1 G1 w1 h1 h2 h3 h4 h5
   refine ⟨h2.gw, fun m => ?_, fun m m' k k' c g1 g2 _ _ _ _ => (B0_one g1).trans (B0_one g2).symm, fun c hc => ?_⟩
   · by_cases hm : m = 0
     · subst hm
       simp only [upd_same, setE, if_true, BoxOk]
       exact ⟨E1, h1, h2.part, fun b => Iff.rfl, h3, h4, h5⟩
     · rw [upd_ne _ _ _ _ hm]; simp [setE, hm, E0, BoxOk, B0]
   · have hc := Live_one hc
     rcases hc with hc | rfl | ⟨o, hc⟩
     · exact h2.off c hc
     · exact ⟨(Array.getElem?_eq_some_iff.1 h3).1, noG h2.gw h3 rfl⟩
     · exact ⟨(Array.getElem?_eq_some_iff.1 (h5 c o hc).1).1, noG h2.gw (h5 c o hc).1 (hkc c o hc)⟩
 have works : Works P l Y xs go := by
   intro i x hx hgo w1 G1 own vs hY hxv
   have hI := hY.box 0
   simp only [upd_same, setE, if_true, BoxOk] at hI
   obtain ⟨E1, e1, part, hown, hl, hnl1, hkp1⟩ := hI
   have ok1 : HeapOk (S i) E1 G1 w1 := part.full hY.gw
   have hrec : recAt rc go jmp i = { rc with state := .ready, pending := none } := by
     cases i with
     | zero => rfl
     | succ i => simp only [recAt, hgo i (by omega), if_true]
   rw [hrec] at hl
   have hvl := hxv.length
   have hxl := hlen x (List.mem_of_getElem? hx)
   have hy := run_yield (P := P) (args := vs.toArray) hl (by show vs.toArray.size = ps.size; simp at hxl ⊢; omega)
   refine ⟨b.fn, _, asg, body, hy, fun c cs' => ?_⟩
   have etm : ((ps.zip vs.toArray).foldl (fun tmps (t, a) => tmps.setIfInBounds t a) a.tmps) = ((ps.toList.zip vs).foldl (fun tmps (t, a) => tmps.setIfInBounds t a) a.tmps) := by
     rw [← Array.foldl_toList]; simp
   have hownl : own l := (hown l).2 (.inr (.inl rfl))
   have hwk := rounds i x hx hgo l rc kp' E own G1 w1 ⟨hkl, hownl, hNE⟩
   let a1 : Act := { tmps := (ps.toList.zip vs).foldl (fun tmps (t, a) => tmps.setIfInBounds t a) a.tmps, defers := [] }
   have hst1 : StRel (CtxR C.f C.fn l { rc with state := .ready, pending := none } (recAt rc go jmp (i + 1)) kp' E N (S (i + 1)) own G1 w1 (go i)) ⟨setPs tm ps.toList x, S i, 0⟩ a1 w1 E1 G1 := by
     refine ⟨?_, ?_, rfl, ok1, ⟨rfl, rfl, rfl, fun _ _ => rfl, Nat.le_refl _, .refl _, fun _ _ _ => ⟨rfl, rfl⟩, fun b hb => .inr ((hown b).2 (.inl hb))⟩, fun b o hb => ?_, fun p hp hf => ?_, ⟨by simp [CtxR], (fun r hr => by cases hr), fun b o hb => ?_⟩⟩
     · show C.fn.ntmps ≤ _
       rw [foldl_size]; exact hst.size
     · exact setPs_rel _ _ _ _ _ (fun p hp => Nat.lt_of_lt_of_le (hps p hp) hst.size) (fun t => Rel.agree e1.2 e1.1 (htm t) (hst_tm t)) (hxv.closed _ _ (hxcl x (List.mem_of_getElem? hx)))
     · rcases List.mem_cons.1 hb with hb | hb
       · simp only [Prod.mk.injEq] at hb
         obtain ⟨rfl, rfl⟩ := hb
         exact ⟨hl, hnl1⟩
       · exact hkp1 b o hb
     · simp only [CtxR, List.mem_map] at hp
       obtain ⟨n, hn, rfl⟩ := hp
       obtain ⟨q, hq, hqf⟩ := hNE n hn
       simp only [e1.2 n hn, hq, Option.getD_some]
     · rcases List.mem_cons.1 hb with hb | hb
       · simp only [Prod.mk.injEq] at hb; rw [hb.2]; rfl
       · exact hkc b o hb
   let b1 : Frame := { (default : Frame) with fn := b.fn, kind := .normal, roundOf := some l }
   obtain ⟨e, w', hR, hfin⟩ := hwk a1 w1 E1 G1 hst1 b1 (c :: cs') hfb rfl rfl
   obtain ⟨rfl, E2, G2, q1, q2, q3, q4, q5, q6⟩ := hR
   obtain ⟨v, hv, hsteps⟩ := hfin c cs' rfl
   simp only [Ending.returned.injEq] at hv; subst hv
   refine ⟨w', G2, _, ?_, okF (i + 1) E2 G2 w' ⟨e1.1.trans q3.heap, q1⟩ q2 q4 q5 q6, q3.os, q3.tape, q3.output, q3.fz, q3.size, fun n k hn hf => ?_, q3.heap, fun c hc hn => q3.frame c hc fun ho => hn ⟨0, .set own, rfl, by simp [setE], ho⟩, fun c hc => ?_⟩
   · have e0 : Frame.round l b.fn ((ps.zip vs.toArray).foldl (fun tmps (t, a) => tmps.setIfInBounds t a) a.tmps) asg body .normal = b1.atR a1 [.code asg, .beginRound, .code body] := by
       rw [etm]; rfl
     show Steps P (lone (Frame.round l b.fn _ asg body .normal) (c :: cs') w1) _
     rw [show ((ps.zip vs.toArray).foldl (fun tmps (t, a) => tmps.setIfInBounds t a) a.tmps) = ((({ rc with state := .ready, pending := none } : Loop).params.zip vs.toArray).foldl (fun tmps (t, a) => tmps.setIfInBounds t a) ({ rc with state := .ready, pending := none } : Loop).tmps) from rfl] at e0
     rw [e0]; exact hsteps
   · unfold setE at hn
     split at hn
     · simp only [Option.some.injEq] at hn; subst hn; simp [Loc.fr] at hf
     · simp [E0] at hn
   · have hc := Live_one hc
     have back : own c → w1.heap.size ≤ c ∨ Live (upd B0 0 (.frn Y i)) (setE E0 0 (.set own)) c := fun h => .inr ⟨0, .set own, rfl, by simp [setE], h⟩
     rcases hc with hc | rfl | ⟨o, hc⟩
     · rcases q3.newb c hc with h | h
       · exact .inl h
       · exact back h
     · exact back hownl
     · exact back ((hown c).2 (.inr (.inr ⟨o, hc⟩)))
 -- the call
 have hfo := evA_rel hstf.tm fo
 rw [hf] at hfo
 simp only [Rel, RelL] at hfo
 obtain ⟨us, hfv, y, us', hus, ⟨ly, blk, hy1, hy2, hy3⟩, hus'⟩ := hfo
 subst hus' hus hy3
 rw [hl1] at hy1
 cases hy1
 have okY := okF 0 E G W2 ⟨.refl _, fun _ _ => rfl⟩ ok2 hl2 hnl hkp2
 have hl1W : ∀ c, l1.has c → W2.heap[c]? = w.heap[c]? := fun c hc => (t2.heap c (by have := (hl1s c hc).1; omega)).trans (t1.heap c (by have := (hl1s c hc).1; omega))
 have okV : HeapOk (upd (upd B0 0 (.frn Y 0)) 1 (bs 0)) (setE (setE E0 0 (.set own0)) 1 l1) G W2 := by
   have hd : ∀ c, own0 c → ¬ l1.has c := by
     rintro c (hc | rfl | ⟨o, hc⟩) h1
     · exact hdis c hc h1
     · have := (hl1s _ h1).1; omega
     · rcases List.mem_cons.1 hc with hc | hc
       · simp only [Prod.mk.injEq] at hc
         have := (hl1s _ h1).1; omega
       · exact hkpf _ _ hc h1
   have two : ∀ m q, (upd (upd B0 0 (.frn Y 0)) 1 (bs 0) m).live = true → setE (setE E0 0 (.set own0)) 1 l1 m = some q → (m = 0 ∧ q = .set own0) ∨ (m = 1 ∧ q = l1) := by
     intro m q h1 h2
     by_cases hm : m = 1
     · subst hm; simp only [setE, if_true, Option.some.injEq] at h2; exact .inr ⟨rfl, h2.symm⟩
     · rw [upd_ne _ _ _ _ hm] at h1
       have := B0_one h1; subst this
       simp [setE] at h2; exact .inl ⟨rfl, h2.symm⟩
   refine ⟨okY.gw, fun m => ?_, fun m m' q q' c h1 h2 h3 h4 h5 h6 => ?_, fun c hc => ?_⟩
   · by_cases hm : m = 1
     · subst hm
       simp only [upd_same, setE, if_true]
       have := hfok.box n0
       rw [hl1, hb0] at this
       exact (BoxOk.closed this hbc).mono (.refl _) (.refl _) (by omega) fun l' b' e hb' _ => by cases e; exact ⟨hl1W b' hb', rfl⟩
     · rw [upd_ne _ _ _ _ hm]
       have := okY.box m
       simp only [setE, hm, if_false]
       by_cases hm0 : m = 0
       · subst hm0
         simp only [upd_same, setE, if_true, BoxOk] at this ⊢
         exact this
       · rw [upd_ne _ _ _ _ hm0]; simp [hm0, E0, BoxOk, B0]
   · rcases two m q h1 h3 with ⟨rfl, rfl⟩ | ⟨rfl, rfl⟩ <;> rcases two m' q' h2 h4 with ⟨rfl, rfl⟩ | ⟨rfl, rfl⟩
     · rfl
     · exact absurd h6 (hd c h5)
     · exact absurd h5 (hd c h6)
     · rfl
   · obtain ⟨m, q, h1, h2, h3⟩ := hc
     rcases two m q h1 h2 with ⟨rfl, rfl⟩ | ⟨rfl, rfl⟩
     · exact okY.off c ⟨0, .set own0, rfl, by simp [setE]; rfl, h3⟩
     · exact ⟨by have := (hl1s c h3).1; omega, (hl1s c h3).2⟩
 have hcalls := (hseq.2 l Y go works) W2 G _ l1 [.func (.yield l) #[] #[], .pointer (some ⟨blk, 0, none⟩)] okV (RelL.cons (by simp [Rel]) (RelL.cons (by simp only [Rel]; exact ⟨l1, blk, by simp [setE], hy2, rfl⟩) RelL.nil))
 obtain ⟨e, w3, fr, hR, hcome, hfr, hleave⟩ := hcalls (b.atR { a with defers := markOf r :: a.defers } (.inRangeFunc l :: k) :: cs)
 obtain ⟨v, G3, E3, rfl, _, ok3, ext3⟩ := hR
 obtain ⟨l3, hl3⟩ := ok3.loc (n := 0) rfl
 have hI := ok3.box 0
 rw [hl3] at hI
 obtain ⟨own3, rfl⟩ := BoxOk.frn_loc (Y := Y) (i := taken go xs.length) hI
 have hI : Y.I (taken go xs.length) own3 w3 G3 := hI
 obtain ⟨E', e1, part, hown, hlr, hnl3, hkp3⟩ := hI
 let m := taken go xs.length
 have hst3 : (recAt rc go jmp m).state ≠ .busy := by
   cases hm : m with
   | zero => simp [recAt]
   | succ j => simp only [recAt]; split <;> simp
 have hpend : (recAt rc go jmp m).pending = jumpAt go jmp m := by
   cases hm : m with
   | zero => rfl
   | succ j => simp only [recAt, jumpAt]; split <;> rfl
 have hend : (Instr.endLoop l).run P w3 = .ok (jumpAt go jmp m) (w3.putObj l (.loop { recAt rc go jmp m with state := .exhausted })) := by rw [← hpend]; exact run_endLoop hlr hst3
 have t3 : Turn l w3 (w3.putObj l (.loop { recAt rc go jmp m with state := .exhausted })) := Turn.put hlr rfl rfl
 have okS : HeapOk (S m) E' G3 w3 := part.full ok3.gw
 have hlive3 : ∀ c, Live (S m) E' c → Live (upd (upd B0 0 (.frn Y m)) 1 (bs m)) E3 c := fun c hc => ⟨0, _, rfl, hl3, (hown c).2 (.inl hc)⟩
 have live2 : ∀ c, Live (upd (upd B0 0 (.frn Y 0)) 1 (bs 0)) (setE (setE E0 0 (.set own0)) 1 l1) c → own0 c ∨ l1.has c := by
   rintro c ⟨q, k', h1, h2, h3⟩
   by_cases hq : q = 1
   · subst hq; simp only [setE, if_true, Option.some.injEq] at h2; subst h2; exact .inr h3
   · rw [upd_ne _ _ _ _ hq] at h1
     have := B0_one h1; subst this
     simp [setE] at h2; subst h2; exact .inl h3
 have hCw : C.w.heap.size ≤ w.heap.size := hst_ext.size
 have ext2 : ExtS C.own C.G C.w (S 0) E G W2 := (hst_ext.turn t1 hCw).turn t2 (by omega)
 have extS : ExtS C.own C.G C.w (S m) E' G3 w3 := by
   refine ⟨ext3.os.trans ext2.os, ext3.tape.trans ext2.tape, ext3.output.trans ext2.output, fun q hq => (ext3.fz q (Nat.lt_of_lt_of_le hq ext2.size)).trans (ext2.fz q hq), Nat.le_trans ext2.size ext3.size, ext2.heap.trans ext3.heap, fun c hc ho => ?_, fun c hc => ?_⟩
   · by_cases hck : ∃ o, (c, o) ∈ C.kp
     · obtain ⟨o, hck⟩ := hck
       have h1 := hst_ext.frame c hc ho
       have h2 := hst_keep c o hck
       have h3 := hkp3 c o (List.mem_cons_of_mem _ hck)
       refine ⟨h3.1.trans (h2.1.symm.trans h1.1), ?_⟩
       rw [← h1.2]
       funext q
       rw [noG ok3.gw h3.1 (hst.ms.2.2 c o hck), noG hst_ok.gw h2.1 (hst.ms.2.2 c o hck)]
     · have h1 := ext2.frame c hc ho
       have h2 := ext3.frame c (by omega) fun hl => by
         rcases live2 c hl with (h | h | ⟨o, h⟩) | h
         · rcases hst_ext.newb c h with h | h
           · omega
           · exact ho h
         · omega
         · rcases List.mem_cons.1 h with h | h
           · simp only [Prod.mk.injEq] at h; omega
           · exact hck ⟨o, h⟩
         · rcases hl1n c h with h | h
           · omega
           · exact ho h
       exact ⟨h2.1.trans h1.1, h2.2.trans h1.2⟩
   · rcases ext3.newb c (hlive3 c hc) with h | h
     · exact .inl (by omega)
     · rcases live2 c h with (h | rfl | ⟨o, h⟩) | h
       · exact hst_ext.newb c h
       · exact absurd hc hnl3
       · exact absurd hc (hkp3 c o h).2
       · exact hl1n c h
 have hsteps : Steps P (lone (b.atR a (.code (.rangeFunc fo ps asg body) :: k)) cs w)
     (lone (b.atR { a with defers := markOf r :: a.defers } (((jumpAt go jmp m).map Item.code).toList ++ k)) cs (w3.putObj l (.loop { recAt rc go jmp m with state := .exhausted }))) := by
   have hent := stepR_rangeFunc (P := P) (b := b) (a := a) (k := k) (cs := cs) (w := w) (g := fo) (ps := ps) (assign := asg) (body := body) (l := l) (mark := [{ target := .collected r, args := #[] }]) (w₁ := W2) (w₁' := W2) (w₂ := W2)
     (d := { target := .fn (.func fid) [.pointer (some ⟨blk, 0, none⟩)].toArray, args := #[.func (.yield l) #[] #[]] }) (f := fid) (args := ([.func (.yield l) #[] #[], .pointer (some ⟨blk, 0, none⟩)] : List Value).toArray)
     (by rw [hrn]; exact run_enterLoop_outer _ _ _ _ _)
     (by simp only [resolve, hfv]; simp [go_sem, Deferred.ofValue, Act.eval])
     (by
       exact callFunc_run hseq.1 _)
   refine .head hent (Steps.trans hcome (.head ?_ (.one (stepR_endRangeFunc hend))))
   rw [← finish_atR_inRangeFunc l v]; exact step_leave_returned hleave
 have hC' : MsOk { C with ms := r :: C.ms, kp := (r, .deferred (some [])) :: C.kp } := by
   refine ⟨List.nodup_cons.2 ⟨fun h => ?_, hst.ms.1⟩, fun q hq => ?_, hkc⟩
   · have := (Array.getElem?_eq_some_iff.1 (hst_keep _ _ (hst.ms.2.1 r h).1).1).1
     exact Nat.lt_irrefl _ this
   · rcases List.mem_cons.1 hq with rfl | hq
     · exact ⟨List.mem_cons_self .., hCw⟩
     · exact ⟨List.mem_cons_of_mem _ (hst.ms.2.1 q hq).1, (hst.ms.2.1 q hq).2⟩
 have hst4 : StRel { C with ms := r :: C.ms, kp := (r, .deferred (some [])) :: C.kp } ⟨tm, S m, 0⟩ { a with defers := markOf r :: a.defers } (w3.putObj l (.loop { recAt rc go jmp m with state := .exhausted })) E' G3 := by
   refine ⟨hst.size, fun t => Rel.agree e1.2 (e1.1) (htm t) (hst_tm t), ?_, okS.turn t3 hnl3, extS.turn t3 (by omega), fun c o hc => ?_, fun p hp hf => ?_, hC'⟩
   · show markOf r :: a.defers = _
     rw [hst.df]; rfl
   · obtain ⟨h1, h2⟩ := hkp3 c o hc
     exact ⟨(World.putObj_heap_other (by rintro rfl; exact hkl _ hc)).trans h1, h2⟩
   · have := anOk_mem hAn p hp
     rw [e1.2 _ this]; exact hst.an p hp hf
 obtain ⟨e, w5, hR5, hfin⟩ := after r _ _ _ _ hst4 b cs hfb hkd hr
 refine ⟨e, w5, hR5, ?_⟩
 have := hfin.of_steps hsteps
 unfold Fin at this ⊢
 exact this
theorem FnSeqV.intro {f : FuncId} {fn : Func} {c : Code} {xs : List (List AV)} {bs : Nat → Box} (hf : P.funcs[f]? = some fn) (hn : (fn.name == "runtime.NumGoroutine") = false) (hb : fn.body = some c)
   (h : ∀ l Y go, Works P l Y xs go → ∀ G w own l1, WK P (CtxX f fn [] [] [(1, l1)] (upd (upd B0 0 (.frn Y 0)) 1 (bs 0)) (setE (setE E0 0 (.set own)) 1 l1) G w (.tup []) (upd (upd B0 0 (.frn Y (taken go xs.length))) 1 (bs (taken go xs.length))))
     [.code c] ⟨tmOf [.yv l, .ptr 1 0], upd (upd B0 0 (.frn Y 0)) 1 (bs 0), 0⟩) : FnSeqV P f xs bs :=
 ⟨⟨fn, hf, hn, by simp [hb]⟩, fun l Y go hW w G own l1 vs hg hr => calls_of_wk (C := CtxX f fn [] [] [(1, l1)] (upd (upd B0 0 (.frn Y 0)) 1 (bs 0)) (setE (setE E0 0 (.set own)) 1 l1) G w (.tup []) (upd (upd B0 0 (.frn Y (taken go xs.length))) 1 (bs (taken go xs.length))))
   hf hb rfl rfl rfl (fun p hp _ => by simp [CtxX] at hp; subst hp; simp [setE]) rfl rfl (fun b h1 => h1) hg hr (h l Y go hW G w own l1)⟩
theorem WK.retV {f : FuncId} {fn : Func} {ms : List Nat} {kp : List (Nat × Obj)} {b0 b1 c0 c1 : Box} {own : Nat → Prop} {l1 : Loc} {r : AV} {k : List Item} (hfn : P.funcs[f]? = some fn)
   (h : match resL P st fn.results.toList with | some xs => wkT (fun n => n) (upd (upd B0 0 c0) 1 c1) r (packA xs) | none => False) (hb : wkB (fun n => n) (upd (upd B0 0 c0) 1 c1) st.bx 0 c0) (hb1 : wkB (fun n => n) (upd (upd B0 0 c0) 1 c1) st.bx 1 c1) (hl : c1.live = true)
   (hk : k = [] ∨ ∃ k', k = .code .ret :: k') :
   WK P (CtxX f fn ms kp [(1, l1)] (upd (upd B0 0 b0) 1 b1) (setE (setE E0 0 (.set own)) 1 l1) G w r (upd (upd B0 0 c0) 1 c1)) k st := by
 refine WK.retX (fun n => n) hfn h (BxW.upd (BxW.upd BxW.nil hb) hb1) InjW.id hk (fun n l' h hf => ?_) ⟨⟨rfl, by rw [upd_same]; exact hl⟩, trivial⟩
 unfold setE at h
 split at h
 · rename_i e; simp only [Option.some.injEq] at h; subst h; subst e; simp
 · split at h
   · simp only [Option.some.injEq] at h; subst h; simp [Loc.fr] at hf
   · simp [E0] at h
def FnV (P : Program) (f : FuncId) (args : List AV) (g : FuncId) (b : Box) : Prop :=
 Callable P f ∧ ∀ (w : World) (G : Heap) (vs : List Value), GW G w → RelL E0 G args vs → Calls P f vs.toArray w (Rx B0 E0 G w (.fn g [.ptr 0 0]) (upd B0 0 b))
theorem FnV.intro {f g : FuncId} {fn : Func} {c : Code} {args : List AV} {b : Box} (hf : P.funcs[f]? = some fn) (hn : (fn.name == "runtime.NumGoroutine") = false) (hb : fn.body = some c)
   (h : ∀ G w, WK P (CtxX f fn [] [] [] B0 E0 G w (.fn g [.ptr 0 0]) (upd B0 0 b)) [.code c] ⟨tmOf args, B0, 0⟩) : FnV P f args g b :=
 ⟨⟨fn, hf, hn, by simp [hb]⟩, fun w G vs hg hr => calls_of_wk (C := CtxX f fn [] [] [] B0 E0 G w (.fn g [.ptr 0 0]) (upd B0 0 b)) hf hb rfl rfl rfl (fun p hp _ => by cases hp) rfl rfl (fun b h1 => h1) (.start hg) hr (h G w)⟩
theorem HeapOk.joinB {nm : Nat} {l : Loc} {b0 : Box} (h : HeapOk bx E G w) (hnm : bx nm = .none) (hlb : b0.live = true) (hcl : ClB b0 = true)
   (h' : HeapOk (upd B0 0 b0) (setE E0 0 l) G' w') (hx : Ext B0 E0 G w (upd B0 0 b0) (setE E0 0 l) G' w') :
   HeapOk (upd bx nm b0) (setE E nm l) G' w' ∧ Ext bx E G w (upd bx nm b0) (setE E nm l) G' w' := by
 have hfr : ∀ b, b < w.heap.size → w'.heap[b]? = w.heap[b]? ∧ G' b = G b := fun b hb => hx.frame b hb (Live_B0 _ _)
 have he := setE_le (l := l) (h.none hnm)
 have hnew : ∀ b, l.has b → w.heap.size ≤ b ∧ b < w'.heap.size ∧ ∀ o, G' b o = Option.none := fun b hb => by
   have hL : Live (upd B0 0 b0) (setE E0 0 l) b := ⟨0, l, by simpa using hlb, by simp [setE], hb⟩
   rcases hx.newb b hL with h1 | h1
   · exact ⟨h1, h'.off b hL⟩
   · exact absurd h1 (Live_B0 _ _)
 have hlv : ∀ b, Live (upd bx nm b0) (setE E nm l) b → l.has b ∨ Live bx E b := by
   rintro b ⟨m, k, h1, h2, h3⟩
   by_cases hm : m = nm
   · subst hm; simp only [setE, if_true, Option.some.injEq] at h2; subst h2; exact .inl h3
   · rw [upd_ne _ _ _ _ hm] at h1; simp only [setE, hm, if_false] at h2; exact .inr ⟨m, k, h1, h2, h3⟩
 refine ⟨⟨h'.gw, fun m => ?_, fun m m' k k' b h1 h2 h3 h4 h5 h6 => ?_, fun b hb => ?_⟩, hx.os, hx.tape, hx.output, hx.fz, hx.size, he, hx.heap, fun b hb _ => hfr b hb, fun b hb => ?_⟩
 · by_cases hm : m = nm
   · subst hm
     simp only [upd_same, setE, if_true]
     have := h'.box 0
     simp only [upd_same, setE, if_true] at this
     exact this.closed hcl
   · rw [upd_ne _ _ _ _ hm]; simp only [setE, hm, if_false]
     exact (h.box m).mono he hx.heap hx.size fun l' b hl' hb hc => hfr b (h.off b ⟨m, l', hc, hl', hb⟩).1
 · by_cases hm : m = nm
   · by_cases hm' : m' = nm
     · rw [hm, hm']
     · subst hm
       simp only [setE, if_true, Option.some.injEq] at h3; subst h3
       simp only [setE, hm', if_false] at h4
       rw [upd_ne _ _ _ _ hm'] at h2
       have := (h.off b ⟨m', k', h2, h4, h6⟩).1
       have := (hnew b h5).1
       omega
   · by_cases hm' : m' = nm
     · subst hm'
       simp only [setE, if_true, Option.some.injEq] at h4; subst h4
       simp only [setE, hm, if_false] at h3
       rw [upd_ne _ _ _ _ hm] at h1
       have := (h.off b ⟨m, k, h1, h3, h5⟩).1
       have := (hnew b h6).1
       omega
     · simp only [setE, hm, hm', if_false] at h3 h4
       rw [upd_ne _ _ _ _ hm] at h1
       rw [upd_ne _ _ _ _ hm'] at h2
       exact h.sep m m' k k' b h1 h2 h3 h4 h5 h6
 · rcases hlv b hb with hb | hb
   · exact (hnew b hb).2
   · obtain ⟨h1, h2⟩ := h.off b hb
     exact ⟨Nat.lt_of_lt_of_le h1 hx.size, by rw [(hfr b h1).2]; exact h2⟩
 · rcases hlv b hb with hb | hb
   · exact .inl (hnew b hb).1
   · exact .inr hb
theorem Mems.callV {o : Oper} {c : Call} {fo : Operand} {f g : FuncId} {caps args : List AV} {nm : Nat} {b : Box} (ho : o.op = .call c) (hc : c.callee = .value fo)
   (hf : ρ fo = .fn f caps) (hle : LeL (c.args.toList.map ρ ++ caps) args) (h : FnV P f args g b) (hcl : ClL args = true) (hlb : b.live = true) (hcb : ClB b = true) (hnm : bx nm = .none) :
   Mems P ρ bx o (.fn g [.ptr nm 0]) (upd bx nm b) := by
 intro a w E G hρ hok K Q hk
 obtain ⟨vs, hrun, hvs⟩ := run_callFn (w := w) ho hc hf h.1 hρ
 have hcalls := h.2 w G vs hok.gw (RelL.closed _ _ hcl (hle _ _ _ hvs) (E' := E0))
 refine .inl ?_
 unfold Oper.wp
 rw [hrun, Oper.upon_enter]
 refine Calls.mono hcalls fun e w'' he => ?_
 obtain ⟨v, G', E1, rfl, hx, hg, hext⟩ := he
 obtain ⟨l, hl⟩ := hg.loc (n := 0) (by simpa using hlb)
 have hE1 : E1 = setE E0 0 l := by
   funext m
   by_cases hm : m = 0
   · subst hm; simp [setE, hl]
   · have := hg.box m
     rw [upd_ne _ _ _ _ hm] at this
     simpa [setE, hm, E0, BoxOk, B0] using this
 subst hE1
 obtain ⟨h1, h2⟩ := hok.joinB hnm hlb hcb hg hext
 refine hk v w'' _ G' ?_ h1 h2
 simp only [Rel, RelL, setE, if_true] at hx ⊢
 exact hx
theorem WK.retF {f g : FuncId} {fn : Func} {ms : List Nat} {kp : List (Nat × Obj)} {m : Nat} {b : Box} {k : List Item} (hfn : P.funcs[f]? = some fn)
   (h : (resL P st fn.results.toList).map packA = some (.fn g [.ptr m 0])) (hb : wkB (fun _ => m) (upd B0 0 b) st.bx 0 b) (hl : b.live = true) :
   WK P (CtxX f fn ms kp [] B0 E0 G w (.fn g [.ptr 0 0]) (upd B0 0 b)) (.code .ret :: k) st := by
 refine WK.retX (fun _ => m) hfn ?_ (BxW.upd BxW.nil hb) InjW.one (.inr ⟨k, rfl⟩) (fun n l h => by simp [E0] at h) trivial
 cases hx : resL P st fn.results.toList with
 | none => simp [hx] at h
 | some xs =>
   simp only [hx, Option.map_some, Option.some.injEq] at h
   simp only [wkT, h]
   refine .inr ⟨by simp [Cl, ClL], by have h9 : ((upd B0 0 b) 0).live = true := (by rw [upd_same]; exact hl); simp only [Nm, NmL, h9, Bool.and_self], ?_⟩
   intro E G v hv
   simpa [Ren, RenL] using hv
end
section
variable {P : Program} {ops : Array Oper} {cf : Oper → Cls} {l : List Oper} {i nx : Nat} {tm : Nat → AV} {bx : Nat → Box} {Q : (Nat → AV) → (Nat → Box) → Prop} {o : Oper}
theorem RunQ.callV (nm : Nat) {c : Call} {fo : Operand} {f g : FuncId} {caps args : List AV} {b : Box} (hop : o.op = .call c) (hc : c.callee = .value fo) (hcf : cf o = .w) (hw : wantedA ops tm o = some true)
   (hf : evA tm fo = .fn f caps) (ha : LeL (c.args.toList.map (evA tm) ++ caps) args) (h : FnV P f args g b) (hcl : ClL args = true) (hlb : b.live = true) (hcb : ClB b = true) (hnm : bx nm = .none)
   (t : RunQ P ops cf l (i + 1) (putA tm o.dst (.fn g [.ptr nm 0])) (upd bx nm b) nx Q) : RunQ P ops cf (o :: l) i tm bx nx Q :=
 RunQ.mem hw hcf (Mems.callV hop hc hf ha h hcl hlb hcb hnm) t
end
section
variable {P : Program} {ops : Array Oper} {l : List Oper} {i nx : Nat} {tm : Nat → AV} {bx : Nat → Box} {cl : List Cls} {Q : (Nat → AV) → (Nat → Box) → List Cls → Prop} {o : Oper}
theorem RunX.callV (nm : Nat) {c : Call} {fo : Operand} {f g : FuncId} {caps args : List AV} {b : Box} (hop : o.op = .call c) (hc : c.callee = .value fo) (hw : wantedA ops tm o = some true)
   (hf : evA tm fo = .fn f caps) (ha : LeL (c.args.toList.map (evA tm) ++ caps) args) (h : FnV P f args g b) (hcl : ClL args = true) (hlb : b.live = true) (hcb : ClB b = true) (hnm : bx nm = .none)
   (t : RunX P ops l (i + 1) (putA tm o.dst (.fn g [.ptr nm 0])) (upd bx nm b) nx (.wn nm :: cl) Q) : RunX P ops (o :: l) i tm bx nx cl Q :=
 RunX.one hw (fun b h1 => Mems.callV hop hc hf ha h hcl hlb hcb (h1.trans hnm)) t
end
section
variable {P : Program} {k : List Item}
theorem WK.rangeVX {f : FuncId} {fn : Func} {ms : List Nat} {kp0 : List (Nat × Obj)} {an : List (Nat × Loc)} {bxa bxb : Nat → Box} {E0 : Env} {G : Heap} {w : World} {r : AV} {fo : Operand} {ps : Array Tmp} {asg body : Code} {tm tm0 : Nat → AV} {bx0 : Nat → Box} {nx : Nat} {fid : FuncId} (n0 : Nat) (bs : Nat → Box)
   (xs : List (List AV)) (go : Nat → Bool) (jmp : Nat → Option Code) (S : Nat → Nat → Box) (N : List Nat)
   (hf : evA tm0 fo = .fn fid [.ptr n0 0]) (hb0 : bx0 n0 = bs 0) (hbl : ∀ i, (bs i).live = true) (hbc : ClB (bs 0) = true) (hbf : (bs 0).own? = true) (hS : S 0 n0 = .none) (hseq : FnSeqV P fid xs bs)
   (hwt : TmW (fun n => n) (S 0) tm tm0) (hwb : BxW (fun n => n) (S 0) (S 0) bx0)
   (hps : (ps.toList.all fun p => Nat.blt p fn.ntmps) = true) (hxs : ∀ x, x ∈ xs → x.length = ps.toList.length ∧ ClL x = true)
   (hN : ∀ i, allN (fun n => (S i n).live = true) N) (hNf : allN (fun n => (S 0 n).own? = true) N) (htm : TmN N tm)
   (rounds : ∀ i x, xs[i]? = some x → (∀ j, j < i → go j = true) → ∀ (l : Nat) (rc : Loop) (kp : List (Nat × Obj)) (E : Env) (own : Nat → Prop) (G : Heap) (w : World), RdOk l kp E N own →
     WK P (CtxR f fn l { rc with state := .ready, pending := none } (recAt rc go jmp (i + 1)) kp E N (S (i + 1)) own G w (go i)) [.code asg, .beginRound, .code body] ⟨setPs tm ps.toList x, S i, 0⟩)
   (after : ∀ q, WK P (CtxX f fn (q :: ms) ((q, .deferred (some [])) :: kp0) an bxa E0 G w r bxb) (((jumpAt go jmp (taken go xs.length)).map Item.code).toList ++ k) ⟨tm, S (taken go xs.length), 0⟩)
   (hAn : anOk (· ∈ N) an := by first | exact trivial | exact ⟨by simp, trivial⟩) :
   WK P (CtxX f fn ms kp0 an bxa E0 G w r bxb) (.code (.rangeFunc fo ps asg body) :: k) ⟨tm0, bx0, nx⟩ :=
 WK.rangeV (C := CtxX f fn ms kp0 an bxa E0 G w r bxb) n0 bs xs go jmp S N rfl hf hb0 hbl hbc (fun Y i h => by rw [h] at hbf; simp [Box.own?] at hbf) hS hseq hwt hwb
   (fun p hp => by have := List.all_eq_true.1 hps p hp; exact (by simpa using this : p < fn.ntmps)) (fun x hx => (hxs x hx).1) (fun x hx => (hxs x hx).2) (fun i => allN_mem (hN i))
   (fun n hn Y i h => by have := allN_mem hNf n hn; rw [h] at this; simp [Box.own?] at this) htm rounds after hAn
end
end Go.AI
end

section
namespace Go.AI
open Go
structure Kp (p : Prop) : Prop where
 h : p
section
variable {P : Program} {ops : Array Oper} {cf : Oper → Cls} {l : List Oper} {i nx : Nat} {tm : Nat → AV} {bx : Nat → Box} {Q : (Nat → AV) → (Nat → Box) → Prop} {o : Oper}
theorem RunQ.k {c : Call} {fo : Operand} {f : FuncId} {caps args : List AV} {r : AV} (hop : o.op = .call c) (hc : c.callee = .value fo) (hg : o.guard = none) (hcf : notWn (cf o) = true)
   (hf : evA tm fo = .fn f caps) (ha : LeL (c.args.toList.map (evA tm) ++ caps) args) (h : FnP P f args r) (hcl : ClL args = true)
   (t : Kp (RunH P ops cf nx Q l (i + 1) (putA tm o.dst r) bx)) : RunQ P ops cf (o :: l) i tm bx nx Q :=
 RunQ.call hop hc hg hcf hf ha h hcl (RunQ.evalH t.h)
theorem RunQW.k {c : Call} {fo : Operand} {f : FuncId} {caps args : List AV} {r : AV} (hop : o.op = .call c) (hc : c.callee = .value fo) (hcf : notWn (cf o) = true)
   (hf : evA tm fo = .fn f caps) (ha : LeL (c.args.toList.map (evA tm) ++ caps) args) (h : FnP P f args r) (hcl : ClL args = true)
   (t : Kp (RunH P ops cf nx Q l (i + 1) (putA tm o.dst r) bx)) : RunQW P ops cf (o :: l) i tm bx nx Q o :=
 RunQW.call hop hc hcf hf ha h hcl (RunQ.evalH t.h)
theorem RunQ.yieldH (n : Nat) {c : Call} {fo : Operand} {lp q : Nat} {Y : FSpec} {xs : List (List AV)} {x : List AV} {go : Nat → Bool} (hW : Works P lp Y xs go) (hop : o.op = .call c) (hc : c.callee = .value fo) (hcf : cf o = .w) (hw : wantedA ops tm o = some true)
   (hf : evA tm fo = .yv lp) (hb : bx n = .frn Y q) (hx : xs[q]? = some x) (hgo : ∀ j, j < q → go j = true) (hle : LeL (c.args.toList.map (evA tm)) x) (hcl : ClL x = true)
   (t : RunQ P ops cf l (i + 1) (putA tm o.dst (.bool (go q))) (upd bx n (.frn Y (q + 1))) nx Q) : RunQ P ops cf (o :: l) i tm bx nx Q :=
 RunQ.yield n hW hop hc hcf hw hf hb hx hgo hle hcl t
end
section
variable {P : Program} {ops : Array Oper} {l : List Oper} {i nx : Nat} {tm : Nat → AV} {bx : Nat → Box} {cl : List Cls} {Q : (Nat → AV) → (Nat → Box) → List Cls → Prop} {o : Oper}
theorem RunX.yieldH (n : Nat) {c : Call} {fo : Operand} {lp q : Nat} {Y : FSpec} {xs : List (List AV)} {x : List AV} {go : Nat → Bool} (hW : Works P lp Y xs go) (hop : o.op = .call c) (hc : c.callee = .value fo) (hw : wantedA ops tm o = some true)
   (hf : evA tm fo = .yv lp) (hb : bx n = .frn Y q) (hx : xs[q]? = some x) (hgo : ∀ j, j < q → go j = true) (hle : LeL (c.args.toList.map (evA tm)) x) (hcl : ClL x = true)
   (t : RunX P ops l (i + 1) (putA tm o.dst (.bool (go q))) (upd bx n (.frn Y (q + 1))) nx (.wn n :: cl) Q) : RunX P ops (o :: l) i tm bx nx cl Q :=
 RunX.one hw (fun b h1 => Mems.yield n hop hc hf hW (h1.trans hb) hx hgo hle hcl) t
end
section
variable {P : Program} {k : List Item}
theorem WK.rangeVM {f : FuncId} {fn : Func} {ms : List Nat} {kp0 : List (Nat × Obj)} {G : Heap} {w : World} {r : AV} {fo : Operand} {ps : Array Tmp} {asg body : Code} {tm tm0 : Nat → AV} {bx0 : Nat → Box} {nx : Nat} {fid : FuncId} (n0 : Nat) (bs : Nat → Box)
   (xs : List (List AV)) (go : Nat → Bool) (jmp : Nat → Option Code) (S : Nat → Nat → Box) (N : List Nat)
   (hf : evA tm0 fo = .fn fid [.ptr n0 0]) (hb0 : bx0 n0 = bs 0) (hbl : ∀ i, (bs i).live = true) (hbc : ClB (bs 0) = true) (hbf : (bs 0).own? = true) (hS : S 0 n0 = .none) (hseq : FnSeqV P fid xs bs)
   (hwt : TmW (fun n => n) (S 0) tm tm0) (hwb : BxW (fun n => n) (S 0) (S 0) bx0)
   (hps : (ps.toList.all fun p => Nat.blt p fn.ntmps) = true) (hxs : ∀ x, x ∈ xs → x.length = ps.toList.length ∧ ClL x = true)
   (hN : ∀ i, allN (fun n => (S i n).live = true) N) (hNf : allN (fun n => (S 0 n).own? = true) N) (htm : TmN N tm)
   (rounds : ∀ i x, xs[i]? = some x → (∀ j, j < i → go j = true) → ∀ (l : Nat) (rc : Loop) (kp : List (Nat × Obj)) (E : Env) (own : Nat → Prop) (G : Heap) (w : World), RdOk l kp E N own →
     WK P (CtxR f fn l { rc with state := .ready, pending := none } (recAt rc go jmp (i + 1)) kp E N (S (i + 1)) own G w (go i)) [.code asg, .beginRound, .code body] ⟨setPs tm ps.toList x, S i, 0⟩)
   (after : ∀ q, WK P (CtxM f fn (q :: ms) ((q, .deferred (some [])) :: kp0) G w r) (((jumpAt go jmp (taken go xs.length)).map Item.code).toList ++ k) ⟨tm, S (taken go xs.length), 0⟩) :
   WK P (CtxM f fn ms kp0 G w r) (.code (.rangeFunc fo ps asg body) :: k) ⟨tm0, bx0, nx⟩ :=
 WK.rangeV (C := CtxM f fn ms kp0 G w r) n0 bs xs go jmp S N rfl hf hb0 hbl hbc (fun Y i h => by rw [h] at hbf; simp [Box.own?] at hbf) hS hseq hwt hwb
   (fun p hp => by have := List.all_eq_true.1 hps p hp; exact (by simpa using this : p < fn.ntmps)) (fun x hx => (hxs x hx).1) (fun x hx => (hxs x hx).2) (fun i => allN_mem (hN i))
   (fun n hn Y i h => by have := allN_mem hNf n hn; rw [h] at this; simp [Box.own?] at this) htm rounds after trivial
end
end Go.AI
end

section
namespace Go.AI
open Go
section
variable {P : Program} {ops : Array Oper} {l : List Oper} {i nx : Nat} {tm : Nat → AV} {bx : Nat → Box} {cs : List Cls} {Q : (Nat → AV) → (Nat → Box) → List Cls → Prop} {o : Oper}
theorem RunX.k {c : Call} {fo : Operand} {f : FuncId} {caps args : List AV} {r : AV} (hop : o.op = .call c) (hc : c.callee = .value fo) (hg : o.guard = none)
   (hf : evA tm fo = .fn f caps) (ha : LeL (c.args.toList.map (evA tm) ++ caps) args) (h : FnP P f args r) (hcl : ClL args = true)
   (t : Kp (RunY P ops nx Q l (i + 1) (putA tm o.dst r) bx (.p :: cs))) : RunX P ops (o :: l) i tm bx nx cs Q :=
 RunX.call hop hc hg hf ha h hcl (RunX.e t.h)
end
end Go.AI
end

section
namespace Go.AI
open Go
section
variable {P : Program} {ops : Array Oper} {l : List Oper} {i nx : Nat} {tm : Nat → AV} {bx : Nat → Box} {cl : List Cls} {Q : (Nat → AV) → (Nat → Box) → List Cls → Prop} {o : Oper}
theorem RunX.slOwn {t e : TypeId} {xo : Operand} {lo hi : Option Operand} {n k a b s by_ : Nat} {cs : List AV} (hok : AppOk P t e s by_) (ho : o.op = .slice t xo lo hi none) (hw : wantedA ops tm o = some true)
   (hx : evA tm xo = .msl n 0 k) (hb : bx n = .buf s cs) (hbd : boundsA k k (lo.map (evA tm)) (hi.map (evA tm)) none = some (a, b, none)) (hlk : a < k ∨ a = 0)
   (h : RunX P ops l (i + 1) (putA tm o.dst (.msl n (a * s) (b - a))) bx nx (.rn n :: cl) Q) : RunX P ops (o :: l) i tm bx nx cl Q :=
 .consC (.rn n) (fun ho' => StepC.ofRn ho' hw fun b h1 => Mems.slOwn ho hok hx (h1.trans hb) hbd hlk) h
end
end Go.AI
end

section
namespace Go.AI
open Go
def BsOk (P : Program) (src dst : TypeId) : Prop := ∃ e, P.underlying src = some (.slice e) ∧ P.underlying e = some (.int .u8) ∧ P.underlying dst = some .string
section
variable {P : Program} {E E' : Env} {G G' : Heap} {w w' : World} {ρ : Operand → AV} {a : Act} {bx : Nat → Box}
theorem bytes_of_rel : ∀ {xs : List Int} {vs : List Value}, RelL E G (xs.map (AV.int .u8)) vs → vs = xs.map (Value.int .u8)
 | [], vs, h => by simpa [RelL] using h
 | x :: xs, vs, h => by
   simp only [List.map_cons, RelL] at h
   obtain ⟨v, vs', rfl, h1, h2⟩ := h
   simp only [Rel] at h1
   rw [h1, bytes_of_rel h2]; rfl
theorem Mems.bytesStr {o : Oper} {src dst : TypeId} {xo : Operand} {fl : Bool} {n : Nat} {cs : List AV} (xs : List Int) (hok : BsOk P src dst) (ho : o.op = .convert src dst xo) (hx : ρ xo = .sl fl n cs) (hcs : cs = xs.map (AV.int .u8)) (hn : xs.length = n) :
   Mems P ρ bx o (.str (strOfNums xs)) bx := by
 intro a w E G hρ hheap K Q hK
 obtain ⟨e, hs, he, hd⟩ := hok
 have hxv := hρ xo (by simp [ho, Op.operands])
 rw [hx, hcs] at hxv
 simp only [Rel] at hxv
 have hexec : ∀ v, (convert src dst (a.eval xo)).run P w = .ok v w → (execOp a.eval o).run P w = .ok (.value v) w := by
   intro v hr
   simp only [execOp, ho, Sem.run_bind, Sem.run_pure, Result.andThen_ok, hr]
 have hrun : (convert src dst (a.eval xo)).run P w = .ok (.string (strOfNums xs)) w := by
   rcases hxv with ⟨ad, cap, hv, h0, _, hc⟩ | ⟨blk, off, cap, vs, hv, _, _, _, hrel, hG, _⟩
   · have hx0 : xs = [] := by cases xs <;> simp at hc ⊢
     subst hx0
     subst h0
     rw [hv]
     cases ad with
     | none => exact run_convert_bytes_nil w src e hs he 0 cap dst hd
     | some ad =>
       rw [run_convert_bytes_string w src dst e _ 0 cap hs he hd]
       exact run_bytesToString w ad 0 cap [] (by simp [loadCells, loadCellsFrom])
   · rw [hv]
     have hvs := bytes_of_rel hrel
     subst hvs
     refine run_convert_bytes_arg w src e hs he blk off n cap xs hn (fun i hi => ?_) dst hd
     refine hheap.gw _ _ _ (hG i _ ?_)
     rw [List.getElem?_map, List.getElem?_eq_getElem (by omega), List.getD_eq_getElem?_getD, List.getElem?_eq_getElem (by omega)]
     rfl
 refine .inl ?_
 unfold Oper.wp
 rw [hexec _ hrun]
 exact hK _ w E G (by simp [Rel]) hheap (.refl _ _ _ _)
end
section
variable {P : Program} {ops : Array Oper} {cf : Oper → Cls} {l : List Oper} {i nx : Nat} {tm : Nat → AV} {bx : Nat → Box} {Q : (Nat → AV) → (Nat → Box) → Prop} {o : Oper}
theorem RunQ.bytesStr {src dst : TypeId} {xo : Operand} {fl : Bool} {n : Nat} {cs : List AV} (xs : List Int) (hok : BsOk P src dst) (ho : o.op = .convert src dst xo) (hw : wantedA ops tm o = some true) (hcf : notWn (cf o) = true) (hx : evA tm xo = .sl fl n cs) (hcs : cs = xs.map (AV.int .u8)) (hn : xs.length = n)
   (h : RunQ P ops cf l (i + 1) (putA tm o.dst (.str (strOfNums xs))) bx nx Q) : RunQ P ops cf (o :: l) i tm bx nx Q := RunQ.pure hw hcf (fun b => Mems.bytesStr xs hok ho hx hcs hn) h
end
theorem strOfNums_eq (xs ys : List Int) (hx : ∀ x, x ∈ xs → 0 ≤ x ∧ x < 256) (hy : ∀ x, x ∈ ys → 0 ≤ x ∧ x < 256) : ((strOfNums xs).toList == (strOfNums ys).toList) = (xs == ys) := by
 rw [ByteArray.toList_eq, ByteArray.toList_eq, strOfNums_data, strOfNums_data, Bool.eq_iff_iff, beq_iff_eq, beq_iff_eq]
 constructor
 · intro h
   induction xs generalizing ys with
   | nil => cases ys with
     | nil => rfl
     | cons y ys => simp at h
   | cons x xs ih =>
     cases ys with
     | nil => simp at h
     | cons y ys =>
       simp only [List.map_cons, List.cons.injEq] at h
       obtain ⟨h1, h2⟩ := h
       obtain ⟨a1, a2⟩ := hx x (by simp)
       obtain ⟨b1, b2⟩ := hy y (by simp)
       have h3 := congrArg UInt8.toNat h1
       simp only [UInt8.toNat_ofNat'] at h3
       have h4 : x = y := by omega
       rw [h4, ih ys (fun z hz => hx z (by simp [hz])) (fun z hz => hy z (by simp [hz])) h2]
 · intro h; rw [h]
end Go.AI
end
