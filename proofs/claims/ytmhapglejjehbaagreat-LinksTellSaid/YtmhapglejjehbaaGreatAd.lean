/- A part of our proof. -/
import Derived.Test.YtmhapglejjehbaaGreatAc
import Derived.Laws.AppendOwn
set_option linter.all false
set_option linter.unnecessarySimpa false
section
namespace Go.AI
section
variable {P : Program} {E E' : Env} {G G' : Heap} {w w' : World} {ρ : Operand → AV} {a : Act} {bx : Nat → Box}
theorem HeapOk.none (h : HeapOk bx E G w) {n : Nat} (hn : bx n = .none) : E n = Option.none := by
 have := h.box n; rw [hn] at this; simpa [BoxOk] using this
theorem setE_le {n : Nat} {l : Loc} (hn : E n = Option.none) : EnvLe E (setE E n l) := fun m k hm _ => by
 unfold setE; split
 · rename_i h0; subst h0; simp [hn] at hm
 · exact hm
theorem HeapOk.rename {n nm : Nat} {l : Loc} (h : HeapOk bx E G w) (hnm : bx nm = .none) (hl : (bx n).live = true) (hE : E n = some l) :
   HeapOk (upd (upd bx n .gone) nm (bx n)) (setE E nm l) G w ∧ Ext bx E G w (upd (upd bx n .gone) nm (bx n)) (setE E nm l) G w := by
 have hne : nm ≠ n := fun e => by subst e; simp [hnm, Box.live] at hl
 have he := setE_le (l := l) (h.none hnm)
 have hlv : ∀ m k, (upd (upd bx n .gone) nm (bx n) m).live = true → setE E nm l m = some k → ∃ m', (m' = if m = nm then n else m) ∧ (bx m').live = true ∧ E m' = some k := by
   intro m k h1 h2
   by_cases hm : m = nm
   · subst hm
     simp only [setE, if_true, Option.some.injEq] at h2; subst h2
     exact ⟨n, by simp, hl, hE⟩
   · rw [upd_ne _ _ _ _ hm] at h1
     simp only [setE, hm, if_false] at h2
     by_cases hm2 : m = n
     · subst hm2; simp [Box.live] at h1
     · rw [upd_ne _ _ _ _ hm2] at h1
       exact ⟨m, by simp [hm], h1, h2⟩
 have hlive : ∀ b, Live (upd (upd bx n .gone) nm (bx n)) (setE E nm l) b → Live bx E b := by
   rintro b ⟨m, k, h1, h2, h3⟩
   obtain ⟨m', _, g1, g2⟩ := hlv m k h1 h2
   exact ⟨m', k, g1, g2, h3⟩
 refine ⟨⟨h.gw, fun m => ?_, fun m m' k k' b h1 h2 h3 h4 h5 h6 => ?_, fun b hb => h.off b (hlive b hb)⟩, rfl, rfl, rfl, fun _ _ => rfl, Nat.le_refl _, he, .refl _, fun _ _ _ => ⟨rfl, rfl⟩, fun b hb => .inr (hlive b hb)⟩
 · by_cases hm : m = nm
   · subst hm
     simp only [upd_same, setE, if_true]
     have := h.box n
     rw [hE] at this
     exact this.mono he (.refl _) (Nat.le_refl _) fun _ _ _ _ _ => ⟨rfl, rfl⟩
   · rw [upd_ne _ _ _ _ hm]
     simp only [setE, hm, if_false]
     by_cases hm2 : m = n
     · subst hm2; simp [BoxOk]
     · rw [upd_ne _ _ _ _ hm2]
       exact (h.box m).mono he (.refl _) (Nat.le_refl _) fun _ _ _ _ _ => ⟨rfl, rfl⟩
 · obtain ⟨p, e1, g1, g2⟩ := hlv m k h1 h3
   obtain ⟨q, e2, g3, g4⟩ := hlv m' k' h2 h4
   have hpq := h.sep p q k k' b g1 g3 g2 g4 h5 h6
   by_cases hm : m = nm
   · by_cases hm' : m' = nm
     · rw [hm, hm']
     · exfalso
       simp only [hm, hm', if_true, if_false] at e1 e2
       rw [upd_ne _ _ _ _ hm'] at h2
       have : m' = n := by rw [← e2, ← hpq, e1]
       subst this
       simp [Box.live] at h2
   · by_cases hm' : m' = nm
     · exfalso
       simp only [hm, hm', if_true, if_false] at e1 e2
       rw [upd_ne _ _ _ _ hm] at h1
       have : m = n := by rw [← e1, hpq, e2]
       subst this
       simp [Box.live] at h1
     · simp only [hm, hm', if_false] at e1 e2
       rw [← e1, ← e2, hpq]
theorem HeapOk.set {n blk : Nat} {l : Loc} {arr : Array Value} {c' : Box} (h : HeapOk bx E G w) (hlive : (bx n).live = true) (hc' : c'.live = true)
   (hE : E n = some l) (hb : l.blk? = some blk) (hbox : BoxOk E G (w.setRow blk arr) c' (some l)) :
   HeapOk (upd bx n c') E G (w.setRow blk arr) ∧ Ext bx E G w (upd bx n c') E G (w.setRow blk arr) := by
 have hlive' : ∀ m, (upd bx n c' m).live = (bx m).live := fun m => by
   by_cases hm : m = n
   · subst hm; simp only [upd_same, hc', hlive]
   · rw [upd_ne _ _ _ _ hm]
 have hL : ∀ b, Live (upd bx n c') E b ↔ Live bx E b := fun b => by
   constructor <;> rintro ⟨m, k, h1, h2, h3⟩ <;> exact ⟨m, k, by simpa [hlive'] using h1, h2, h3⟩
 have hbh := Loc.has_of hb
 have hGb : ∀ o, G blk o = Option.none := (h.off blk ⟨n, l, hlive, hE, hbh⟩).2
 refine ⟨⟨fun b o v hg => ?_, fun m => ?_, fun m m' k k' b h1 h2 => h.sep m m' k k' b (by simpa [hlive'] using h1) (by simpa [hlive'] using h2), fun b hb' => ?_⟩, rfl, rfl, rfl, fun a _ => (frozen_setRow _ _ _) a, by simp, .refl _, .refl _, fun b hb' hn => ?_, fun b hb' => .inr ((hL b).1 hb')⟩
 · have hne : b ≠ blk := fun e => by subst e; simp [hGb] at hg
   rw [cell_of_heap (heap_setRow_other hne)]; exact h.gw b o v hg
 · by_cases hm : m = n
   · subst hm; simp only [upd_same]; rw [hE]; exact hbox
   · rw [upd_ne _ _ _ _ hm]
     refine (h.box m).mono (.refl _) (.refl _) (by simp) fun l' b hl' hb' hcl => ⟨heap_setRow_other fun e => ?_, rfl⟩
     subst e
     exact hm (h.sep m n l' l b hcl hlive hl' hE hb' hbh)
 · have := h.off b ((hL b).1 hb')
   exact ⟨by simpa using this.1, this.2⟩
 · refine ⟨heap_setRow_other fun e => hn ?_, rfl⟩
   subst e
   exact ⟨n, l, hlive, hE, hbh⟩
theorem upd_upd {α : Type} (f : Nat → α) (i : Nat) (u v : α) : upd (upd f i u) i v = upd f i v := by
 funext j; unfold upd; split <;> rfl
structure AppOk (P : Program) (t e : TypeId) (s by_ : Nat) : Prop where
 td : td P t = .slice e
 tde : AI.td P e ≠ .none
 sz : AI.sz P e = s
 byt : AI.byt P e = by_
 zr : (AI.zr P e).plain = true
 zl : (AI.zr P e).cells.length = s
 pos : 0 < s
 bpos : 0 < by_
theorem AppOk.facts {t e : TypeId} {s by_ : Nat} (h : AppOk P t e s by_) : ∃ (i : TypeInfo) (z : Value), P.underlying t = some (.slice e) ∧ P.info? e = some i ∧ i.zero = some z ∧ i.size = s ∧ i.bytes = by_ ∧ z.cells.size = s := by
 obtain ⟨h1, _, h2, h3, h4, h5, h6, h7⟩ := h
 have ht : AI.td P t ≠ .none := by rw [h1]; simp
 obtain ⟨_, d, _, hd, hdt⟩ := td_some ht
 rw [h1] at hdt
 have hd' : P.underlying t = some (.slice e) := by
   cases d <;> simp only [tdOf, reduceCtorEq, TD.slice.injEq] at hdt
   subst hdt; exact hd
 unfold AI.zr at h4 h5
 cases hi : P.info? e with
 | none => simp [hi, AV.plain] at h4
 | some i =>
   cases hz : i.zero with
   | none => simp [hi, hz, AV.plain] at h4
   | some z =>
     simp only [hi, hz, Option.bind_some] at h4 h5
     refine ⟨i, z, hd', rfl, hz, by simpa [AI.sz, hi] using h2, by simpa [AI.byt, hi] using h3, ?_⟩
     have := ((cv_rel (E := E0) (G := fun _ _ => Option.none) z).cells h4).1.length
     simpa [h5] using this
theorem append_none_x {t e : TypeId} (ht : P.underlying t = some (.slice e)) (hi : td P e ≠ .none) (base a : Option Addr) (k cap c : Nat) (hk : k ≤ cap) (ty : TypeId) :
   (Builtin.append_ #[t, t] ty #[.slice base k cap, .slice a 0 c]).run P w = .ok (.slice base k cap) w := by
 obtain ⟨i, d, h1, h2, h3⟩ := td_some hi
 cases base <;> cases a <;> simp [Builtin.append_, AI.run_underlying ht, run_sizeOf hi, Builtin.lenOf, hk, Builtin.firstCells, storeCells, loadCells, loadCellsFrom]
theorem Mems.append {o : Oper} {c : Call} {t e : TypeId} {xo yo : Operand} {n nm s by_ k m : Nat} {fl : Bool} {cs ds : List AV} (ho : o.op = .call c) (hc : c.callee = .builtin .append)
   (hat : c.argTypes = #[t, t]) (harg : c.args = #[xo, yo]) (hok : AppOk P t e s by_) (hx : ρ xo = .msl n 0 k) (hy : ρ yo = .sl fl m ds) (hb : bx n = .buf s cs) (hk : cs.length = k * s)
   (hm : m * s ≤ ds.length) (hbound : (k + m) * by_ ≤ 140737488355328) (hnm : bx nm = .none) :
   Mems P ρ bx o (.msl nm 0 (k + m)) (upd (upd bx n .gone) nm (.buf s (cs ++ ds.take (m * s)))) := by
 intro a w E G hρ hheap K Q hK
 obtain ⟨i, z, hu, hi, hz, hsz, hby, hzs⟩ := hok.facts
 have hpos := hok.pos
 have htde : td P e ≠ .none := hok.tde
 have hxv := hρ xo (by simp [ho, Op.operands, Call.operands, hc, harg])
 have hyv := hρ yo (by simp [ho, Op.operands, Call.operands, hc, harg])
 rw [hx] at hxv; rw [hy] at hyv
 have hby1 : 0 < by_ := hok.bpos
 have hkm : k + m ≤ 140737488355328 := Nat.le_trans (Nat.le_mul_of_pos_right _ hby1) hbound
 have hlive : (bx n).live = true := by rw [hb]; rfl
 have hne : nm ≠ n := fun e => by subst e; rw [hnm] at hb; cases hb
 have hexec : ∀ r : Result Value, (Builtin.append_ #[t, t] o.type #[a.eval xo, a.eval yo]).run P w = r →
     (execOp a.eval o).run P w = r.andThen fun v w' => .ok (.value v) w' := by
   intro r hr
   simp only [execOp, ho, resolve, hc, harg, hat, Sem.run_bind, Sem.run_pure, Result.andThen_ok, invoke, builtin, List.map_toArray, List.map_cons, List.map_nil, hr]
 -- the location of the box
 have hbox := hheap.box n
 rw [hb] at hbox
 cases hE : E n with
 | none => rw [hE] at hbox; simp [BoxOk] at hbox
 | some l =>
   rw [hE] at hbox
   obtain ⟨hren, hrenx⟩ := hheap.rename hnm hlive hE
   rw [hb] at hren hrenx
   simp only [Rel] at hxv hyv
   -- what is appended
   have hnews : ((∃ ad c0, a.eval yo = .slice ad 0 c0) ∧ m = 0 ∧ ds = []) ∨ ∃ blk off cap, ∃ vs : List Value, a.eval yo = .slice (some ⟨blk, off, Option.none⟩) m cap ∧ vs.length = m * s ∧ RelL E G (ds.take (m * s)) vs ∧ Ones vs ∧
       (∀ j v, vs[j]? = some v → w.cell? ((⟨blk, off, Option.none⟩ : Addr).add j) = some v) := by
     rcases hyv with ⟨ad, cap, hv, h0, h1, h2⟩ | ⟨blk, off, cap, vs, hv, h1, h2, h3, h4, h5, h6⟩
     · subst h0; exact .inl ⟨⟨ad, cap, hv⟩, rfl, h2⟩
     · refine .inr ⟨blk, off, cap, vs.take (m * s), hv, ?_, h4.take _, h6.take _, fun j v hj => ?_⟩
       · have := h4.length; simp; omega
       · rw [addr_add]; exact hheap.gw _ _ _ (h5.take _ j v hj)
   -- a new row
   have grow : ∀ (olds news : List Value) (cap : Nat), RelL E G cs olds → Ones olds → RelL E G (ds.take (m * s)) news → Ones news → news.length = m * s → cap < k + m →
       (Builtin.append_ #[t, t] o.type #[a.eval xo, a.eval yo]).run P w = .ok (.slice (some ⟨w.heap.size, 0, Option.none⟩) (k + m) (grownCap w (k + m) cap e))
         (w.drew.alloc (.cells (olds.toArray ++ news.toArray ++ Builtin.zeroCells z.cells (grownCap w (k + m) cap e - (k + m))) e)) → OpW P o a w K Q := by
     intro olds news cap ho1 ho2 hn1 hn2 hnl hcap hrun
     obtain ⟨G1, hG1, hok1, hext1, _, _⟩ := frz hheap (n := n) (cs := cs) (by rw [hb]; rfl)
     have hnm1 : upd bx n .gone nm = .none := by rw [upd_ne _ _ _ _ hne]; exact hnm
     have hge := grownCap_ge w (k + m) cap e
     have hle := grownCap_le_maxLen w (k + m) cap e (by simp only [maxLen]; omega)
     have hEnm : E nm = Option.none := hheap.none hnm
     have hE1 : EnvLe E (setE E nm (.buf w.heap.size s (grownCap w (k + m) cap e))) := setE_le hEnm
     have hbufok : BoxOk (setE E nm (.buf w.heap.size s (grownCap w (k + m) cap e))) G1
         (w.drew.alloc (.cells (olds.toArray ++ news.toArray ++ Builtin.zeroCells z.cells (grownCap w (k + m) cap e - (k + m))) e))
         (.buf s (cs ++ ds.take (m * s))) (some (.buf w.heap.size s (grownCap w (k + m) cap e))) := by
       simp only [BoxOk]
       refine ⟨trivial, olds ++ news, (Builtin.zeroCells z.cells (grownCap w (k + m) cap e - (k + m))).toList, e, ?_, (ho1.mono hE1 hG1).append (hn1.mono hE1 hG1), ho2.append hn2, ?_⟩
       · have h0 := heap_alloc_new w.drew (.cells (olds.toArray ++ news.toArray ++ Builtin.zeroCells z.cells (grownCap w (k + m) cap e - (k + m))) e)
         have h1 : (olds ++ news ++ (Builtin.zeroCells z.cells (grownCap w (k + m) cap e - (k + m))).toList).toArray = olds.toArray ++ news.toArray ++ Builtin.zeroCells z.cells (grownCap w (k + m) cap e - (k + m)) := by
           apply Array.ext'; simp
         rw [h1]
         exact h0
       · have h1 := ho1.length
         have h2 := size_zeroCells z.cells (grownCap w (k + m) cap e - (k + m))
         simp only [List.length_append, Array.length_toList, h1, hk, hnl, h2, hzs]
         rw [← Nat.add_mul, ← Nat.add_mul]
         congr 1; omega
     obtain ⟨hok2, hext2⟩ := hok1.push (n := nm) (l := .buf w.heap.size s (grownCap w (k + m) cap e)) (bn := .buf s (cs ++ ds.take (m * s)))
       (w' := w.drew.alloc (.cells (olds.toArray ++ news.toArray ++ Builtin.zeroCells z.cells (grownCap w (k + m) cap e - (k + m))) e)) hnm1 rfl ⟨_, _, rfl⟩ rfl rfl rfl rfl hbufok
     refine .inl ?_
     unfold Oper.wp
     rw [hexec _ hrun]
     simp only [Result.andThen_ok]
     refine hK _ _ _ _ ?_ hok2 (hext1.trans hext2)
     simp only [Rel]
     exact .inl ⟨w.heap.size, _, rfl, hge, by omega, .inl ⟨s, grownCap w (k + m) cap e, by simp [setE], by simp⟩⟩
   -- in place
   rcases hxv with ⟨blk, cap, hxe, hkc, hk63, hloc⟩ | ⟨hnil, _, hk0, a0, hxe⟩
   · have hlb : ∃ tot, l = .buf blk s tot ∧ cap * s = tot * s := by
       rcases hloc with ⟨s', tot, h1, h2⟩ | h1
       · rw [hE] at h1; simp only [Option.some.injEq] at h1; subst h1
         simp only [BoxOk] at hbox
         obtain ⟨h0, _⟩ := hbox
         subst h0
         exact ⟨tot, rfl, by simpa using h2⟩
       · rw [hE] at h1; simp only [Option.some.injEq] at h1; subst h1
         simp [BoxOk] at hbox
     obtain ⟨tot, rfl, hct⟩ := hlb
     have hcap : cap = tot := Nat.eq_of_mul_eq_mul_right hpos hct
     subst hcap
     simp only [BoxOk] at hbox
     obtain ⟨_, vs, rest, T, hh, hrel, hones, hlen⟩ := hbox
     have hvl := hrel.length
     rcases hnews with ⟨⟨ay, cy, hye⟩, hm0, hds⟩ | ⟨b2, o2, c2, news, hye, hnl, hnr, hno, hnc⟩
     · subst hm0 hds
       have hrun := append_none_x (P := P) (w := w) hu htde (some ⟨blk, 0, Option.none⟩) ay k cap cy hkc o.type
       rw [← hxe, ← hye] at hrun
       refine .inl ?_
       unfold Oper.wp
       rw [hexec _ hrun]
       simp only [Result.andThen_ok]
       refine hK _ w _ G ?_ (by simpa using hren) (by simpa using hrenx)
       simp only [Rel, Nat.add_zero]
       exact .inl ⟨blk, cap, hxe, hkc, hk63, .inl ⟨s, cap, by simp [setE], by simp⟩⟩
     · by_cases hroom : k + m ≤ cap
       · have hTe : (vs ++ rest).toArray.size = cap * s := by simpa using hlen
         have hmul : (k + m) * s ≤ cap * s := Nat.mul_le_mul_right _ hroom
         rw [Nat.add_mul] at hmul
         have hfc := run_firstCells_some (P := P) w s m ⟨b2, o2, Option.none⟩ m c2 news hnl hnc
         have hst := run_storeCells_at P blk (k * s) T news 0 (vs ++ rest).toArray w hh (by simp at hTe ⊢; omega) hno
         simp only [Nat.add_zero] at hst
         have hrun : (Builtin.append_ #[t, t] o.type #[a.eval xo, a.eval yo]).run P w = .ok (.slice (some ⟨blk, 0, Option.none⟩) (k + m) cap)
             (w.setRow blk ((vs ++ rest).take (k * s) ++ news ++ (vs ++ rest).drop (k * s + news.length)).toArray) := by
           rw [hxe, hye]
           simp [Builtin.append_, AI.run_underlying hu, AI.run_sizeOf htde, Builtin.lenOf, hroom, hok.sz, hfc, addr_add, hst]
         have hsplit : (vs ++ rest).take (k * s) ++ news ++ (vs ++ rest).drop (k * s + news.length) = (vs ++ news) ++ rest.drop news.length := by
           rw [List.take_append_of_le_length (by omega), List.take_of_length_le (by omega), List.drop_append, List.drop_of_length_le (by omega)]
           simp
           congr 1
           omega
         rw [hsplit] at hrun
         have hEnm : E nm = Option.none := hheap.none hnm
         have hE1 := setE_le (l := .buf blk s cap) hEnm
         obtain ⟨hok2, hext2⟩ := hren.set (n := nm) (blk := blk) (l := .buf blk s cap) (arr := ((vs ++ news) ++ rest.drop news.length).toArray) (c' := .buf s (cs ++ ds.take (m * s)))
           (by simp [Box.live]) rfl (by simp [setE]) rfl (by
             simp only [BoxOk]
             refine ⟨trivial, vs ++ news, rest.drop news.length, T, setRow_heap w blk _ _ T (0, 0) hh, (RelL.mono hE1 (.refl _) _ _ hrel).append (RelL.mono hE1 (.refl _) _ _ hnr), hones.append hno, ?_⟩
             simp at hlen ⊢; omega)
         rw [upd_upd] at hok2 hext2
         refine .inl ?_
         unfold Oper.wp
         rw [hexec _ hrun]
         simp only [Result.andThen_ok]
         refine hK _ _ _ G ?_ hok2 (hrenx.trans hext2)
         simp only [Rel]
         exact .inl ⟨blk, cap, rfl, hroom, by omega, .inl ⟨s, cap, by simp [setE], by simp⟩⟩
       · refine grow vs news cap hrel hones hnr hno hnl (by omega) ?_
         rw [hxe, hye]
         exact run_append_grow (P := P) w t o.type e i z hu hi hz ⟨blk, 0, Option.none⟩ k cap vs (by rw [hvl, hk, hsz]) (fun j v hj => by rw [addr_add]; simpa using cells_of_heap hh j v hj)
           ⟨b2, o2, Option.none⟩ m c2 news (by rw [hnl, hsz]) hnc (by omega) (by omega) (growslice_fits (by omega) (by rw [hby]; exact hbound))
   · rw [hE] at hnil; simp only [Option.some.injEq] at hnil; subst hnil
     subst hk0
     simp only [BoxOk] at hbox
     subst hbox
     rcases hnews with ⟨⟨ay, cy, hye⟩, hm0, hds⟩ | ⟨b2, o2, c2, news, hye, hnl, hnr, hno, hnc⟩
     · subst hm0 hds
       have hrun := append_none_x (P := P) (w := w) hu htde a0 ay 0 0 cy (Nat.le_refl 0) o.type
       rw [← hxe, ← hye] at hrun
       refine .inl ?_
       unfold Oper.wp
       rw [hexec _ hrun]
       simp only [Result.andThen_ok]
       refine hK _ w _ G ?_ (by simpa using hren) (by simpa using hrenx)
       simp only [Rel, Nat.add_zero]
       exact .inr ⟨by simp [setE], trivial, trivial, a0, hxe⟩
     · by_cases hm0 : m = 0
       · subst hm0
         have hn0 : news = [] := List.eq_nil_of_length_eq_zero (by simpa using hnl)
         subst hn0
         have hfc := run_firstCells_some (P := P) w s 0 ⟨b2, o2, Option.none⟩ 0 c2 [] (by simp) hnc
         have hrun : (Builtin.append_ #[t, t] o.type #[a.eval xo, a.eval yo]).run P w = .ok (.slice a0 0 0) w := by
           rw [hxe, hye]
           cases a0 <;> simp [Builtin.append_, AI.run_underlying hu, AI.run_sizeOf htde, Builtin.lenOf, hok.sz, hfc, storeCells]
         refine .inl ?_
         unfold Oper.wp
         rw [hexec _ hrun]
         simp only [Result.andThen_ok]
         refine hK _ w _ G ?_ (by simpa using hren) (by simpa using hrenx)
         simp only [Rel, Nat.add_zero]
         exact .inr ⟨by simp [setE], trivial, trivial, a0, rfl⟩
       · refine grow [] news 0 RelL.nil (fun v hv => by simp at hv) hnr hno hnl (by omega) ?_
         rw [hxe, hye]
         cases a0 with
         | none =>
           have := run_append_nil (P := P) w t o.type e i z hu hi hz ⟨b2, o2, Option.none⟩ m c2 news (by rw [hnl, hsz]) hnc (by omega) (by omega) (by rw [hby]; simp at hbound; omega)
           simpa using this
         | some p =>
           have := run_append_grow (P := P) w t o.type e i z hu hi hz p 0 0 [] (by simp) (fun j v hj => by simp at hj)
             ⟨b2, o2, Option.none⟩ m c2 news (by rw [hnl, hsz]) hnc (by omega) (by omega) (growslice_fits (by omega) (by rw [hby]; simpa using hbound))
           simpa using this
variable {ops : Array Oper} {cf : Oper → Cls} {l : List Oper} {i nx : Nat} {tm : Nat → AV} {Q : (Nat → AV) → (Nat → Box) → Prop} {o : Oper}
theorem RunQ.append {c : Call} {t e : TypeId} {xo yo : Operand} {n s by_ k m : Nat} {fl : Bool} {cs ds : List AV} (nm : Nat) (hok : AppOk P t e s by_) (ho : o.op = .call c) (hc : c.callee = .builtin .append)
   (hat : c.argTypes = #[t, t]) (harg : c.args = #[xo, yo]) (hx : evA tm xo = .msl n 0 k) (hy : evA tm yo = .sl fl m ds) (hb : bx n = .buf s cs) (hw : wantedA ops tm o = some true) (hcf : cf o = .w) (hk : cs.length = k * s)
   (hm : m * s ≤ ds.length) (hbound : (k + m) * by_ ≤ 140737488355328) (hnm : bx nm = .none)
   (h : RunQ P ops cf l (i + 1) (putA tm o.dst (.msl nm 0 (k + m))) (upd (upd bx n .gone) nm (.buf s (cs ++ ds.take (m * s)))) nx Q) : RunQ P ops cf (o :: l) i tm bx nx Q :=
 RunQ.mem hw hcf (Mems.append ho hc hat harg hok hx hy hb hk hm hbound hnm) h
theorem Mems.frz {o : Oper} {ρ' : Operand → AV} {n : Nat} {cs : List AV} {x : AV} {bx' : Nat → Box} (hc : (bx n).cells? = some cs)
   (hρ : ∀ y, ρ' y = ρ y ∨ (∃ off, ρ y = .ptr n off ∧ ρ' y = .iptr (cs.drop off)) ∨ ∃ k s, ρ y = .msl n 0 k ∧ ρ' y = .sl false k (cs.take (k * s)))
   (h : Mems P ρ' (upd bx n .gone) o x bx') : Mems P ρ bx o x bx' := by
 intro a w E G hr hok K Q hK
 obtain ⟨G', h1, h2, h3, h4, h5⟩ := AI.frz hok hc
 refine h a w E G' (fun y hy => ?_) h2 K Q fun v w' E' G'' hx hok' hext => hK v w' E' G'' hx hok' (h3.trans hext)
 have := hr y hy
 rcases hρ y with h | ⟨off, h, h'⟩ | ⟨k, s, h, h'⟩
 · rw [h]; exact this.mono (.refl _) h1
 · rw [h] at this; rw [h']; exact h4 off _ this
 · rw [h] at this; rw [h']
   have := h5 0 k s _ this (.inr rfl)
   simpa using this
end
end Go.AI
end

section
namespace Go.AI
def Rx (bx0 : Nat → Box) (E : Env) (G : Heap) (w : World) (r : AV) (bx1 : Nat → Box) : Ending → World → Prop := fun e w' => ∃ v G' E', e = .returned v ∧ Rel E' G' r v ∧
 HeapOk bx1 E' G' w' ∧ Ext bx0 E G w bx1 E' G' w'
def FnO (P : Program) (f : FuncId) (args : List AV) (n s : Nat) (cs : List AV) : Prop :=
 Callable P f ∧ ∀ (w : World) (G : Heap) (vs : List Value), GW G w → RelL E0 G args vs → Calls P f vs.toArray w (Rx B0 E0 G w (.msl 0 0 n) (upd B0 0 (.buf s cs)))
def FnB (P : Program) (f : FuncId) (args : List AV) (b : Box) (r : AV) (b' : Box) : Prop :=
 Callable P f ∧ ∀ (w : World) (G : Heap) (l : Loc) (vs : List Value), HeapOk (upd B0 0 b) (setE E0 0 l) G w → RelL (setE E0 0 l) G args vs → Calls P f vs.toArray w (Rx (upd B0 0 b) (setE E0 0 l) G w r (upd B0 0 b'))
def CtxX (f : FuncId) (fn : Func) (ms : List Nat) (kp : List (Nat × Obj)) (an : List (Nat × Loc)) (bx0 : Nat → Box) (E : Env) (G : Heap) (w : World) (r : AV) (bx1 : Nat → Box) : Ctx :=
 ⟨f, fn, none, ms, kp, an, Live bx0 E, G, w, Rx bx0 E G w r bx1⟩
abbrev CtxO (f : FuncId) (fn : Func) (G : Heap) (w : World) (n s : Nat) (cs : List AV) : Ctx := CtxX f fn [] [] [] B0 E0 G w (.msl 0 0 n) (upd B0 0 (.buf s cs))
abbrev CtxB (f : FuncId) (fn : Func) (l : Loc) (b : Box) (G : Heap) (w : World) (r : AV) (b' : Box) : Ctx := CtxX f fn [] [] [(0, l)] (upd B0 0 b) (setE E0 0 l) G w r (upd B0 0 b')
section
variable {P : Program} {E E' : Env} {G G' : Heap} {w w' : World} {ρ : Operand → AV} {a : Act} {bx : Nat → Box} {C : Ctx} {st st' : St}
theorem HeapOk.join {nm s : Nat} {l : Loc} {cs : List AV} (h : HeapOk bx E G w) (hnm : bx nm = .none) (hcl : ClL cs = true)
   (h' : HeapOk (upd B0 0 (.buf s cs)) (setE E0 0 l) G' w') (hx : Ext B0 E0 G w (upd B0 0 (.buf s cs)) (setE E0 0 l) G' w') :
   HeapOk (upd bx nm (.buf s cs)) (setE E nm l) G' w' ∧ Ext bx E G w (upd bx nm (.buf s cs)) (setE E nm l) G' w' := by
 have hfr : ∀ b, b < w.heap.size → w'.heap[b]? = w.heap[b]? ∧ G' b = G b := fun b hb => hx.frame b hb (Live_B0 _ _)
 have he := setE_le (l := l) (h.none hnm)
 have hnew : ∀ b, l.has b → w.heap.size ≤ b ∧ b < w'.heap.size ∧ ∀ o, G' b o = Option.none := fun b hb => by
   have hL : Live (upd B0 0 (.buf s cs)) (setE E0 0 l) b := ⟨0, l, by simp [Box.live], by simp [setE], hb⟩
   rcases hx.newb b hL with h1 | h1
   · exact ⟨h1, h'.off b hL⟩
   · exact absurd h1 (Live_B0 _ _)
 have hlv : ∀ b, Live (upd bx nm (.buf s cs)) (setE E nm l) b → l.has b ∨ Live bx E b := by
   rintro b ⟨m, k, h1, h2, h3⟩
   by_cases hm : m = nm
   · subst hm; simp only [setE, if_true, Option.some.injEq] at h2; subst h2; exact .inl h3
   · rw [upd_ne _ _ _ _ hm] at h1; simp only [setE, hm, if_false] at h2; exact .inr ⟨m, k, h1, h2, h3⟩
 refine ⟨⟨h'.gw, fun m => ?_, fun m m' k k' b h1 h2 h3 h4 h5 h6 => ?_, fun b hb => ?_⟩, hx.os, hx.tape, hx.output, hx.fz, hx.size, he, hx.heap, fun b hb _ => hfr b hb, fun b hb => ?_⟩
 · by_cases hm : m = nm
   · subst hm
     simp only [upd_same, setE, if_true]
     have := h'.box 0
     simp only [upd_same, setE, if_true] at this
     cases l <;> simp only [BoxOk] at this ⊢
     · obtain ⟨g0, vs, rest, T, g1, g2, g3⟩ := this
       exact ⟨g0, vs, rest, T, g1, g2.closed _ _ hcl, g3⟩
     · exact this
   · rw [upd_ne _ _ _ _ hm]; simp only [setE, hm, if_false]
     exact (h.box m).mono he hx.heap hx.size fun l' b hl' hb hc => hfr b (h.off b ⟨m, l', hc, hl', hb⟩).1
 · by_cases hm : m = nm
   · by_cases hm' : m' = nm
     · rw [hm, hm']
     · subst hm
       simp only [setE, if_true, Option.some.injEq] at h3; subst h3
       simp only [setE, hm', if_false] at h4
       rw [upd_ne _ _ _ _ hm'] at h2
       have := (h.off b ⟨m', k', h2, h4, h6⟩).1
       have := (hnew b h5).1
       omega
   · by_cases hm' : m' = nm
     · subst hm'
       simp only [setE, if_true, Option.some.injEq] at h4; subst h4
       simp only [setE, hm, if_false] at h3
       rw [upd_ne _ _ _ _ hm] at h1
       have := (h.off b ⟨m, k, h1, h3, h5⟩).1
       have := (hnew b h6).1
       omega
     · simp only [setE, hm, hm', if_false] at h3 h4
       rw [upd_ne _ _ _ _ hm] at h1
       rw [upd_ne _ _ _ _ hm'] at h2
       exact h.sep m m' k k' b h1 h2 h3 h4 h5 h6
 · rcases hlv b hb with hb | hb
   · exact (hnew b hb).2
   · obtain ⟨h1, h2⟩ := h.off b hb
     exact ⟨Nat.lt_of_lt_of_le h1 hx.size, by rw [(hfr b h1).2]; exact h2⟩
 · rcases hlv b hb with hb | hb
   · exact .inl (hnew b hb).1
   · exact .inr hb
theorem relL_ops {xs : List Operand} {ev : Operand → Value} (h : ∀ y ∈ xs, Rel E G (ρ y) (ev y)) : RelL E G (xs.map ρ) (xs.map ev) := by
 induction xs with
 | nil => exact RelL.nil
 | cons x xs ih => exact RelL.cons (h x (by simp)) (ih fun y hy => h y (by simp [hy]))
theorem run_callFn {o : Oper} {c : Call} {fo : Operand} {f : FuncId} {caps : List AV} (ho : o.op = .call c) (hc : c.callee = .value fo) (hf : ρ fo = .fn f caps) (hcl : Callable P f)
   (hρ : ∀ y ∈ o.op.operands, Rel E G (ρ y) (a.eval y)) : ∃ vs : List Value, (execOp a.eval o).run P w = .ok (.enter f vs.toArray) w ∧ RelL E G (c.args.toList.map ρ ++ caps) vs := by
 have hfo := hρ fo (by simp [ho, Op.operands, Call.operands, hc])
 rw [hf] at hfo
 simp only [Rel] at hfo
 obtain ⟨us, hv, hus⟩ := hfo
 have hargs : RelL E G (c.args.toList.map ρ) (c.args.toList.map a.eval) := relL_ops fun y hy => hρ y (by simp [ho, Op.operands, Call.operands]; exact .inr (by simpa using hy))
 refine ⟨c.args.toList.map a.eval ++ us, ?_, hargs.append hus⟩
 have e1 : (c.args.map a.eval) ++ us.toArray = (c.args.toList.map a.eval ++ us).toArray := by apply Array.ext'; simp
 simp only [execOp, ho, resolve, hc, hv, Deferred.ofValue, Sem.run_bind, Sem.run_pure, Result.andThen_ok, invoke, Array.empty_append, e1]
 exact callFunc_run hcl _
theorem HeapOk.loc {n : Nat} (h : HeapOk bx E G w) (hl : (bx n).live = true) : ∃ l, E n = some l := by
 have := h.box n
 cases hE : E n with
 | some l => exact ⟨l, rfl⟩
 | none => rw [hE] at this; cases hb : bx n <;> simp [hb, Box.live] at hl <;> simp [hb, BoxOk] at this
theorem B0_one {b : Box} {m : Nat} (h : (upd B0 0 b m).live = true) : m = 0 := by
 by_cases h0 : m = 0
 · exact h0
 · rw [upd_ne _ _ _ _ h0] at h; simp [B0, Box.live] at h
theorem Live_one {b : Box} {l : Loc} {c : Nat} (h : Live (upd B0 0 b) (setE E0 0 l) c) : l.has c := by
 obtain ⟨m, k, h1, h2, h3⟩ := h
 have := B0_one h1; subst this
 simp only [setE, if_true, Option.some.injEq] at h2; subst h2; exact h3
theorem Mems.callO {o : Oper} {c : Call} {fo : Operand} {f : FuncId} {caps args : List AV} {n s nm : Nat} {cs : List AV} (ho : o.op = .call c) (hc : c.callee = .value fo)
   (hf : ρ fo = .fn f caps) (hle : LeL (c.args.toList.map ρ ++ caps) args) (h : FnO P f args n s cs) (hcl : ClL args = true) (hcs : ClL cs = true) (hnm : bx nm = .none) :
   Mems P ρ bx o (.msl nm 0 n) (upd bx nm (.buf s cs)) := by
 intro a w E G hρ hok K Q hk
 obtain ⟨vs, hrun, hvs⟩ := run_callFn (w := w) ho hc hf h.1 hρ
 have hcalls := h.2 w G vs hok.gw (RelL.closed _ _ hcl (hle _ _ _ hvs) (E' := E0))
 refine .inl ?_
 unfold Oper.wp
 rw [hrun, Oper.upon_enter]
 refine Calls.mono hcalls fun e w'' he => ?_
 obtain ⟨v, G', E1, rfl, hx, hg, hext⟩ := he
 obtain ⟨l, hl⟩ := hg.loc (n := 0) (by simp [Box.live])
 have hE1 : E1 = setE E0 0 l := by
   funext m
   by_cases hm : m = 0
   · subst hm; simp [setE, hl]
   · have := hg.box m
     rw [upd_ne _ _ _ _ hm] at this
     simpa [setE, hm, E0, BoxOk, B0] using this
 subst hE1
 obtain ⟨h1, h2⟩ := hok.join hnm hcs hg hext
 refine hk v w'' _ G' ?_ h1 h2
 simp only [Rel, setE, if_true] at hx ⊢
 exact hx
def ClB : Box → Bool | .var cs | .buf _ cs => ClL cs | _ => true
theorem BoxOk.closed {b : Box} {l : Option Loc} (h : BoxOk E G w b l) (hb : ClB b = true) : BoxOk E' G w b l := by
 cases b <;> cases l <;> simp only [BoxOk] at h ⊢ <;> simp only [ClB] at hb
 · exact h
 · rename_i cs l
   cases l <;> simp only [BoxOk] at h ⊢
   obtain ⟨vs, T, h1, h2, h3⟩ := h
   exact ⟨vs, T, h1, h2.closed _ _ hb, h3⟩
 · rename_i s cs l
   cases l <;> simp only [BoxOk] at h ⊢
   · obtain ⟨g0, vs, rest, T, g1, g2, g3⟩ := h
     exact ⟨g0, vs, rest, T, g1, g2.closed _ _ hb, g3⟩
   · exact h
 · rename_i l
   cases l <;> simp only [BoxOk] at h ⊢
   exact h
 · rename_i l
   cases l <;> simp only [BoxOk] at h ⊢
   exact h
theorem HeapOk.give {n : Nat} {l : Loc} {b : Box} (h : HeapOk bx E G w) (hE : E n = some l) (hw : wkB (fun _ => n) (upd B0 0 b) bx 0 b) (hb : b.live = true) :
   HeapOk (upd B0 0 b) (setE E0 0 l) G w ∧ ∀ x y : AV, wkA (fun _ => n) (upd B0 0 b) x y → ∀ v, Rel E G y v → Rel (setE E0 0 l) G x v := by
 have hEE : ∀ m, (upd B0 0 b m).live = true → setE E0 0 l m = E ((fun _ => n) m) := fun m hm => by
   have := B0_one hm; subst this; simp [setE, hE]
 have hln : (bx n).live = true := wkB_live hw hb
 refine ⟨⟨h.gw, fun m => ?_, fun m m' k k' c h1 h2 _ _ _ _ => (B0_one h1).trans (B0_one h2).symm, fun c hc => h.off c ⟨n, l, hln, hE, Live_one hc⟩⟩, fun x y hxy v hv => wkA_rel hEE hxy hv⟩
 by_cases hm : m = 0
 · subst hm
   have h2 := h.box n
   rw [hE] at h2
   simp only [upd_same, setE, if_true]
   cases b <;> simp only [Box.live, Bool.false_eq_true] at hb <;> simp only [wkB] at hw <;> split at hw <;> try exact hw.elim
   · rename_i c0 hc0
     rw [hc0] at h2
     cases l <;> simp only [BoxOk] at h2 ⊢
     obtain ⟨vs, T, g1, g2, g3⟩ := h2
     exact ⟨vs, T, g1, wkL_rel hEE hw g2, g3⟩
   · rename_i s0 c0 hc0
     obtain ⟨rfl, hw⟩ := hw
     rw [hc0] at h2
     cases l <;> simp only [BoxOk] at h2 ⊢
     · obtain ⟨g0, vs, rest, T, g1, g2, g3⟩ := h2
       exact ⟨g0, vs, rest, T, g1, wkL_rel hEE hw g2, g3⟩
     · subst h2
       have := (wkL_rel (G := G) hEE hw RelL.nil).length
       exact List.eq_nil_of_length_eq_zero this.symm
   · rename_i Y0 i0 hc0
     obtain ⟨rfl, rfl⟩ := hw
     rw [hc0] at h2
     cases l <;> simp only [BoxOk] at h2 ⊢
     exact h2
   · rename_i o0 hc0
     subst hw
     rw [hc0] at h2
     cases l <;> simp only [BoxOk] at h2 ⊢
     exact h2
 · rw [upd_ne _ _ _ _ hm]; simp [setE, hm, E0, BoxOk, B0]
theorem HeapOk.back {n : Nat} {l : Loc} {b b' : Box} {E1 : Env} (h : HeapOk bx E G w) (hE : E n = some l) (hln : (bx n).live = true) (hb' : b'.live = true) (hcb : ClB b' = true)
   (h1 : HeapOk (upd B0 0 b') E1 G' w') (hx : Ext (upd B0 0 b) (setE E0 0 l) G w (upd B0 0 b') E1 G' w') :
   ∃ l', E1 = setE E0 0 l' ∧ HeapOk (upd bx n b') (setE E n l') G' w' ∧ Ext bx E G w (upd bx n b') (setE E n l') G' w' := by
 obtain ⟨l', hl'⟩ := h1.loc (n := 0) (by simpa using hb')
 have hE1 : E1 = setE E0 0 l' := by
   funext m
   by_cases hm : m = 0
   · subst hm; simp [setE, hl']
   · have := h1.box m
     rw [upd_ne _ _ _ _ hm] at this
     simpa [setE, hm, E0, BoxOk, B0] using this
 subst hE1
 have hll : l.fr = false → l' = l := fun hf => by
   have := hx.env 0 l (by simp [setE]) hf
   simpa [setE] using this
 have he : EnvLe E (setE E n l') := fun m k hm hf => by
   unfold setE
   by_cases hmn : m = n
   · subst hmn; rw [hE] at hm; simp only [Option.some.injEq] at hm; subst hm; simp [hll hf]
   · simp [hmn, hm]
 have hfr : ∀ c, c < w.heap.size → ¬ l.has c → w'.heap[c]? = w.heap[c]? ∧ G' c = G c := fun c hc hn => hx.frame c hc fun hl => hn (Live_one hl)
 have hnew : ∀ c, l'.has c → w.heap.size ≤ c ∨ l.has c := fun c hc => by
   rcases hx.newb c ⟨0, l', by simpa using hb', by simp [setE], hc⟩ with h2 | h2
   · exact .inl h2
   · exact .inr (Live_one h2)
 have hoff' : ∀ c, l'.has c → c < w'.heap.size ∧ ∀ o, G' c o = Option.none := fun c hc => h1.off c ⟨0, l', by simpa using hb', by simp [setE], hc⟩
 have hoth : ∀ m k c, m ≠ n → (bx m).live = true → E m = some k → k.has c → c < w.heap.size ∧ ¬ l.has c := fun m k c hm g1 g2 g3 =>
   ⟨(h.off c ⟨m, k, g1, g2, g3⟩).1, fun g4 => hm (h.sep m n k l c g1 hln g2 hE g3 g4)⟩
 have hdis : ∀ m k c, m ≠ n → (bx m).live = true → E m = some k → k.has c → ¬ l'.has c := fun m k c hm g1 g2 g3 g4 => by
   obtain ⟨g5, g6⟩ := hoth m k c hm g1 g2 g3
   rcases hnew c g4 with g7 | g7
   · omega
   · exact g6 g7
 have hlv : ∀ c, Live (upd bx n b') (setE E n l') c → l'.has c ∨ ∃ m k, m ≠ n ∧ (bx m).live = true ∧ E m = some k ∧ k.has c := by
   rintro c ⟨m, k, g1, g2, g3⟩
   by_cases hm : m = n
   · subst hm; simp only [setE, if_true, Option.some.injEq] at g2; subst g2; exact .inl g3
   · rw [upd_ne _ _ _ _ hm] at g1; simp only [setE, hm, if_false] at g2; exact .inr ⟨m, k, hm, g1, g2, g3⟩
 refine ⟨l', rfl, ⟨h1.gw, fun m => ?_, fun m m' k k' c g1 g2 g3 g4 g5 g6 => ?_, fun c hc => ?_⟩, hx.os, hx.tape, hx.output, hx.fz, hx.size, he, hx.heap, fun c hc hn => hfr c hc fun g => hn ⟨n, l, hln, hE, g⟩, fun c hc => ?_⟩
 · by_cases hm : m = n
   · subst hm
     simp only [upd_same, setE, if_true]
     have := h1.box 0
     simp only [upd_same, setE, if_true] at this
     exact this.closed hcb
   · rw [upd_ne _ _ _ _ hm]; simp only [setE, hm, if_false]
     refine (h.box m).mono he hx.heap hx.size fun k c hk hc hl => ?_
     obtain ⟨g1, g2⟩ := hoth m k c hm hl hk hc
     exact hfr c g1 g2
 · by_cases hm : m = n
   · by_cases hm' : m' = n
     · rw [hm, hm']
     · subst hm
       simp only [setE, if_true, Option.some.injEq] at g3; subst g3
       rw [upd_ne _ _ _ _ hm'] at g2; simp only [setE, hm', if_false] at g4
       exact absurd g5 (hdis m' k' c hm' g2 g4 g6)
   · by_cases hm' : m' = n
     · subst hm'
       simp only [setE, if_true, Option.some.injEq] at g4; subst g4
       rw [upd_ne _ _ _ _ hm] at g1; simp only [setE, hm, if_false] at g3
       exact absurd g6 (hdis m k c hm g1 g3 g5)
     · rw [upd_ne _ _ _ _ hm] at g1; simp only [setE, hm, if_false] at g3
       rw [upd_ne _ _ _ _ hm'] at g2; simp only [setE, hm', if_false] at g4
       exact h.sep m m' k k' c g1 g2 g3 g4 g5 g6
 · rcases hlv c hc with g | ⟨m, k, g1, g2, g3, g4⟩
   · exact hoff' c g
   · obtain ⟨g5, g6⟩ := hoth m k c g1 g2 g3 g4
     exact ⟨Nat.lt_of_lt_of_le g5 hx.size, by rw [(hfr c g5 g6).2]; exact (h.off c ⟨m, k, g2, g3, g4⟩).2⟩
 · rcases hlv c hc with g | ⟨m, k, g1, g2, g3, g4⟩
   · rcases hnew c g with g5 | g5
     · exact .inl g5
     · exact .inr ⟨n, l, hln, hE, g5⟩
   · exact .inr ⟨m, k, g2, g3, g4⟩
theorem Mems.callB {o : Oper} {c : Call} {fo : Operand} {f : FuncId} {caps args : List AV} {b b' : Box} {r : AV} (n : Nat) (ho : o.op = .call c) (hc : c.callee = .value fo)
   (hf : ρ fo = .fn f caps) (h : FnB P f args b r b') (hle : wkL (fun _ => n) (upd B0 0 b) args (c.args.toList.map ρ ++ caps)) (hb : b.live = true) (hw : wkB (fun _ => n) (upd B0 0 b) bx 0 b)
   (hb' : b'.live = true) (hcb : ClB b' = true) (hr : Cl r = true) :
   Mems P ρ bx o r (upd bx n b') := by
 intro a w E G hρ hok K Q hk
 obtain ⟨vs, hrun, hvs⟩ := run_callFn (w := w) ho hc hf h.1 hρ
 have hln : (bx n).live = true := wkB_live hw hb
 obtain ⟨l, hE⟩ := hok.loc hln
 obtain ⟨g1, _⟩ := hok.give hE hw hb
 have hEE : ∀ m, (upd B0 0 b m).live = true → setE E0 0 l m = E ((fun _ => n) m) := fun m hm => by
   have := B0_one hm; subst this; simp [setE, hE]
 have hcalls := h.2 w G l vs g1 (wkL_rel hEE hle hvs)
 refine .inl ?_
 unfold Oper.wp
 rw [hrun, Oper.upon_enter]
 refine Calls.mono hcalls fun e w'' he => ?_
 obtain ⟨v, G', E1, rfl, hx, hg, hext⟩ := he
 obtain ⟨l', rfl, g2, g3⟩ := hok.back hE hln hb' hcb hg hext
 exact hk v w'' _ G' (hx.closed _ _ hr) g2 g3
theorem FnO.intro {f : FuncId} {fn : Func} {c : Code} {args : List AV} {n s : Nat} {cs : List AV} (hf : P.funcs[f]? = some fn) (hn : (fn.name == "runtime.NumGoroutine") = false)
   (hb : fn.body = some c) (h : ∀ G w, WK P (CtxO f fn G w n s cs) [.code c] ⟨tmOf args, B0, 0⟩) : FnO P f args n s cs :=
 ⟨⟨fn, hf, hn, by simp [hb]⟩, fun w G vs hg hr => calls_of_wk (C := CtxO f fn G w n s cs) hf hb rfl rfl rfl (fun p hp => by cases hp) rfl rfl (fun b h1 => h1) (.start hg) hr (h G w)⟩
theorem FnB.intro {f : FuncId} {fn : Func} {c : Code} {args : List AV} {b b' : Box} {r : AV} (hf : P.funcs[f]? = some fn) (hn : (fn.name == "runtime.NumGoroutine") = false)
   (hb : fn.body = some c) (h : ∀ G w l, WK P (CtxB f fn l b G w r b') [.code c] ⟨tmOf args, upd B0 0 b, 0⟩) : FnB P f args b r b' :=
 ⟨⟨fn, hf, hn, by simp [hb]⟩, fun w G l vs hg hr => calls_of_wk (C := CtxB f fn l b G w r b') hf hb rfl rfl rfl (fun p hp _ => by simp [CtxX] at hp; subst hp; simp [setE]) rfl rfl (fun b h1 => h1) hg hr (h G w l)⟩
theorem WK.retX {f : FuncId} {fn : Func} {ms : List Nat} {kp : List (Nat × Obj)} {an : List (Nat × Loc)} {bx0 bx1 : Nat → Box} {r : AV} {k : List Item} (σ : Nat → Nat) (hfn : P.funcs[f]? = some fn)
   (h : match resL P st fn.results.toList with | some xs => wkT σ bx1 r (packA xs) | none => False) (hb : BxW σ bx1 bx1 st.bx) (hi : InjW σ bx1)
   (hk : k = [] ∨ ∃ k', k = .code .ret :: k') (hE : ∀ n l, E n = some l → l.fr = false → (n, l) ∈ an)
   (hA : anOk (fun n => σ n = n ∧ (bx1 n).live = true) an) : WK P (CtxX f fn ms kp an bx0 E G w r bx1) k st := by
 cases hx : resL P st fn.results.toList with
 | none => simp [hx] at h
 | some xs =>
   simp only [hx] at h
   refine WK.retGen (C := CtxX f fn ms kp an bx0 E G w r bx1) hx hfn hk rfl fun w' E' G' v hok hext han hv => ?_
   have hgh := Ghost.weak (st := ⟨upd J 0 (packA xs), st.bx, 0⟩) (bx' := bx1) (tm' := upd J 0 r) (nx' := 0) σ (TmW.upd TmW.nil (by simpa using h)) hb hi
   obtain ⟨E'', G'', hst⟩ := hgh (CtxX f { fn with ntmps := 0 } [] [] an bx0 E G w r bx1) { tmps := #[v], defers := [] } w' E' G' hA
     ⟨by simp [CtxX], fun t => by
       by_cases ht : t = 0
       · subst ht; simpa using hv
       · show Rel E' G' (upd J 0 (packA xs) t) _
         rw [upd_ne _ _ _ _ ht]; simp [J, Rel], rfl, hok, hext, fun b o hb => (by cases hb), han, ⟨by simp [CtxX], (fun r hr => by cases hr), fun b o hb => by cases hb⟩⟩
   have hext' := hst.ext
   refine ⟨v, G'', E'', rfl, ?_, hst.ok, hext'.os, hext'.tape, hext'.output, hext'.fz, hext'.size, fun n l hn hf => hst.an (n, l) (hE n l hn hf) hf, hext'.heap, hext'.frame, hext'.newb⟩
   have := hst.tm 0
   simpa using this
theorem WK.retO {f : FuncId} {fn : Func} {ms : List Nat} {kp : List (Nat × Obj)} {n s m : Nat} {cs c0 : List AV} {k : List Item} (hfn : P.funcs[f]? = some fn)
   (h : (resL P st fn.results.toList).map packA = some (.msl m 0 n)) (hb : st.bx m = .buf s c0) (hle : LeL c0 cs) (hcl : ClL cs = true) :
   WK P (CtxX f fn ms kp [] B0 E0 G w (.msl 0 0 n) (upd B0 0 (.buf s cs))) (.code .ret :: k) st := by
 refine WK.retX (fun _ => m) hfn ?_ (BxW.upd BxW.nil (by simp only [wkB, hb]; exact ⟨trivial, .inl ⟨hcl, hle⟩⟩)) InjW.one (.inr ⟨k, rfl⟩) (fun n l h => by simp [E0] at h) trivial
 cases hx : resL P st fn.results.toList with
 | none => simp [hx] at h
 | some xs => simp only [hx, Option.map_some, Option.some.injEq] at h; simp [wkT, h, Box.live]
theorem WK.retB {f : FuncId} {fn : Func} {ms : List Nat} {kp : List (Nat × Obj)} {b b' : Box} {l : Loc} {r : AV} {k : List Item} (hfn : P.funcs[f]? = some fn)
   (h : match resL P st fn.results.toList with | some xs => wkT (fun n => n) (upd B0 0 b') r (packA xs) | none => False) (hb : wkB (fun n => n) (upd B0 0 b') st.bx 0 b') (hl : b'.live = true)
   (hk : k = [] ∨ ∃ k', k = .code .ret :: k') :
   WK P (CtxX f fn ms kp [(0, l)] (upd B0 0 b) (setE E0 0 l) G w r (upd B0 0 b')) k st := by
 refine WK.retX (fun n => n) hfn h (BxW.upd BxW.nil hb) InjW.one hk (fun n l' h _ => ?_) ⟨⟨rfl, by simpa using hl⟩, trivial⟩
 unfold setE at h
 split at h
 · rename_i h0; subst h0; simp only [Option.some.injEq] at h; subst h; simp
 · simp [E0] at h
variable {ops : Array Oper} {cf : Oper → Cls} {l : List Oper} {i nx : Nat} {tm : Nat → AV} {Q : (Nat → AV) → (Nat → Box) → Prop} {o : Oper}
theorem RunQ.callO (nm : Nat) {c : Call} {fo : Operand} {f : FuncId} {caps args : List AV} {n s : Nat} {cs : List AV} (hop : o.op = .call c) (hc : c.callee = .value fo) (hcf : cf o = .w) (hw : wantedA ops tm o = some true)
   (hf : evA tm fo = .fn f caps) (ha : LeL (c.args.toList.map (evA tm) ++ caps) args) (h : FnO P f args n s cs) (hcl : ClL args = true) (hcs : ClL cs = true) (hnm : bx nm = .none)
   (t : RunQ P ops cf l (i + 1) (putA tm o.dst (.msl nm 0 n)) (upd bx nm (.buf s cs)) nx Q) : RunQ P ops cf (o :: l) i tm bx nx Q :=
 RunQ.mem hw hcf (Mems.callO hop hc hf ha h hcl hcs hnm) t
theorem RunQ.callB (n : Nat) {c : Call} {fo : Operand} {f : FuncId} {caps args : List AV} {b b' : Box} {r : AV} (hop : o.op = .call c) (hc : c.callee = .value fo) (hcf : cf o = .w) (hw : wantedA ops tm o = some true)
   (hf : evA tm fo = .fn f caps) (h : FnB P f args b r b') (hle : wkL (fun _ => n) (upd B0 0 b) args (c.args.toList.map (evA tm) ++ caps)) (hwb : wkB (fun _ => n) (upd B0 0 b) bx 0 b)
   (hb : b.live = true) (hb' : b'.live = true) (hcb : ClB b' = true) (hr : Cl r = true)
   (t : RunQ P ops cf l (i + 1) (putA tm o.dst r) (upd bx n b') nx Q) : RunQ P ops cf (o :: l) i tm bx nx Q :=
 RunQ.mem hw hcf (Mems.callB n hop hc hf h hle hb hwb hb' hcb hr) t
open Classical in
theorem Mems.append0 {o : Oper} {c : Call} {t e : TypeId} {xo yo : Operand} {n0 nm s by_ m : Nat} {fl : Bool} {ds : List AV} (ho : o.op = .call c) (hc : c.callee = .builtin .append)
   (hat : c.argTypes = #[t, t]) (harg : c.args = #[xo, yo]) (hok : AppOk P t e s by_) (hx : ρ xo = .sl true 0 []) (hy : ρ yo = .sl fl m ds) (hxy : xo ≠ yo)
   (hm : m * s ≤ ds.length) (hbound : m * by_ ≤ 140737488355328) (h0 : bx n0 = .none) (hnm : bx nm = .none) (hne : nm ≠ n0) :
   Mems P ρ bx o (.msl nm 0 m) (upd (upd bx n0 .gone) nm (.buf s (ds.take (m * s)))) := by
 intro a w E G hρ hheap K Q hK
 let tm : Nat → AV := fun j => if j = 0 then .sl true 0 [] else .junk
 have hEn : E n0 = none := hheap.none h0
 have he := setE_le (l := .nil) hEn
 have hxv := hρ xo (by simp [ho, Op.operands, Call.operands, hc, harg])
 have hyv := hρ yo (by simp [ho, Op.operands, Call.operands, hc, harg])
 have hlv : ∀ b, Live (upd bx n0 (.buf s [])) (setE E n0 .nil) b → Live bx E b := by
   rintro b ⟨k, l, h1, h2, h3⟩
   by_cases hk : k = n0
   · subst hk; simp only [setE, if_true, Option.some.injEq] at h2; subst h2; simp [Loc.has] at h3
   · rw [upd_ne _ _ _ _ hk] at h1; simp only [setE, hk, if_false] at h2; exact ⟨k, l, h1, h2, h3⟩
 have hok1 : HeapOk (upd bx n0 (.buf s [])) (setE E n0 .nil) G w := by
   refine ⟨hheap.gw, fun k => ?_, fun k k' l l' b h1 h2 h3 h4 h5 h6 => ?_, fun b hb => hheap.off b (hlv b hb)⟩
   · by_cases hk : k = n0
     · subst hk; simp [setE, BoxOk]
     · rw [upd_ne _ _ _ _ hk]; simp only [setE, hk, if_false]
       exact (hheap.box k).mono he (.refl _) (Nat.le_refl _) fun _ _ _ _ _ => ⟨rfl, rfl⟩
   · by_cases hk : k = n0
     · subst hk; simp only [setE, if_true, Option.some.injEq] at h3; subst h3; simp [Loc.has] at h5
     · by_cases hk' : k' = n0
       · subst hk'; simp only [setE, if_true, Option.some.injEq] at h4; subst h4; simp [Loc.has] at h6
       · simp only [setE, hk, hk', if_false] at h3 h4
         rw [upd_ne _ _ _ _ hk] at h1; rw [upd_ne _ _ _ _ hk'] at h2
         exact hheap.sep k k' l l' b h1 h2 h3 h4 h5 h6
 have hext1 : Ext bx E G w (upd bx n0 (.buf s [])) (setE E n0 .nil) G w :=
   ⟨rfl, rfl, rfl, fun _ _ => rfl, Nat.le_refl _, he, .refl _, fun _ _ _ => ⟨rfl, rfl⟩, fun b hb => .inr (hlv b hb)⟩
 have hm1 := Mems.append (P := P) (ρ := fun y => if y = xo then .msl n0 0 0 else ρ y) (bx := upd bx n0 (.buf s [])) (n := n0) (nm := nm) (s := s) (by_ := by_) (k := 0) (m := m) (fl := fl) (cs := []) (ds := ds)
   ho hc hat harg hok (by simp) (by simp [Ne.symm hxy, hy]) (by simp) (by simp) hm (by simpa using hbound) (by rw [upd_ne _ _ _ _ hne]; exact hnm)
 refine hm1 a w _ G (fun y hy' => ?_) hok1 K Q fun v w' E' G' hxr hok' hext => hK v w' E' G' (by simpa using hxr) (by simpa [upd_upd] using hok') (by have := hext1.trans hext; simpa [upd_upd] using this)
 by_cases hyx : y = xo
 · subst hyx
   simp only [if_true]
   rw [hx] at hxv
   simp only [Rel] at hxv ⊢
   refine .inr ⟨by simp [setE], trivial, trivial, ?_⟩
   rcases hxv with ⟨ad, cap, hv, _, h1, _⟩ | ⟨blk, off, cap, vs, hv, _, _, h1, _⟩
   · have := h1 trivial; subst this; exact ⟨ad, hv⟩
   · have := h1 trivial; subst this; exact ⟨_, hv⟩
 · simp only [hyx, if_false]
   exact (hρ y hy').mono he (.refl _)
theorem RunQ.append0 {c : Call} {t e : TypeId} {xo yo : Operand} {s by_ m : Nat} {fl : Bool} {ds : List AV} (n0 nm : Nat) (hok : AppOk P t e s by_) (ho : o.op = .call c) (hc : c.callee = .builtin .append)
   (hat : c.argTypes = #[t, t]) (harg : c.args = #[xo, yo]) (hx : evA tm xo = .sl true 0 []) (hy : evA tm yo = .sl fl m ds) (hcf : cf o = .w) (hxy : xo ≠ yo) (hw : wantedA ops tm o = some true)
   (hm : m * s ≤ ds.length) (hbound : m * by_ ≤ 140737488355328) (h0 : bx n0 = .none) (hnm : bx nm = .none) (hne : nm ≠ n0)
   (h : RunQ P ops cf l (i + 1) (putA tm o.dst (.msl nm 0 m)) (upd (upd bx n0 .gone) nm (.buf s (ds.take (m * s)))) nx Q) : RunQ P ops cf (o :: l) i tm bx nx Q :=
 RunQ.mem hw hcf (Mems.append0 ho hc hat harg hok hx hy hxy hm hbound h0 hnm hne) h
end
end Go.AI
end

namespace Go.AI
attribute [simp] RunF stepF memF comp wantedA clsLe clsOf clsM lk sub TD.agg AV.cells AV.plain Box.cells? Box.withCells ptrAdd binA arithA cmpA shiftA sameA eqA eqOf unA pickA intA boundsA slA lenA capA idxA fillA placeA buildA bslA splice isNilSl fullA Cl ClL cv cv0 eqK resOne resL packA tmOf
@[simp] theorem B0_at (n : Nat) : B0 n = .none := rfl
attribute [simp] wkT wkB wkA wkL Ren RenL Nm NmL ClB Box.live Le.refl LeL.refl LeL.cons Le.junk Le.agg Le.tup Le.sl
end Go.AI
