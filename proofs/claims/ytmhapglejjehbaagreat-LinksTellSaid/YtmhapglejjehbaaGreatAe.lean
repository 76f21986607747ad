/- A part of our proof. -/
import Derived.Test.YtmhapglejjehbaaGreatAd
import Derived.Laws.MakeOwn
set_option linter.all false
set_option linter.unnecessarySimpa false
section
namespace Go.AI
section
variable {P : Program} {E E' : Env} {G G' : Heap} {w w' : World} {ρ : Operand → AV} {a : Act} {bx : Nat → Box} {C : Ctx} {st st' : St}
structure PartOk (bx : Nat → Box) (E : Env) (G : Heap) (w : World) : Prop where
 box : ∀ n, BoxOk E G w (bx n) (E n)
 sep : ∀ n m l k b, (bx n).live = true → (bx m).live = true → E n = some l → E m = some k → l.has b → k.has b → n = m
 off : ∀ b, Live bx E b → b < w.heap.size ∧ ∀ o, G b o = none
theorem HeapOk.part (h : HeapOk bx E G w) : PartOk bx E G w := ⟨h.box, h.sep, h.off⟩
theorem PartOk.full (h : PartOk bx E G w) (hg : GW G w) : HeapOk bx E G w := ⟨hg, h.box, h.sep, h.off⟩
theorem PartOk.mono (h : PartOk bx E G w) (hg : HeapLe G G') (hs : w.heap.size ≤ w'.heap.size) (hw : ∀ b, Live bx E b → w'.heap[b]? = w.heap[b]? ∧ G' b = G b) : PartOk bx E G' w' :=
 ⟨fun n => (h.box n).mono (.refl _) hg hs fun l b hl hb hc => hw b ⟨n, l, hc, hl, hb⟩, h.sep, fun b hb => ⟨Nat.lt_of_lt_of_le (h.off b hb).1 hs, by rw [(hw b hb).2]; exact (h.off b hb).2⟩⟩
section
variable {f : FuncId} {fn : Func} {l : Nat} {lp rc rec1 : Loop} {kp : List (Nat × Obj)} {N : List Nat} {S1 : Nat → Box} {own : Nat → Prop} {k : List Item} {bb : Bool}
end
end
end Go.AI
end

section
namespace Go.AI
section
variable {P : Program} {E E' : Env} {G G' : Heap} {w w' : World} {ρ : Operand → AV} {a : Act} {bx : Nat → Box} {C : Ctx} {st st' : St}
variable {ops : Array Oper} {cf : Oper → Cls} {l : List Oper} {i nx : Nat} {tm : Nat → AV} {Q : (Nat → AV) → (Nat → Box) → Prop} {o : Oper}
section
variable {f : FuncId} {fn : Func} {rc : Loop} {kp : List (Nat × Obj)} {N : List Nat} {S1 : Nat → Box} {own : Nat → Prop} {k : List Item} {go : Nat → Bool} {jmp : Nat → Option Code} {lp : Nat} {E0' : Env} {G0 : Heap} {w0 : World}
end
theorem RelL.set {cs : List AV} {vs : List Value} {j : Nat} {x : AV} (h : RelL E G cs vs) (hx : ∀ v, vs[j]? = some v → Rel E G x v) : RelL E G (cs.set j x) vs := by
 induction cs generalizing vs j with
 | nil => simpa using h
 | cons c cs ih =>
   simp only [RelL] at h
   obtain ⟨v, vs', rfl, h2, h3⟩ := h
   cases j with
   | zero => exact RelL.cons (hx v rfl) h3
   | succ j => exact RelL.cons h2 (ih h3 fun v hv => hx v (by simpa using hv))
theorem Ghost.ownVar {tm : Nat → AV} {nx : Nat} (n j m s : Nat) {cs : List AV} (hc : bx n = .var cs) (hj : cs[j]? = some (.sl true 0 [])) (hm : bx m = .none) :
   Ghost (fun _ => True) ⟨tm, bx, nx⟩ ⟨tm, upd (upd bx n (.var (cs.set j (.msl m 0 0)))) m (.buf s []), nx⟩ := by
 intro C a w E G _ h
 have hok : HeapOk bx E G w := h.ok
 have hmn : n ≠ m := fun e => by subst e; rw [hc] at hm; cases hm
 have hEm : E m = none := hok.none hm
 have he := setE_le (l := .nil) hEm
 have hlv : ∀ b, Live (upd (upd bx n (.var (cs.set j (.msl m 0 0)))) m (.buf s [])) (setE E m .nil) b → Live bx E b := by
   rintro b ⟨q, k, h1, h2, h3⟩
   by_cases hq : q = m
   · subst hq; simp only [setE, if_true, Option.some.injEq] at h2; subst h2; simp [Loc.has] at h3
   · rw [upd_ne _ _ _ _ hq] at h1; simp only [setE, hq, if_false] at h2
     by_cases hqn : q = n
     · subst hqn; exact ⟨q, k, by rw [hc]; rfl, h2, h3⟩
     · rw [upd_ne _ _ _ _ hqn] at h1; exact ⟨q, k, h1, h2, h3⟩
 refine ⟨setE E m .nil, G, h.size, fun t => (h.tm t).mono he (.refl _), h.df, ⟨hok.gw, fun q => ?_, fun q q' k k' b h1 h2 h3 h4 h5 h6 => ?_, fun b hb => hok.off b (hlv b hb)⟩, h.ext.less hlv, keep_less h.keep hlv, fun p hp hf => he _ _ (h.an p hp hf) hf, h.ms⟩
 · show BoxOk _ G w (upd (upd bx n _) m _ q) _
   by_cases hq : q = m
   · subst hq; simp [setE, BoxOk]
   · rw [upd_ne _ _ _ _ hq]; simp only [setE, hq, if_false]
     by_cases hqn : q = n
     · subst hqn
       simp only [upd_same]
       have hb := hok.box q
       rw [hc] at hb
       cases hE : E q with
       | none => rw [hE] at hb; simp [BoxOk] at hb
       | some l =>
         rw [hE] at hb
         cases l <;> simp only [BoxOk] at hb ⊢
         obtain ⟨vs, T, g1, g2, g3⟩ := hb
         refine ⟨vs, T, g1, RelL.set (RelL.mono he (.refl _) _ _ g2) fun v hv => ?_, g3⟩
         obtain ⟨u, hu, hr⟩ := g2.get hj
         rw [hv] at hu; simp only [Option.some.injEq] at hu; subst hu
         simp only [Rel] at hr ⊢
         refine .inr ⟨by simp [setE], trivial, trivial, ?_⟩
         rcases hr with ⟨ad, cap, hv, _, h1, _⟩ | ⟨blk, off, cap, vs, hv, _, _, h1, _⟩
         · have := h1 trivial; subst this; exact ⟨ad, hv⟩
         · have := h1 trivial; subst this; exact ⟨_, hv⟩
     · rw [upd_ne _ _ _ _ hqn]
       exact (hok.box q).mono he (.refl _) (Nat.le_refl _) fun _ _ _ _ _ => ⟨rfl, rfl⟩
 · dsimp only at h1 h2
   have key : ∀ q k, (upd (upd bx n (.var (cs.set j (.msl m 0 0)))) m (.buf s []) q).live = true → setE E m .nil q = some k → k.has b → (bx q).live = true ∧ E q = some k := fun q k g1 g2 g3 => by
     by_cases hq : q = m
     · subst hq; simp only [setE, if_true, Option.some.injEq] at g2; subst g2; simp [Loc.has] at g3
     · rw [upd_ne _ _ _ _ hq] at g1; simp only [setE, hq, if_false] at g2
       by_cases hqn : q = n
       · subst hqn; exact ⟨by rw [hc]; rfl, g2⟩
       · rw [upd_ne _ _ _ _ hqn] at g1; exact ⟨g1, g2⟩
   obtain ⟨a1, a2⟩ := key q k h1 h3 h5
   obtain ⟨b1, b2⟩ := key q' k' h2 h4 h6
   exact hok.sep q q' k k' b a1 b1 a2 b2 h5 h6
end
theorem WK.cut {P : Program} {C : Ctx} {k k' : List Item} {st : St} (st' : St) (h : WK P C k' st' → WK P C k st) (h' : WK P C k' st') : WK P C k st := h h'
attribute [simp] NmL.closed Nm.closed RenL.closed Ren.closed
end Go.AI
end

section
namespace Go.AI
section
variable {P : Program} {E E' : Env} {G G' : Heap} {w w' : World} {ρ : Operand → AV} {a : Act} {bx : Nat → Box}
theorem Mems.make {o : Oper} {t e : TypeId} {xo yo : Operand} {nm s by_ n c : Nat} {k k' : IntKind} (ho : o.op = .makeSlice t xo yo) (hok : AppOk P t e s by_) (hx : ρ xo = .int k n) (hy : ρ yo = .int k' c)
   (hnc : n ≤ c) (hbound : by_ * c ≤ 140737488355328) (hnm : bx nm = .none) :
   Mems P ρ bx o (.msl nm 0 n) (upd bx nm (.buf s (List.replicate n (zr P e).cells).flatten)) := by
 intro a w E G hρ hheap K Q hK
 obtain ⟨i, z, hu, hi, hz, hsz, hby, hzs⟩ := hok.facts
 have hc63 : c ≤ 9223372036854775807 := by
   have h1 := Nat.le_mul_of_pos_left c hok.bpos
   generalize by_ * c = q at hbound h1
   omega
 have hxv := hρ xo (by simp [ho, Op.operands])
 have hyv := hρ yo (by simp [ho, Op.operands])
 rw [hx] at hxv
 rw [hy] at hyv
 simp only [Rel] at hxv hyv
 have hmul : (by_ : Int) * (c : Int) ≤ 281474976710656 := by
   have h1 : (by_ : Int) * (c : Int) = ((by_ * c : Nat) : Int) := (Int.natCast_mul _ _).symm
   rw [h1]
   generalize by_ * c = q at hbound
   omega
 have hrun0 := run_make (P := P) w t e i z hu hi hz k k' (n : Int) (c : Int) (by omega) (by omega) (by rw [hby]; exact hmul) (by omega)
 simp only [Int.toNat_natCast] at hrun0
 obtain ⟨zv, hz1, hz2⟩ := zr_spec (P := P) (x := zr P e) rfl hok.zr
 have hzz : zv = z := by
   have h1 := hz1 w
   have h2 := run_zero (P := P) (w := w) hi hz
   rw [h1] at h2
   simpa using h2
 subst hzz
 have hEn := hheap.none hnm
 have hle := setE_le (l := .buf w.heap.size s c) hEn
 obtain ⟨g1, g2⟩ := (hz2 (setE E nm (.buf w.heap.size s c)) G).cells hok.zr
 have hmade : (madeCells zv.cells (c * s)).toList = (List.replicate n zv.cells.toList).flatten ++ (List.replicate (c - n) zv.cells.toList).flatten := by
   rw [← List.flatten_append, List.replicate_append_replicate, show n + (c - n) = c by omega, ← cyc_eq hzs c]
   simp [madeCells]
 rw [hsz] at hrun0
 have hp := hheap.push (w' := w.alloc (.cells (madeCells zv.cells (c * s)) e)) (n := nm) (l := .buf w.heap.size s c) (bn := .buf s (List.replicate n (zr P e).cells).flatten) hnm rfl ⟨_, _, rfl⟩ rfl rfl rfl rfl (by
   simp only [BoxOk]
   refine ⟨trivial, _, (List.replicate (c - n) zv.cells.toList).flatten, e, ?_, g1.rep n, g2.rep n, ?_⟩
   · have : (w.alloc (.cells (madeCells zv.cells (c * s)) e)).heap = w.heap.push (.cells (madeCells zv.cells (c * s)) e) := rfl
     rw [this]
     simp only [Array.getElem?_push_size, Option.some.injEq, Obj.cells.injEq, and_true, true_and]
     rw [← hmade]
   · have h1 : (madeCells zv.cells (c * s)).toList.length = c * s := by simp [madeCells]
     rw [hmade] at h1; exact h1)
 have hrun : (execOp a.eval o).run P w = .ok (.value (.slice (some ⟨w.heap.size, 0, none⟩) n c)) (w.alloc (.cells (madeCells zv.cells (c * s)) e)) := by
   simp only [execOp, ho, hxv, hyv, Sem.run_bind, hrun0, Result.andThen_ok, Sem.run_pure]
 refine .inl ?_
 unfold Oper.wp
 rw [hrun]
 refine hK _ _ _ G ?_ hp.1 hp.2
 simp only [Rel]
 exact .inl ⟨w.heap.size, c, rfl, hnc, by omega, .inl ⟨s, c, by simp [setE], by omega⟩⟩
variable {ops : Array Oper} {cf : Oper → Cls} {l : List Oper} {i nx : Nat} {tm : Nat → AV} {Q : (Nat → AV) → (Nat → Box) → Prop} {o : Oper}
theorem RunQ.make {t e : TypeId} {xo yo : Operand} {s by_ n c : Nat} {k k' : IntKind} (nm : Nat) (hok : AppOk P t e s by_) (ho : o.op = .makeSlice t xo yo) (hw : wantedA ops tm o = some true) (hcf : cf o = .w)
   (hx : evA tm xo = .int k n) (hy : evA tm yo = .int k' c) (hnc : n ≤ c) (hbound : by_ * c ≤ 140737488355328) (hnm : bx nm = .none)
   (h : RunQ P ops cf l (i + 1) (putA tm o.dst (.msl nm 0 n)) (upd bx nm (.buf s (List.replicate n (zr P e).cells).flatten)) nx Q) : RunQ P ops cf (o :: l) i tm bx nx Q :=
 RunQ.mem hw hcf (Mems.make ho hok hx hy hnc hbound hnm) h
end
end Go.AI
end

section
namespace Go.AI
section
variable {E E' : Env} {G G' : Heap} {w w' : World} {bx bx' : Nat → Box}
theorem HeapOk.recell {n : Nat} {cs cs2 : List AV} (h : HeapOk bx E G w) (hc : bx n = .var cs) (hr : ∀ vs, RelL E G cs vs → RelL E G cs2 vs) : HeapOk (upd bx n (.var cs2)) E G w := by
 have hl : ∀ m, (upd bx n (.var cs2) m).live = (bx m).live := fun m => by
   by_cases hm : m = n
   · subst hm; simp [hc, Box.live]
   · rw [upd_ne _ _ _ _ hm]
 refine ⟨h.gw, fun m => ?_, fun m m' k k' b h1 h2 h3 h4 h5 h6 => h.sep m m' k k' b (by rw [← hl]; exact h1) (by rw [← hl]; exact h2) h3 h4 h5 h6, fun b hb => h.off b ?_⟩
 · by_cases hm : m = n
   · subst hm
     simp only [upd_same]
     have hb := h.box m
     rw [hc] at hb
     cases hE : E m with
     | none => rw [hE] at hb; simp [BoxOk] at hb
     | some l =>
       rw [hE] at hb
       cases l <;> simp only [BoxOk] at hb ⊢
       obtain ⟨vs, T, g1, g2, g3⟩ := hb
       exact ⟨vs, T, g1, hr vs g2, g3⟩
   · rw [upd_ne _ _ _ _ hm]; exact h.box m
 · obtain ⟨m, k, g1, g2, g3⟩ := hb
   exact ⟨m, k, by rw [← hl]; exact g1, g2, g3⟩
theorem Live.recell {n : Nat} {cs cs2 : List AV} {b : Nat} (hc : bx n = .var cs) (h : Live (upd bx n (.var cs2)) E b) : Live bx E b := by
 obtain ⟨m, k, g1, g2, g3⟩ := h
 refine ⟨m, k, ?_, g2, g3⟩
 by_cases hm : m = n
 · subst hm; rw [hc]; rfl
 · rw [upd_ne _ _ _ _ hm] at g1; exact g1
theorem Ghost.frzCell {tm : Nat → AV} {nx : Nat} (n j m k s : Nat) {cs cs' : List AV} (hc : bx n = .var cs) (hj : cs[j]? = some (.msl m 0 k)) (hm : (bx m).cells? = some cs') (hnm : n ≠ m) :
   Ghost (· ≠ m) ⟨tm, bx, nx⟩ ⟨tm, upd (upd bx m .gone) n (.var (cs.set j (.sl false k (cs'.take (k * s))))), nx⟩ := by
 intro C a w E G _ h
 obtain ⟨G', h1, h2, h3, _, h4⟩ := frz h.ok hm
 have htm : ∀ t, Rel E G (tm t) (a.tmps.getD t undef) := h.tm
 have hc' : (upd bx m .gone) n = .var cs := by rw [upd_ne _ _ _ _ hnm]; exact hc
 have hlv : ∀ b, Live (upd (upd bx m .gone) n (.var (cs.set j (.sl false k (cs'.take (k * s)))))) E b → Live (upd bx m .gone) E b := fun b hb => Live.recell hc' hb
 have hr : ∀ vs, RelL E G' cs vs → RelL E G' (cs.set j (.sl false k (cs'.take (k * s)))) vs := fun vs g => RelL.set g fun v hv => by
   obtain ⟨u, hu, hr⟩ := g.get hj
   rw [hv] at hu; simp only [Option.some.injEq] at hu; subst hu
   have := h4 0 k s v (by simpa only [Rel] using hr) (.inr rfl)
   simpa using this
 exact ⟨E, G', h.size, fun t => (htm t).mono (.refl _) h1, h.df, h2.recell hc' hr, (h.ext.trans h3).less hlv, keep_less (keep_ext h.keep h3) hlv, fun p hp hf => h3.env _ _ (h.an p hp hf) hf, h.ms⟩
end
section
variable {P : Program} {ops : Array Oper} {cf : Oper → Cls} {l : List Oper} {i nx : Nat} {tm : Nat → AV} {bx : Nat → Box} {Q : (Nat → AV) → (Nat → Box) → Prop} {o : Oper}
end
end Go.AI
end
