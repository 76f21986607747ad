/- ! A map that is ranged over: which entry comes next is open. -/
import Derived.Test.YtmhapglejjehbaaGreatAf
import Derived.Maps.RangeRun
import Derived.Test.YtmhapglejjehbaaGreatAd
import Derived.Test.YtmhapglejjehbaaGreatAe
import Derived.Shelf.Sort.Plain
import Derived.Shelf.Slices.In.SortNone
set_option linter.all false
set_option linter.unnecessarySimpa false
section
namespace Go.AI
open Go
def Ctx.nm (C : Ctx) (x : Nat × Loc) : Ctx := { C with an := x :: C.an }
def itObj (m c n : Nat) (vs : List Nat) : Obj := .mapIter (some m) (c + n) (vs.map (c + ·)).toArray (c + n)
section
variable {P : Program} {E : Env} {G : Heap} {w : World} {C : Ctx} {st : St} {k : List Item}
theorem WK.named {o : Obj} (n : Nat) (hb : st.bx n = .obj o) (h : ∀ m, WK P (C.nm (n, .var m)) k st) : WK P C k st := by
 intro a w E G hst b cs hf hk hr
 have hbox := hst.ok.box n
 rw [hb] at hbox
 obtain ⟨m, hm⟩ : ∃ m, E n = some (.var m) := by
   cases hE : E n with
   | none => rw [hE] at hbox; exact hbox.elim
   | some l => rw [hE] at hbox; cases l <;> simp only [BoxOk] at hbox; exact ⟨_, rfl⟩
 exact h m a w E G ⟨hst.size, hst.tm, hst.df, hst.ok, hst.ext, hst.keep, fun p hp hp2 => by
   rcases List.mem_cons.1 hp with rfl | hp
   · exact hm
   · exact hst.an p hp hp2, hst.ms⟩ b cs hf hk hr
theorem WK.unname {x : Nat × Loc} (h : WK P C k st) : WK P (C.nm x) k st :=
 fun a w E G hst b cs hf hk hr => h a w E G ⟨hst.size, hst.tm, hst.df, hst.ok, hst.ext, hst.keep, fun p hp => hst.an p (List.mem_cons_of_mem _ hp), hst.ms⟩ b cs hf hk hr
theorem OpsK.alt {ops : Array Oper} {i : Nat} {l : List Nat} {o : Oper} (R : AV → (Nat → Box) → Prop) (ho : ops[i]? = some o) (hg : o.guard = none)
   (hm : ∀ (a : Act) (w : World) (E : Env) (G : Heap), (∀ y ∈ o.op.operands, Rel E G (evA st.tm y) (a.eval y)) → HeapOk st.bx E G w → (∀ p, p ∈ C.an → p.2.fr = false → E p.1 = some p.2) →
     ∃ x bx', R x bx' ∧ ∃ v w' E' G', (execOp a.eval o).run P w = .ok (.value v) w' ∧ Rel E' G' x v ∧ HeapOk bx' E' G' w' ∧ Ext st.bx E G w bx' E' G' w')
   (h : ∀ x bx', R x bx' → OpsK P C ops l k ⟨putA st.tm o.dst x, bx', st.nx⟩) : OpsK P C ops (i :: l) k st := by
 intro hd hnd a w E G hst
 rw [wpOpsIn_cons]
 unfold wpOpIn
 have hw : wantedA ops st.tm o = some true := by simp [wantedA, hg]
 simp only [ho, wantedA_sound hst.tm hw, if_true]
 obtain ⟨x, bx', hR, v, w', E', G', hrun, hx, hok, hext⟩ := hm a w E G (fun y _ => evA_rel hst.tm y) hst.ok hst.an
 refine OpW.wpIn (hnd i o ho) (fun _ _ h => by cases h.1) (fun _ _ _ h => by cases h.1) (.inl ?_)
 unfold Oper.wp
 rw [hrun]
 refine h x bx' hR hd hnd _ _ E' G' ?_
 exact ⟨by rw [Act.put_size']; exact hst.size, put_rel hext.env hext.heap hst.size (fun d hd' => hd i o d ho hd') hst.tm hx, by rw [Act.put_df]; exact hst.df, hok, hst.ext.trans hext, keep_ext hst.keep hext, fun p hp hf => hext.env _ _ (hst.an p hp hf) hf, hst.ms⟩
end
section
variable {P : Program} {C : Ctx} {ops : Array Oper} {l : List Oper} {i nx : Nat} {tm : Nat → AV} {bx : Nat → Box} {Q : (Nat → AV) → (Nat → Box) → Prop} {o : Oper}
def RunN (P : Program) (C : Ctx) (ops : Array Oper) (l : List Oper) (i : Nat) (tm : Nat → AV) (bx : Nat → Box) (nx : Nat) (Q : (Nat → AV) → (Nat → Box) → Prop) : Prop :=
 ops.toList.drop i = l → ∀ k, (∀ tm bx, Q tm bx → WK P C k ⟨tm, bx, nx + 100⟩) → OpsK P C ops (List.range' i l.length) k ⟨tm, bx, nx⟩
theorem RunN.nil (h : Q tm bx) : RunN P C ops [] i tm bx nx Q := fun _ k hk => OpsK.nil (WK.anyNx (hk tm bx h))
theorem RunN.cons {x : AV} {bx' : Nat → Box} (h : ops[i]? = some o → Step1 P ops i ⟨tm, bx, nx⟩ ⟨putA tm o.dst x, bx', nx⟩) (t : RunN P C ops l (i + 1) (putA tm o.dst x) bx' nx Q) : RunN P C ops (o :: l) i tm bx nx Q := fun hl k hk => by
 obtain ⟨ho, hd⟩ := drop_head hl
 rw [List.length_cons, List.range'_succ]
 exact OpsK.cons (h ho) (t hd k hk)
def RunHN (P : Program) (C : Ctx) (ops : Array Oper) (nx : Nat) (Q : (Nat → AV) → (Nat → Box) → Prop) : List Oper → Nat → (Nat → AV) → (Nat → Box) → Prop
 | [], _, tm, bx => Q tm bx
 | o :: l, i, tm, bx => match o.guard with
   | some _ => RunN P C ops (o :: l) i tm bx nx Q
   | none => match memF P (nx + i) o.op tm bx with
     | some (_, x, bx') => RunHN P C ops nx Q l (i + 1) (putA tm o.dst x) bx'
     | none => RunN P C ops (o :: l) i tm bx nx Q
theorem RunN.evalH : ∀ {l : List Oper} {i : Nat} {tm : Nat → AV} {bx : Nat → Box}, RunHN P C ops nx Q l i tm bx → RunN P C ops l i tm bx nx Q
 | [], i, tm, bx, h => .nil h
 | o :: l, i, tm, bx, h => by
   simp only [RunHN] at h
   split at h
   · exact h
   · rename_i hg
     have hw : wantedA ops tm o = some true := by simp [wantedA, hg]
     split at h
     · rename_i c x bx' hs
       refine .cons (fun ho => ?_) (RunN.evalH h)
       rcases memF_sound hs with ⟨_, rfl, h1⟩ | ⟨m, _, rfl, h1⟩ | ⟨m, b', _, rfl, h1⟩
       · exact .run ho hw (h1 _)
       · exact .run ho hw (h1 _ rfl)
       · exact .run ho hw (h1 _ rfl)
     · exact h
theorem WK.regN {id n : Nat} {k : List Item} (hn : C.fn.ntmps = n) (hd : dstB n ops = true)
   (h : ∀ A, Hid (A = ops) → ∀ Q : (Nat → AV) → (Nat → Box) → Prop, Hid (∀ tm bx, WK P C k ⟨tm, bx, nx + 100⟩ → Q tm bx) → RunHN P C A nx Q ops.toList 0 tm bx) :
   WK P C (.code (.region id ops false) :: k) ⟨tm, bx, nx⟩ := by
 have h1 := RunN.evalH (h _ ⟨rfl⟩ (fun tm bx => WK P C k ⟨tm, bx, nx + 100⟩) ⟨fun _ _ h => h⟩) rfl k (fun _ _ h => h)
 refine WK.region (dstB_ok (hn ▸ hd)) (dstB_nd hd) ?_
 rwa [List.range_eq_range', ← Array.length_toList]
theorem RunN.alt (R : AV → (Nat → Box) → Prop) (hg : o.guard = none)
   (hm : ∀ (a : Act) (w : World) (E : Env) (G : Heap), (∀ y ∈ o.op.operands, Rel E G (evA tm y) (a.eval y)) → HeapOk bx E G w → (∀ p, p ∈ C.an → p.2.fr = false → E p.1 = some p.2) →
     ∃ x bx', R x bx' ∧ ∃ v w' E' G', (execOp a.eval o).run P w = .ok (.value v) w' ∧ Rel E' G' x v ∧ HeapOk bx' E' G' w' ∧ Ext bx E G w bx' E' G' w')
   (h : ∀ x bx', R x bx' → RunN P C ops l (i + 1) (putA tm o.dst x) bx' nx Q) : RunN P C ops (o :: l) i tm bx nx Q := fun hl k hk => by
 obtain ⟨ho, hd⟩ := drop_head hl
 rw [List.length_cons, List.range'_succ]
 exact OpsK.alt R ho hg hm fun x bx' hR => h x bx' hR hd k hk
theorem frozen_pushI {w w' : World} {o : Obj} (ho : Obj.isC o = false) (hh : w'.heap = w.heap.push o) (a : Addr) : w'.frozen? a = w.frozen? a := by
 unfold World.frozen?
 by_cases h : a.block = w.heap.size
 · have h1 : w'.heap[a.block]? = some o := by rw [hh, h]; simp
   have h2 : w.heap[a.block]? = none := by rw [h]; simp
   rw [h1, h2]
   cases o <;> simp_all [Obj.isC]
 · have h1 : w'.heap[a.block]? = w.heap[a.block]? := by rw [hh, Array.getElem?_push, if_neg h]
   rw [h1]
theorem RunN.range {t : TypeId} {mo : Operand} {n m c : Nat} {es : List (Int × Int)} (q : Nat) (hok : MpOk P t) (ho : o.op = .range t mo) (hg : o.guard = none) (hm : evA tm mo = .mv n) (hbn : bx n = .obj (mpObjK (Value.int .i64) c es)) (hq : bx q = .none) (han : (n, Loc.var m) ∈ C.an)
   (h : RunN P C ops l (i + 1) (putA tm o.dst (.ptr q 0)) (upd bx q (.obj (itObj m c es.length []))) nx Q) : RunN P C ops (o :: l) i tm bx nx Q := by
 refine .alt (fun x bx' => x = .ptr q 0 ∧ bx' = upd bx q (.obj (itObj m c es.length []))) hg (fun a w E G hρ hok' hE => ?_) (fun x bx' hR => by obtain ⟨rfl, rfl⟩ := hR; exact h)
 obtain ⟨⟨kt, vt, i, e1, e2, e3, e4⟩, e5⟩ := hok
 have hmv := hρ mo (by simp [ho, Op.operands])
 rw [hm] at hmv
 obtain ⟨r, hr, hEr⟩ := hok'.mvLoc hmv hbn
 have hEm := hE _ han rfl
 simp only at hEm
 rw [hEm] at hEr
 simp only [Option.some.injEq, Loc.var.injEq] at hEr
 subst hEr
 have hb : w.heap[m]? = some (mpObjK (Value.int .i64) c es) := by have := hok'.box n; rw [hbn, hEm] at this; exact this
 have hp := hok'.pushO (w' := w.alloc (itObj m c es.length [])) (n := q) (l := .var w.heap.size) (bn := .obj (itObj m c es.length [])) hq rfl (frozen_pushI rfl rfl) rfl rfl rfl rfl (by
   simp only [BoxOk]
   have : (w.alloc (itObj m c es.length [])).heap = w.heap.push (itObj m c es.length []) := rfl
   rw [this]; simp)
 refine ⟨_, _, ⟨rfl, rfl⟩, .pointer (some ⟨w.heap.size, 0, none⟩), w.alloc (itObj m c es.length []), _, G, ?_, ?_, hp.1, hp.2⟩
 · have h2 := run_range_map (P := P) w t kt vt m _ _ e1 hb
   simp only [execOp, ho, hr, Sem.run_bind, h2, Result.andThen_ok, Sem.run_pure, itObj, List.map_nil]
 · simp only [Rel]
   exact ⟨.var w.heap.size, _, by simp [setE], rfl, rfl⟩
theorem mpFrom_mem {es : List (Int × Int)} {c : Nat} {e : MapEntry} (h : e ∈ mpFrom (Value.int .i64) c es) : ∃ j, ∃ hj : j < es.length, e = { key := .int .i64 es[j].1, val := .int .i64 es[j].2, born := c + j } := by
 obtain ⟨j, hj, e1⟩ := List.mem_iff_getElem.1 h
 rw [mpFrom_len] at hj
 have h2 := mpFrom_get (kv := Value.int .i64) es c j hj
 rw [List.getElem?_eq_getElem (by rw [mpFrom_len]; exact hj), e1] at h2
 exact ⟨j, hj, by simpa using h2⟩
theorem RunN.next {io : Operand} {q n m c : Nat} {es : List (Int × Int)} {vs : List Nat} (ho : o.op = .next io false) (hg : o.guard = none) (hi : evA tm io = .ptr q 0) (hbq : bx q = .obj (itObj m c es.length vs)) (hbn : bx n = .obj (mpObjK (Value.int .i64) c es)) (han : (n, Loc.var m) ∈ C.an)
   (h0 : (∀ j, j < es.length → j ∈ vs) → RunN P C ops l (i + 1) (putA tm o.dst (.tup [.bool false])) bx nx Q)
   (h1 : ∀ j (hj : j < es.length), j ∉ vs → RunN P C ops l (i + 1) (putA tm o.dst (.tup [.bool true, .int .i64 es[j].1, .int .i64 es[j].2])) (upd bx q (.obj (itObj m c es.length (vs ++ [j])))) nx Q) : RunN P C ops (o :: l) i tm bx nx Q := by
 refine .alt (fun x bx' => ((∀ j, j < es.length → j ∈ vs) ∧ x = .tup [.bool false] ∧ bx' = bx) ∨ ∃ j, ∃ hj : j < es.length, j ∉ vs ∧ x = .tup [.bool true, .int .i64 es[j].1, .int .i64 es[j].2] ∧ bx' = upd bx q (.obj (itObj m c es.length (vs ++ [j])))) hg (fun a w E G hρ hok' hE => ?_)
   (fun x bx' hR => by
     rcases hR with ⟨h2, rfl, rfl⟩ | ⟨j, hj, h2, rfl, rfl⟩
     · exact h0 h2
     · exact h1 j hj h2)
 have hiv := hρ io (by simp [ho, Op.operands])
 rw [hi] at hiv
 simp only [Rel] at hiv
 obtain ⟨lq, r, hEq, hlq, hr⟩ := hiv
 have hbox := hok'.box q
 rw [hbq, hEq] at hbox
 cases lq <;> simp only [BoxOk] at hbox
 simp only [Loc.blk?, Option.some.injEq] at hlq
 subst hlq
 rename_i r
 have hEm := hE _ han rfl
 simp only at hEm
 have hb : w.heap[m]? = some (mpObjK (Value.int .i64) c es) := by have := hok'.box n; rw [hbn, hEm] at this; exact this
 unfold mpObjK at hb
 have hold : ∀ x ∈ (mpFrom (Value.int .i64) c es).toArray.toList, x.born < c + es.length := fun x hx => by
   obtain ⟨j, hj, rfl⟩ := mpFrom_mem (by simpa using hx)
   simp only; omega
 have hcon : ∀ j : Nat, (vs.map (c + ·)).toArray.contains (c + j) = true ↔ j ∈ vs := fun j => by
   simp
 rcases run_next_at (P := P) w o.type r m (c + es.length) (c + es.length) (vs.map (c + ·)).toArray _ _ hbox hb hold (Nat.le_refl _) with ⟨hs, hrun⟩ | ⟨e, he, w1, hw1, hrun⟩
 · refine ⟨_, _, .inl ⟨fun j hj => ?_, rfl, rfl⟩, .tuple #[.bool false], w, E, G, ?_, ?_, hok', .refl _ _ _ _⟩
   · have hemp : leftOf (mpFrom (Value.int .i64) c es).toArray (vs.map (c + ·)).toArray = #[] := Array.eq_empty_of_size_eq_zero hs
     unfold leftOf at hemp
     rw [Array.filter_eq_empty_iff] at hemp
     have hg2 := mpFrom_get (kv := Value.int .i64) es c j hj
     have := hemp _ (by rw [List.mem_toArray]; exact List.mem_of_getElem? hg2)
     simp only [Bool.not_eq_true, Bool.not_eq_false'] at this
     exact (hcon j).1 this
   · simp only [execOp, ho, hr, Sem.run_bind, hrun, Result.andThen_ok, Sem.run_pure]
   · simp only [Rel, RelL]; exact ⟨_, rfl, _, _, rfl, rfl, rfl⟩
 · have he2 : e ∈ mpFrom (Value.int .i64) c es ∧ ¬ (vs.map (c + ·)).toArray.contains e.born = true := by
     unfold leftOf at he
     simpa using he
   obtain ⟨j, hj, rfl⟩ := mpFrom_mem he2.1
   have hnv : j ∉ vs := fun h => he2.2 ((hcon j).2 h)
   have hw2 : HeapOk bx E G w1 ∧ Ext bx E G w bx E G w1 := by
     rcases hw1 with rfl | rfl
     · exact ⟨hok', .refl _ _ _ _⟩
     · exact ⟨(hok'.part.mono (w' := w.drew) (.refl _) (Nat.le_refl _) (fun _ _ => ⟨rfl, rfl⟩)).full hok'.gw, ⟨rfl, rfl, rfl, fun _ _ => rfl, Nat.le_refl _, .refl _, .refl _, fun _ _ _ => ⟨rfl, rfl⟩, fun _ h => .inr h⟩⟩
   obtain ⟨_, g1, g2⟩ := hw2.1.objSet (o' := itObj m c es.length (vs ++ [j])) hbq hEq rfl rfl
   refine ⟨_, _, .inr ⟨j, hj, hnv, rfl, rfl⟩, .tuple #[.bool true, .int .i64 es[j].1, .int .i64 es[j].2], _, E, G, ?_, ?_, g1, hw2.2.trans g2⟩
   · have e1 : ((vs.map (c + ·)).toArray.push (c + j)) = ((vs ++ [j]).map (c + ·)).toArray := by simp
     simp only [e1] at hrun
     simp only [execOp, ho, hr, Sem.run_bind, hrun, Result.andThen_ok, Sem.run_pure]
     rfl
   · simp only [Rel, RelL]; exact ⟨_, rfl, _, _, rfl, rfl, _, _, rfl, rfl, _, _, rfl, rfl, rfl⟩
theorem mpFrom_nodup (c : Nat) : ∀ (es : List (Int × Int)) (i : Nat), ((mpFrom (Value.int .i64) i es).map (·.born)).Nodup ∧ ∀ b ∈ (mpFrom (Value.int .i64) i es).map (·.born), i ≤ b
 | [], i => by simp [mpFrom]
 | x :: t, i => by
   obtain ⟨h1, h2⟩ := mpFrom_nodup c t (i + 1)
   simp only [mpFrom, List.map_cons, List.nodup_cons]
   refine ⟨⟨fun h => ?_, h1⟩, fun b hb => ?_⟩
   · have := h2 _ h; omega
   · rcases List.mem_cons.1 hb with rfl | hb
     · exact Nat.le_refl _
     · have := h2 _ hb; omega
theorem RunN.entry {io : Operand} {q n m c j : Nat} {es : List (Int × Int)} {vs : List Nat} (ho : o.op = .entry io) (hg : o.guard = none) (hi : evA tm io = .ptr q 0) (hbq : bx q = .obj (itObj m c es.length (vs ++ [j]))) (hbn : bx n = .obj (mpObjK (Value.int .i64) c es)) (han : (n, Loc.var m) ∈ C.an) (hj : j < es.length)
   (h : RunN P C ops l (i + 1) (putA tm o.dst (.tup [.int .i64 es[j].1, .int .i64 es[j].2])) bx nx Q) : RunN P C ops (o :: l) i tm bx nx Q := by
 refine .alt (fun x bx' => x = .tup [.int .i64 es[j].1, .int .i64 es[j].2] ∧ bx' = bx) hg (fun a w E G hρ hok' hE => ?_) (fun x bx' hR => by obtain ⟨rfl, rfl⟩ := hR; exact h)
 have hiv := hρ io (by simp [ho, Op.operands])
 rw [hi] at hiv
 simp only [Rel] at hiv
 obtain ⟨lq, r, hEq, hlq, hr⟩ := hiv
 have hbox := hok'.box q
 rw [hbq, hEq] at hbox
 cases lq <;> simp only [BoxOk] at hbox
 simp only [Loc.blk?, Option.some.injEq] at hlq
 subst hlq
 rename_i r
 have hEm := hE _ han rfl
 simp only at hEm
 have hb : w.heap[m]? = some (mpObjK (Value.int .i64) c es) := by have := hok'.box n; rw [hbn, hEm] at this; exact this
 unfold mpObjK at hb
 have hmem : ({ key := .int .i64 es[j].1, val := .int .i64 es[j].2, born := c + j } : MapEntry) ∈ (mpFrom (Value.int .i64) c es).toArray.toList := by
   have := mpFrom_get (kv := Value.int .i64) es c j hj
   exact List.mem_of_getElem? this
 have e1 : itObj m c es.length (vs ++ [j]) = .mapIter (some m) (c + es.length) ((vs.map (c + ·)).toArray.push (c + j)) (c + es.length) := by simp [itObj]
 rw [e1] at hbox
 have hrun := run_entry_at (P := P) w r m (c + es.length) (vs.map (c + ·)).toArray _ _ _ hbox hb hmem (mpFrom_nodup c es c).1
 refine ⟨_, _, ⟨rfl, rfl⟩, .tuple #[.int .i64 es[j].1, .int .i64 es[j].2], w, E, G, ?_, ?_, hok', .refl _ _ _ _⟩
 · simp only [execOp, ho, hr, Sem.run_bind, hrun, Result.andThen_ok, Sem.run_pure]
 · simp only [Rel, RelL]; exact ⟨_, rfl, _, _, rfl, rfl, _, _, rfl, rfl, rfl⟩
end
attribute [simp] RunHN
end Go.AI
end

section
namespace Go.AI
open Go
section
variable {P : Program} {C : Ctx} {ops : Array Oper} {l : List Oper} {i nx : Nat} {tm : Nat → AV} {bx : Nat → Box} {Q : (Nat → AV) → (Nat → Box) → Prop} {o : Oper}
open Classical in
theorem RunN.behind {t e : TypeId} {xo lo : Operand} {n off k d by_ : Nat} {cs : List AV} (hok : AppOk P t e 1 by_) (ho : o.op = .slice t xo (some lo) none none) (hg : o.guard = none) (hx : evA tm xo = .msl n off k) (hl : evA tm lo = .int .i64 d) (hb : bx n = .buf 1 cs) (hd0 : 0 < d) (hdk : d ≤ k)
   (h1 : RunN P C ops l (i + 1) (putA tm o.dst (.msl n (off + d) (k - d))) bx nx Q)
   (h2 : d = k → RunN P C ops l (i + 1) (putA tm o.dst (.sl true 0 [])) bx nx Q) : RunN P C ops (o :: l) i tm bx nx Q := by
 refine .alt (fun x bx' => (x = .msl n (off + d) (k - d) ∧ bx' = bx) ∨ (d = k ∧ x = .sl true 0 [] ∧ bx' = bx)) hg (fun a w E G hρ hok' hE => ?_) (fun x bx' hR => by
   rcases hR with ⟨rfl, rfl⟩ | ⟨h3, rfl, rfl⟩
   · exact h1
   · exact h2 h3)
 obtain ⟨i, z, hu, hi, hz, hsz, hby, hzs⟩ := hok.facts
 have hxv := hρ xo (by simp [ho, Op.operands])
 have hlv := hρ lo (by simp [ho, Op.operands])
 rw [hx] at hxv
 rw [hl] at hlv
 simp only [Rel] at hxv hlv
 have hbox := hok'.box n
 rw [hb] at hbox
 rcases hxv with ⟨blk, cap, hxe, hkc, hk63, hloc⟩ | ⟨hnil, h0, hk0, a0, hxe⟩
 · obtain ⟨tot, hEn, hct⟩ : ∃ tot, E n = some (.buf blk 1 tot) ∧ off + cap = tot := by
     rcases hloc with ⟨s', tot, g1, g2⟩ | g1
     · rw [g1] at hbox
       simp only [BoxOk] at hbox
       obtain ⟨g0, _⟩ := hbox
       subst g0
       exact ⟨tot, g1, by simpa using g2⟩
     · rw [g1] at hbox; simp [BoxOk] at hbox
   have hbd : (Instr.sliceBounds true k cap (some (a.eval lo)) none none).run P w = .ok (d, k, cap) w := by
     let ρ' : Operand → AV := fun y => if y = lo then evA tm y else .junk
     have hρ' : ∀ y, Rel E G (ρ' y) (a.eval y) := fun y => by
       by_cases hy : y = lo
       · simp only [ρ', hy, if_true]; exact hρ lo (by simp [ho, Op.operands])
       · simp only [ρ', hy, if_false, Rel]
     have hb' : boundsA k k ((some lo).map ρ') ((none : Option Operand).map ρ') ((none : Option Operand).map ρ') = some (d, k, none) := by
       have c1 : (d : Int) ≤ (k : Int) := by omega
       simp [boundsA, ρ', hl, intA, c1]
     have := (bounds_sound (P := P) (w := w) (isSlice := true) (c := cap) hρ' hkc (Nat.le_refl k) hb').1
     simpa using this
   have hex : ∀ v, (Instr.sliceAt t (a.eval xo) (some (a.eval lo)) none none).run P w = .ok v w → (execOp a.eval o).run P w = .ok (.value v) w := fun v hv => by
     simp [execOp, ho, hv]
   have hsl : (Instr.sliceAt t (a.eval xo) (some (a.eval lo)) none none).run P w = .ok (.slice (if cap = d then (some ⟨blk, off, none⟩ : Option Addr) else (some ⟨blk, off, none⟩ : Option Addr).map (·.add (d * sz P e))) (k - d) (cap - d)) w := by
     unfold Instr.sliceAt
     simp [AI.run_underlying hu, hxe, Instr.slice, hbd, run_sizeOf hok.tde]
   by_cases hcd : cap = d
   · have hkd : d = k := by omega
     rw [if_pos hcd, show k - d = 0 by omega, show cap - d = 0 by omega] at hsl
     refine ⟨_, _, .inr ⟨hkd, rfl, rfl⟩, .slice (some ⟨blk, off, none⟩) 0 0, w, E, G, hex _ hsl, ?_, hok', .refl _ _ _ _⟩
     simp only [Rel]; exact .inl ⟨_, _, rfl, trivial, fun _ => rfl, trivial⟩
   · rw [if_neg hcd, hok.sz, Nat.mul_one, Option.map_some, addr_add] at hsl
     refine ⟨_, _, .inl ⟨rfl, rfl⟩, .slice (some ⟨blk, off + d, none⟩) (k - d) (cap - d), w, E, G, hex _ hsl, ?_, hok', .refl _ _ _ _⟩
     simp only [Rel]
     exact .inl ⟨blk, cap - d, rfl, by omega, by omega, .inl ⟨1, tot, hEn, by omega⟩⟩
 · omega
theorem RunN.append {c : Call} {t e : TypeId} {xo yo : Operand} {n by_ off k : Nat} {fl : Bool} {cs : List AV} {y : AV} (nm : Nat) (hok : AppOk P t e 1 by_) (ho : o.op = .call c) (hc : c.callee = .builtin .append)
   (hat : c.argTypes = #[t, t]) (harg : c.args = #[xo, yo]) (hg : o.guard = none) (hx : evA tm xo = .msl n off k) (hy : evA tm yo = .sl fl 1 [y]) (hb : bx n = .buf 1 cs) (hk : cs.length = off + k) (hbound : (k + 1) * by_ ≤ 140737488355328) (hnm : bx nm = .none)
   (h1 : RunN P C ops l (i + 1) (putA tm o.dst (.msl nm off (k + 1))) (upd (upd bx n .gone) nm (.buf 1 (cs ++ [y]))) nx Q)
   (h2 : RunN P C ops l (i + 1) (putA tm o.dst (.msl nm 0 (k + 1))) (upd (upd bx n .gone) nm (.buf 1 (cs.drop off ++ [y]))) nx Q) : RunN P C ops (o :: l) i tm bx nx Q := by
 refine .alt (fun x bx' => (x = .msl nm off (k + 1) ∧ bx' = upd (upd bx n .gone) nm (.buf 1 (cs ++ [y]))) ∨ (x = .msl nm 0 (k + 1) ∧ bx' = upd (upd bx n .gone) nm (.buf 1 (cs.drop off ++ [y])))) hg (fun a w E G hρ hheap hEn => ?_) (fun x bx' hR => by
   rcases hR with ⟨rfl, rfl⟩ | ⟨rfl, rfl⟩
   · exact h1
   · exact h2)
 obtain ⟨i, z, hu, hi, hz, hsz, hby, hzs⟩ := hok.facts
 have htde : td P e ≠ .none := hok.tde
 have hxv := hρ xo (by simp [ho, Op.operands, Call.operands, hc, harg])
 have hyv := hρ yo (by simp [ho, Op.operands, Call.operands, hc, harg])
 rw [hx] at hxv; rw [hy] at hyv
 have hby1 : 0 < by_ := hok.bpos
 have hkm : k + 1 ≤ 140737488355328 := Nat.le_trans (Nat.le_mul_of_pos_right _ hby1) hbound
 have hlive : (bx n).live = true := by rw [hb]; rfl
 have hne : nm ≠ n := fun e => by subst e; rw [hnm] at hb; cases hb
 have hexec : ∀ v w', (Builtin.append_ #[t, t] o.type #[a.eval xo, a.eval yo]).run P w = .ok v w' → (execOp a.eval o).run P w = .ok (.value v) w' := by
   intro v w' hr
   simp only [execOp, ho, resolve, hc, harg, hat, Sem.run_bind, Sem.run_pure, Result.andThen_ok, invoke, builtin, List.map_toArray, List.map_cons, List.map_nil, hr]
 have hbox := hheap.box n
 rw [hb] at hbox
 obtain ⟨lo, hE⟩ := hheap.loc hlive
 rw [hE] at hbox
 obtain ⟨hren, hrenx⟩ := hheap.rename hnm hlive hE
 rw [hb] at hren hrenx
 simp only [Rel] at hxv hyv
 obtain ⟨b2, o2, c2, u, hye, hur, huo, huc⟩ : ∃ b2 o2 c2, ∃ u : Value, a.eval yo = .slice (some ⟨b2, o2, Option.none⟩) 1 c2 ∧ RelL E G [y] [u] ∧ Ones [u] ∧ (∀ j v, [u][j]? = some v → w.cell? ((⟨b2, o2, Option.none⟩ : Addr).add j) = some v) := by
   rcases hyv with ⟨ad, cap, hv, h0, _⟩ | ⟨blk, off, cap, vs, hv, g1, g2, g3, g4, g5, g6⟩
   · exact absurd h0 (by decide)
   · obtain ⟨u, rfl, _⟩ := g4.single
     exact ⟨blk, off, cap, u, hv, g4, g6, fun j v hj => by rw [addr_add]; exact hheap.gw _ _ _ (g5 j v hj)⟩
 -- a new row
 have grow : ∀ (olds : List Value) (cap : Nat), RelL E G (cs.drop off) olds → Ones olds → cap < k + 1 →
     (Builtin.append_ #[t, t] o.type #[a.eval xo, a.eval yo]).run P w = .ok (.slice (some ⟨w.heap.size, 0, Option.none⟩) (k + 1) (grownCap w (k + 1) cap e))
       (w.drew.alloc (.cells (olds.toArray ++ [u].toArray ++ Builtin.zeroCells z.cells (grownCap w (k + 1) cap e - (k + 1))) e)) →
     ∃ x bx', ((x = .msl nm off (k + 1) ∧ bx' = upd (upd bx n .gone) nm (.buf 1 (cs ++ [y]))) ∨ (x = .msl nm 0 (k + 1) ∧ bx' = upd (upd bx n .gone) nm (.buf 1 (cs.drop off ++ [y])))) ∧
       ∃ v w' E' G', (execOp a.eval o).run P w = .ok (.value v) w' ∧ Rel E' G' x v ∧ HeapOk bx' E' G' w' ∧ Ext bx E G w bx' E' G' w' := by
   intro olds cap ho1 ho2 hcap hrun
   obtain ⟨G1, hG1, hok1, hext1, _, _⟩ := frz hheap (n := n) (cs := cs) (by rw [hb]; rfl)
   have hnm1 : upd bx n .gone nm = .none := by rw [upd_ne _ _ _ _ hne]; exact hnm
   have hge := grownCap_ge w (k + 1) cap e
   have hle := grownCap_le_maxLen w (k + 1) cap e (by simp only [maxLen]; omega)
   have hE1 : EnvLe E (setE E nm (.buf w.heap.size 1 (grownCap w (k + 1) cap e))) := setE_le (hheap.none hnm)
   have hbufok : BoxOk (setE E nm (.buf w.heap.size 1 (grownCap w (k + 1) cap e))) G1
       (w.drew.alloc (.cells (olds.toArray ++ [u].toArray ++ Builtin.zeroCells z.cells (grownCap w (k + 1) cap e - (k + 1))) e))
       (.buf 1 (cs.drop off ++ [y])) (some (.buf w.heap.size 1 (grownCap w (k + 1) cap e))) := by
     simp only [BoxOk]
     refine ⟨trivial, olds ++ [u], (Builtin.zeroCells z.cells (grownCap w (k + 1) cap e - (k + 1))).toList, e, ?_, (ho1.mono hE1 hG1).append (hur.mono hE1 hG1), ho2.append huo, ?_⟩
     · have h0 := heap_alloc_new w.drew (.cells (olds.toArray ++ [u].toArray ++ Builtin.zeroCells z.cells (grownCap w (k + 1) cap e - (k + 1))) e)
       have h1 : (olds ++ [u] ++ (Builtin.zeroCells z.cells (grownCap w (k + 1) cap e - (k + 1))).toList).toArray = olds.toArray ++ [u].toArray ++ Builtin.zeroCells z.cells (grownCap w (k + 1) cap e - (k + 1)) := by
         apply Array.ext'; simp
       rw [h1]
       exact h0
     · have h1 := ho1.length
       have h2 := size_zeroCells z.cells (grownCap w (k + 1) cap e - (k + 1))
       rw [List.length_drop] at h1
       simp only [List.length_append, Array.length_toList, h1, hk, h2, hzs, List.length_singleton]
       omega
   obtain ⟨hok2, hext2⟩ := hok1.push (n := nm) (l := .buf w.heap.size 1 (grownCap w (k + 1) cap e)) (bn := .buf 1 (cs.drop off ++ [y]))
     (w' := w.drew.alloc (.cells (olds.toArray ++ [u].toArray ++ Builtin.zeroCells z.cells (grownCap w (k + 1) cap e - (k + 1))) e)) hnm1 rfl ⟨_, _, rfl⟩ rfl rfl rfl rfl hbufok
   refine ⟨_, _, .inr ⟨rfl, rfl⟩, _, _, _, _, hexec _ _ hrun, ?_, hok2, hext1.trans hext2⟩
   simp only [Rel]
   exact .inl ⟨w.heap.size, _, rfl, hge, by omega, .inl ⟨1, grownCap w (k + 1) cap e, by simp [setE], by simp⟩⟩
 rcases hxv with ⟨blk, cap, hxe, hkc, hk63, hloc⟩ | ⟨hnil, hoff0, hk0, a0, hxe⟩
 · obtain ⟨tot, rfl, hct⟩ : ∃ tot, lo = .buf blk 1 tot ∧ off + cap = tot := by
     rcases hloc with ⟨s', tot, h1, h2⟩ | h1
     · rw [hE] at h1; simp only [Option.some.injEq] at h1; subst h1
       simp only [BoxOk] at hbox
       obtain ⟨h0, _⟩ := hbox
       subst h0
       exact ⟨tot, rfl, by simpa using h2⟩
     · rw [hE] at h1; simp only [Option.some.injEq] at h1; subst h1
       simp [BoxOk] at hbox
   simp only [BoxOk] at hbox
   obtain ⟨_, vs, rest, T, hh, hrel, hones, hlen⟩ := hbox
   have hvl := hrel.length
   rw [Nat.mul_one] at hlen
   by_cases hroom : k + 1 ≤ cap
   · have hfc := run_firstCells_some (P := P) w 1 1 ⟨b2, o2, Option.none⟩ 1 c2 [u] rfl huc
     have hst := run_storeCells_at P blk (off + k) T [u] 0 (vs ++ rest).toArray w hh (by simp at hlen ⊢; omega) huo
     simp only [Nat.add_zero] at hst
     have hrun : (Builtin.append_ #[t, t] o.type #[a.eval xo, a.eval yo]).run P w = .ok (.slice (some ⟨blk, off, Option.none⟩) (k + 1) cap)
         (w.setRow blk ((vs ++ rest).take (off + k) ++ [u] ++ (vs ++ rest).drop (off + k + [u].length)).toArray) := by
       rw [hxe, hye]
       simp [Builtin.append_, AI.run_underlying hu, AI.run_sizeOf htde, Builtin.lenOf, hroom, hok.sz, hfc, addr_add, hst]
     have hsplit : (vs ++ rest).take (off + k) ++ [u] ++ (vs ++ rest).drop (off + k + [u].length) = (vs ++ [u]) ++ rest.drop 1 := by
       rw [List.take_append_of_le_length (by omega), List.take_of_length_le (by omega), List.drop_append, List.drop_of_length_le (by simp; omega), show off + k + [u].length - vs.length = 1 by simp; omega]
       simp
     rw [hsplit] at hrun
     have hE1 := setE_le (l := .buf blk 1 tot) (hheap.none hnm)
     obtain ⟨hok2, hext2⟩ := hren.set (n := nm) (blk := blk) (l := .buf blk 1 tot) (arr := ((vs ++ [u]) ++ rest.drop 1).toArray) (c' := .buf 1 (cs ++ [y]))
       (by simp [Box.live]) rfl (by simp [setE]) rfl (by
         simp only [BoxOk]
         refine ⟨trivial, vs ++ [u], rest.drop 1, T, setRow_heap w blk _ _ T (0, 0) hh, (RelL.mono hE1 (.refl _) _ _ hrel).append (RelL.mono hE1 (.refl _) _ _ hur), hones.append huo, ?_⟩
         simp at hlen ⊢; omega)
     rw [upd_upd] at hok2 hext2
     refine ⟨_, _, .inl ⟨rfl, rfl⟩, _, _, _, G, hexec _ _ hrun, ?_, hok2, hrenx.trans hext2⟩
     simp only [Rel]
     exact .inl ⟨blk, cap, rfl, hroom, by omega, .inl ⟨1, tot, by simp [setE], by simpa using hct⟩⟩
   · refine grow (vs.drop off) cap (hrel.drop off) (hones.drop off) (by omega) ?_
     rw [hxe, hye]
     refine run_append_grow (P := P) w t o.type e i z hu hi hz ⟨blk, off, Option.none⟩ k cap (vs.drop off) (by rw [List.length_drop, hvl, hk, hsz]; omega) (fun j v hj => by
         rw [addr_add]
         rw [List.getElem?_drop] at hj
         simpa using cells_of_heap hh _ v hj)
       ⟨b2, o2, Option.none⟩ 1 c2 [u] (by rw [hsz]; rfl) huc (by omega) (by omega) (growslice_fits (by omega) (by rw [hby]; exact hbound))
 · rw [hE] at hnil; simp only [Option.some.injEq] at hnil; subst hnil
   subst hk0 hoff0
   simp only [BoxOk] at hbox
   subst hbox
   refine grow [] 0 RelL.nil (fun v hv => by simp at hv) (by omega) ?_
   rw [hxe, hye]
   cases a0 with
   | none =>
     have := run_append_nil (P := P) w t o.type e i z hu hi hz ⟨b2, o2, Option.none⟩ 1 c2 [u] (by rw [hsz]; rfl) huc (by omega) (by omega) (by rw [hby]; simp at hbound; omega)
     simpa using this
   | some p =>
     have := run_append_grow (P := P) w t o.type e i z hu hi hz p 0 0 [] (by simp) (fun j v hj => by simp at hj)
       ⟨b2, o2, Option.none⟩ 1 c2 [u] (by rw [hsz]; rfl) huc (by omega) (by omega) (growslice_fits (by omega) (by rw [hby]; simpa using hbound))
     simpa using this
theorem RunN.buildOwn {t : TypeId} {len s : Nat} {parts : Array (Nat × Operand)} {cs : List AV} (nm : Nat) (ho : o.op = .buildSlice t len parts) (hg : o.guard = none) (h : bslA P (evA tm) t len parts.toList = some cs) (hs : ∀ e, td P t = .slice e → sz P e = s) (hcl : cs.length = len * s) (h63 : len ≤ 9223372036854775807) (hnm : bx nm = .none)
   (hn : RunN P C ops l (i + 1) (putA tm o.dst (.msl nm 0 len)) (upd bx nm (.buf s cs)) nx Q) : RunN P C ops (o :: l) i tm bx nx Q := by
 refine .alt (fun x bx' => x = .msl nm 0 len ∧ bx' = upd bx nm (.buf s cs)) hg (fun a w E G hρ hok hEn => ?_) (fun x bx' hR => by obtain ⟨rfl, rfl⟩ := hR; exact hn)
 have htd : td P t ≠ .none := by intro h0; simp [bslA, h0] at h
 obtain ⟨i', d, hi', hd, hdt⟩ := td_some htd
 unfold bslA at h
 rw [← hdt] at h
 cases d <;> simp only [tdOf, reduceCtorEq] at h
 rename_i e
 split at h
 · rename_i hc
   obtain ⟨hne, hlen, hbig, hz, hzl⟩ := hc
   obtain ⟨zv, hz1, hz2⟩ := zr_spec (P := P) rfl hz
   obtain ⟨g1, g2⟩ := (hz2 E G).cells hz
   have hzs : zv.cells.size = sz P e := by have := g1.length; rw [Array.length_toList] at this; omega
   have hps := forall2_parts (E := E) (G := G) (ρ := evA tm) (ev := a.eval) parts.toList fun p hpm => hρ p.2 (by
     simp only [ho, Op.operands]
     simp
     exact ⟨p.1, by simpa using hpm⟩)
   have hinit : ∀ zero : Array Value, (len * sz P e = 0 ∧ zero = #[]) ∨ zero = zv.cells →
       ((Array.range (len * sz P e)).map (zero[· % zero.size]!)).toList = (List.replicate len zv.cells.toList).flatten := by
     intro zero h0
     rcases h0 with ⟨h0, rfl⟩ | rfl
     · rw [h0]
       have h3 : (List.replicate len zv.cells.toList).flatten.length = 0 := by simp [hzs, h0]
       simp [List.eq_nil_of_length_eq_zero h3]
     · rw [← cyc_eq hzs len]; simp
   have hfill : ∀ zero : Array Value, (len * sz P e = 0 ∧ zero = #[]) ∨ zero = zv.cells →
       ∃ arr, Instr.fill (fun i => some (i * sz P e, sz P e)) ((Array.range (len * sz P e)).map (zero[· % zero.size]!)) (parts.toList.map fun p => (p.1, a.eval p.2)) = some arr ∧ RelL E G cs arr.toList ∧ Ones arr.toList :=
     fun zero h0 => fill_sound _ _ _ _ cs (by rw [hinit zero h0]; exact g1.rep len) (by rw [hinit zero h0]; exact g2.rep len) hps h
   have hps' : (parts.map fun (i, x) => (i, a.eval x)).toList = parts.toList.map fun p => (p.1, a.eval p.2) := by simp
   have key : ∃ arr : Array Value, (execOp a.eval o).run P w = .ok (.value (.slice (some ⟨w.heap.size, 0, none⟩) len len)) { w with heap := w.heap.push (.cells arr e) } ∧ RelL E G cs arr.toList ∧ Ones arr.toList := by
     have hbig' : ¬ (2 ^ 24 < len * sz P e) := by omega
     by_cases h0 : len * sz P e = 0
     · obtain ⟨arr, f1, f2, f3⟩ := hfill #[] (.inl ⟨h0, rfl⟩)
       refine ⟨arr, ?_, f2, f3⟩
       simp only [execOp, ho, Instr.buildSlice, Sem.run_bind, run_underlying hd, Result.andThen_ok, run_sizeOf hne, Sem.run_ite, hbig', if_false, gt_iff_lt, h0, if_true, Sem.run_pure, newRow, run_newObj]
       rw [h0] at f1
       simp only [hps', f1, Sem.run_bind, run_newObj, Result.andThen_ok, Sem.run_pure]
       simp
     · obtain ⟨arr, f1, f2, f3⟩ := hfill zv.cells (.inr rfl)
       refine ⟨arr, ?_, f2, f3⟩
       simp only [execOp, ho, Instr.buildSlice, Sem.run_bind, run_underlying hd, Result.andThen_ok, run_sizeOf hne, Sem.run_ite, hbig', if_false, gt_iff_lt, h0, Sem.run_pure, hz1, newRow, run_newObj, hps', f1]
   obtain ⟨arr, hrun, f2, f3⟩ := key
   have hse : sz P e = s := hs e (by rw [← hdt]; rfl)
   obtain ⟨hok2, hext2⟩ := hok.push (n := nm) (l := .buf w.heap.size s len) (bn := .buf s cs) (w' := { w with heap := w.heap.push (.cells arr e) }) hnm rfl ⟨_, _, rfl⟩ rfl rfl rfl rfl (by
     simp only [BoxOk]
     refine ⟨trivial, arr.toList, [], e, ?_, f2.mono (setE_le (hok.none hnm)) (.refl _), f3, ?_⟩
     · show (w.heap.push (.cells arr e))[w.heap.size]? = _
       simp
     · rw [List.append_nil, f2.length, hcl])
   refine ⟨_, _, ⟨rfl, rfl⟩, _, _, _, _, hrun, ?_, hok2, hext2⟩
   simp only [Rel]
   exact .inl ⟨w.heap.size, len, rfl, Nat.le_refl _, h63, .inl ⟨s, len, by simp [setE], by simp⟩⟩
 · cases h
theorem WK.regN0 {id n : Nat} {k : List Item} (hn : C.fn.ntmps = n) (hd : dstB n ops = true)
   (h : ∀ A, Hid (A = ops) → ∀ Q : (Nat → AV) → (Nat → Box) → Prop, Hid (∀ tm bx, WK P C k ⟨tm, bx, nx + 100⟩ → Q tm bx) → RunN P C A ops.toList 0 tm bx nx Q) :
   WK P C (.code (.region id ops false) :: k) ⟨tm, bx, nx⟩ := by
 have h1 := h _ ⟨rfl⟩ (fun tm bx => WK P C k ⟨tm, bx, nx + 100⟩) ⟨fun _ _ h => h⟩ rfl k (fun _ _ h => h)
 refine WK.region (dstB_ok (hn ▸ hd)) (dstB_nd hd) ?_
 rwa [List.range_eq_range', ← Array.length_toList]
theorem RunN.one {x : AV} {bx' : Nat → Box} {c : Cls} (hg : o.guard = none) (h : memF P (nx + i) o.op tm bx = some (c, x, bx')) (t : RunN P C ops l (i + 1) (putA tm o.dst x) bx' nx Q) : RunN P C ops (o :: l) i tm bx nx Q := by
 have hw : wantedA ops tm o = some true := by simp [wantedA, hg]
 refine .cons (fun ho => ?_) t
 rcases memF_sound h with ⟨_, rfl, h1⟩ | ⟨m, _, rfl, h1⟩ | ⟨m, b', _, rfl, h1⟩
 · exact .run ho hw (h1 _)
 · exact .run ho hw (h1 _ rfl)
 · exact .run ho hw (h1 _ rfl)
end
section
variable {P : Program} {C : Ctx}
theorem WK.cutI {ι : Type} (S : ι → St) (I : ι → Prop) {k k' : List Item} {st : St} (h : (∀ i, I i → WK P C k' (S i)) → WK P C k st) (h' : ∀ i, I i → WK P C k' (S i)) : WK P C k st := h h'
end
end Go.AI
end

section
namespace Go.AI
open Go
section
variable {E E' : Env} {G G' : Heap} {w w' : World} {bx bx' : Nat → Box}
theorem Ghost.frzCellP {tm : Nat → AV} {nx : Nat} (n j m off : Nat) {cs cs' : List AV} (hc : bx n = .var cs) (hj : cs[j]? = some (.ptr m off)) (hm : (bx m).cells? = some cs') (hnm : n ≠ m) :
   Ghost (· ≠ m) ⟨tm, bx, nx⟩ ⟨tm, upd (upd bx m .gone) n (.var (cs.set j (.iptr (cs'.drop off)))), nx⟩ := by
 intro C a w E G _ h
 obtain ⟨G', h1, h2, h3, h4, _⟩ := frz h.ok hm
 have htm : ∀ t, Rel E G (tm t) (a.tmps.getD t undef) := h.tm
 have hc' : (upd bx m .gone) n = .var cs := by rw [upd_ne _ _ _ _ hnm]; exact hc
 have hlv : ∀ b, Live (upd (upd bx m .gone) n (.var (cs.set j (.iptr (cs'.drop off))))) E b → Live (upd bx m .gone) E b := fun b hb => Live.recell hc' hb
 have hr : ∀ vs, RelL E G' cs vs → RelL E G' (cs.set j (.iptr (cs'.drop off))) vs := fun vs g => RelL.set g fun v hv => by
   obtain ⟨u, hu, hr⟩ := g.get hj
   rw [hv] at hu; simp only [Option.some.injEq] at hu; subst hu
   exact h4 off v (by simpa only [Rel] using hr)
 exact ⟨E, G', h.size, fun t => (htm t).mono (.refl _) h1, h.df, h2.recell hc' hr, (h.ext.trans h3).less hlv, keep_less (keep_ext h.keep h3) hlv, fun p hp hf => h3.env _ _ (h.an p hp hf) hf, h.ms⟩
end
end Go.AI
end

section
namespace Go.AI
open Go
section
variable {κ : Type} [DecidableEq κ] {kv : κ → Value} {ke : κ → AV} {c : Nat} {es : List (κ × Int)} {k : κ}
def mpAt (es : List (κ × Int)) (k : κ) : Nat := match mpLook es k with | some (j, _) => j | none => es.length
def mpIn (es : List (κ × Int)) (k : κ) : List (κ × Int) := match mpLook es k with | some _ => es | none => es ++ [(k, 0)]
theorem mpAt_lt (es : List (κ × Int)) (k : κ) : mpAt es k < (mpIn es k).length := by
 unfold mpAt mpIn
 cases h : mpLook es k with
 | none => simp
 | some q => exact (mpLook_some h).1
theorem mpPut_in (es : List (κ × Int)) (k : κ) (v : Int) : (mpIn es k).modify (mpAt es k) (fun x => (x.1, v)) = mpPut es k v := by
 unfold mpAt mpIn
 cases h : mpLook es k with
 | some q => rw [mpPut_some (j := q.1) (u := q.2) h]
 | none =>
   rw [mpPut_none h]
   simp only
   clear h
   induction es with
   | nil => rfl
   | cons x t ih => rw [List.cons_append, List.length_cons, List.modify_succ_cons, ih, List.cons_append]
theorem mpSeen_in (ks : List κ) (j : κ) : ∃ c : Nat, mpVal (mpSeen ks) j = c ∧ (0 < c ↔ j ∈ ks) ∧ c ≤ ks.length := ⟨_, mpSeen_val ks j, List.count_pos_iff, List.count_le_length⟩
variable {P : Program} {E E' : Env} {G G' : Heap} {w w' : World} {ρ : Operand → AV} {a : Act} {bx : Nat → Box}
theorem run_mapEntry {t kt vt : TypeId} {r : Nat} (hm : P.underlying t = some (.map kt vt)) (hk : KeyOk P kt kv) (hz : (zeroValue vt).run P w = .ok (.int .i64 0) w) (hb : w.heap[r]? = some (mpObjK kv c es)) :
   (Instr.mapEntry t (.map (some r)) (kv k)).run P w = .ok (.tuple #[.int .i64 (mpVal es k), goInt ((c + mpAt es k : Nat) : Int)]) { w with heap := w.heap.setIfInBounds r (mpObjK kv c (mpIn es k)) } := by
 have hf := hk.find k c es w
 unfold mpObjK at hb
 cases hl : mpLook es k with
 | none =>
   rw [hl] at hf
   have e : (mpFrom kv c es).toArray.push { key := kv k, val := .int .i64 0, born := c + es.length } = (mpFrom kv c (es ++ [(k, 0)])).toArray := by rw [mpFrom_app]; simp
   simp only [Instr.mapEntry, Sem.run_bind, run_underlying hm, MapKept.run_getObj_map hb, hk.chk, hf, Result.andThen, Option.map_none, hz, MapKept.run_setObj_map _ hb, Sem.run_pure, mpVal, mpAt, mpIn, hl, e, mpObjK, List.length_append, List.length_singleton, Nat.add_assoc]
 | some q =>
   obtain ⟨j, v⟩ := q
   rw [hl] at hf
   obtain ⟨hj, he⟩ := mpLook_some hl
   have hg : (mpFrom kv c es).toArray[j]? = some { key := kv k, val := .int .i64 v, born := c + j } := by
     have := mpFrom_get (kv := kv) es c j hj
     rw [he] at this
     simpa using this
   have hmod : ((mpFrom kv c es).toArray.modify j fun e => { e with key := kv k }) = (mpFrom kv c es).toArray := by
     apply Array.ext_getElem?
     intro i
     rw [Array.getElem?_modify]
     split
     · rename_i h; subst h; rw [hg]; rfl
     · rfl
   simp only [Instr.mapEntry, Sem.run_bind, run_underlying hm, MapKept.run_getObj_map hb, hk.chk, hf, Result.andThen, hg, Option.map_some, Option.getD_some, hk.stay, hmod, MapKept.run_setObj_map _ hb, Sem.run_pure, mpVal, mpAt, mpIn, hl, mpObjK]
omit [DecidableEq κ] in
theorem mpFrom_born (es : List (κ × Int)) : ∀ (i j : Nat), j < es.length → (mpFrom kv i es).findIdx? (fun e => (e.born : Int) == ((i + j : Nat) : Int)) = some j := by
 induction es with
 | nil => intro i j h; simp at h
 | cons x t ih =>
   intro i j h
   rw [mpFrom, List.findIdx?_cons]
   cases j with
   | zero => simp
   | succ j =>
     have : (((i : Nat) : Int) == ((i + (j + 1) : Nat) : Int)) = false := by rw [beq_eq_false_iff_ne]; omega
     simp only [this, Bool.false_eq_true, if_false]
     have e : i + (j + 1) = (i + 1) + j := by omega
     rw [e, ih (i + 1) j (by simpa using h)]
     rfl
theorem run_entryStore {t : TypeId} {v : Int} {r j : Nat} (hj : j < es.length) (hb : w.heap[r]? = some (mpObjK kv c es)) :
   (Instr.entryStore t (.map (some r)) (goInt ((c + j : Nat) : Int)) (.int .i64 v)).run P w = .ok () { w with heap := w.heap.setIfInBounds r (mpObjK kv c (es.modify j fun x => (x.1, v))) } := by
 unfold mpObjK at hb
 have h1 := mpFrom_born (kv := kv) es c j hj
 have h2 := mpFrom_set (kv := kv) v es c j hj
 have h1' : (mpFrom kv c es).toArray.findIdx? (fun e => (e.born : Int) == ((c + j : Nat) : Int)) = some j := by simpa using h1
 have h2' : ((mpFrom kv c es).toArray.modify j fun e => { e with val := .int .i64 v }) = (mpFrom kv c (es.modify j fun x => (x.1, v))).toArray := by
   apply Array.toList_inj.1; simpa using h2
 simp only [Instr.entryStore, Sem.run_bind, MapKept.run_getObj_map hb, Result.andThen, goInt, asInt, asIntOf, Sem.run_pure, h1', h2', MapKept.run_setObj_map _ hb, mpObjK, List.length_modify]
theorem Mems.mapEntry {o : Oper} {t : TypeId} {mo ko : Operand} {n : Nat} (ho : o.op = .mapEntry t mo ko) (hok : MpOkK P t kv ke) (hm : ρ mo = .mv n) (hk : ρ ko = ke k) (hbn : bx n = .obj (mpObjK kv c es)) :
   Mems P ρ bx o (.tup [.int .i64 (mpVal es k), .int .i64 ((c + mpAt es k : Nat) : Int)]) (upd bx n (.obj (mpObjK kv c (mpIn es k)))) := by
 intro a w E G hρ hheap K Q hK
 obtain ⟨⟨kt, vt, i, e1, e2, e3, e4⟩, e5⟩ := hok
 have hmv := hρ mo (by simp [ho, Op.operands])
 have hkv := hρ ko (by simp [ho, Op.operands])
 rw [hm] at hmv
 rw [hk] at hkv
 obtain ⟨r, hr, hE⟩ := hheap.mvLoc hmv hbn
 have hkv := e5 _ _ _ _ hkv
 obtain ⟨hb, g1, g2⟩ := hheap.objSet (o' := mpObjK kv c (mpIn es k)) hbn hE rfl rfl
 have hrun : (execOp a.eval o).run P w = .ok (.value (.tuple #[.int .i64 (mpVal es k), goInt ((c + mpAt es k : Nat) : Int)])) { w with heap := w.heap.setIfInBounds r (mpObjK kv c (mpIn es k)) } := by
   simp only [execOp, ho, hr, hkv, Sem.run_bind, run_mapEntry e1 e2 (run_zero e3 e4) hb, Result.andThen_ok, Sem.run_pure]
 refine .inl ?_
 unfold Oper.wp
 rw [hrun]
 refine hK _ _ _ G ?_ g1 g2
 simp only [Rel, RelL]
 exact ⟨_, rfl, _, _, rfl, rfl, _, _, rfl, rfl, rfl⟩
theorem Mems.entryPut {o : Oper} {t : TypeId} {mo so vo : Operand} {n : Nat} {v j : Int} (ho : o.op = .entryStore t mo so vo) (hm : ρ mo = .mv n) (hs : ρ so = .int .i64 j) (hj : j = ((c + mpAt es k : Nat) : Int)) (hv : ρ vo = .int .i64 v)
   (hbn : bx n = .obj (mpObjK kv c (mpIn es k))) : Mems P ρ bx o .junk (upd bx n (.obj (mpObjK kv c (mpPut es k v)))) := by
 intro a w E G hρ hheap K Q hK
 have hmv := hρ mo (by simp [ho, Op.operands])
 have hsv := hρ so (by simp [ho, Op.operands])
 have hvv := hρ vo (by simp [ho, Op.operands])
 rw [hm] at hmv
 rw [hs, hj] at hsv
 rw [hv] at hvv
 obtain ⟨r, hr, hE⟩ := hheap.mvLoc hmv hbn
 simp only [Rel] at hsv hvv
 obtain ⟨hb, g1, g2⟩ := hheap.objSet (o' := mpObjK kv c (mpPut es k v)) hbn hE rfl rfl
 have hrun : (execOp a.eval o).run P w = .ok .skip { w with heap := w.heap.setIfInBounds r (mpObjK kv c (mpPut es k v)) } := by
   have := run_entryStore (P := P) (t := t) (v := v) (mpAt_lt es k) hb
   rw [mpPut_in] at this
   simp only [goInt] at this
   simp only [execOp, ho, hr, hsv, hvv, Sem.run_bind, this, Result.andThen_ok, Sem.run_pure]
 refine .inl ?_
 unfold Oper.wp
 rw [hrun]
 exact hK undef _ E G (by simp [Rel]) g1 g2
end
section
variable {P : Program} {ops : Array Oper} {l : List Oper} {i nx : Nat} {tm : Nat → AV} {bx : Nat → Box} {cl : List Cls} {Q : (Nat → AV) → (Nat → Box) → List Cls → Prop} {o : Oper}
end
section
variable {P : Program} {C : Ctx} {ops : Array Oper} {st : St} {k : List Item}
def edgeB (ops : Array Oper) : Bool := (List.range ops.size).all fun i => match ops[i]? with
 | some o => o.after.toList.all fun e => !Region.binds .any e || Nat.blt e.on i
 | none => true
theorem wpAny_sets {ro : Option Nat} {Q : Exit → Act → World → Prop} (S : (Nat → Bool) → St) (hQo : ∀ a w, ¬ Q .outgrown a w) (hQp : ∀ ch a w, ¬ Q (.panic ch) a w) (hd : DstOk C ops) (hnd : NoDf ops) (hE : edgeB ops = true)
   (hS : ∀ L L' : Nat → Bool, (∀ i, i < ops.size → L i = L' i) → S L = S L')
   (hstep : ∀ (L : Nat → Bool), (∀ j o, ops[j]? = some o → L j = true → ∀ e ∈ o.after, Region.binds .any e = true → L e.on = true) → ∀ (i : Nat) (o : Oper), ops[i]? = some o → L i = false → (∀ e ∈ o.after, Region.binds .any e = true → L e.on = true) → Step1 P ops i (S L) (S (fun j => L j || j == i)))
   (hq : ∀ a w E G, StRel C (S fun _ => true) a w E G → Q .normal a w) :
   ∀ (n : Nat) (listed : Array Bool) (a : Act) (w : World) (E : Env) (G : Heap), listed.size = ops.size → (listed.toList.countP fun b => !b) = n → (∀ j o, ops[j]? = some o → listed.getD j false = true → ∀ e ∈ o.after, Region.binds .any e = true → listed.getD e.on false = true) → StRel C (S fun j => listed.getD j false) a w E G →
     wpAnyIn (wideR ro) 0 P .any ops Q n listed a w := by
 have hfull : ∀ (listed : Array Bool) (a : Act) (w : World) (E : Env) (G : Heap), listed.size = ops.size → (listed.toList.countP fun b => !b) = 0 → StRel C (S fun j => listed.getD j false) a w E G → Q .normal a w := fun listed a w E G hsz hc hst => by
   refine hq a w E G ?_
   rw [hS (fun _ => true) (fun j => listed.getD j false) fun i hi => ?_]
   · exact hst
   · have hi' : i < listed.size := by omega
     rw [List.countP_eq_zero] at hc
     have := hc listed[i] (by simp)
     simp only [Bool.not_eq_true', Bool.not_eq_false, Bool.not_eq_true, Bool.not_eq_false'] at this
     simp [Array.getD_eq_getD_getElem?, hi', this]
 intro n
 induction n with
 | zero =>
   intro listed a w E G hsz hc hD hst
   refine ⟨?_, hfull listed a w E G hsz hc hst⟩
   rw [List.eq_nil_iff_forall_not_mem]
   intro i hi
   obtain ⟨h1, oi, hoi, _⟩ := mem_ready.1 hi
   have hi' : i < listed.size := by
     rcases Nat.lt_or_ge i listed.size with h | h
     · exact h
     · simp [Array.getD_eq_getD_getElem?, Array.getElem?_eq_none h] at h1
   rw [List.countP_eq_zero] at hc
   have := hc listed[i] (by simp)
   simp [Array.getD_eq_getD_getElem?, hi'] at h1
   simp [h1] at this
 | succ n ih =>
   intro listed a w E G hsz hc hD hst
   refine ⟨fun hnil => ?_, fun i hi => ?_⟩
   · exfalso
     -- the first that is not done is ready
     have hex : ∃ i, i < listed.size ∧ listed.getD i false = false := by
       have : 0 < listed.toList.countP fun b => !b := by omega
       rw [List.countP_pos_iff] at this
       obtain ⟨b, hb, hb2⟩ := this
       obtain ⟨i, hi, rfl⟩ := List.mem_iff_getElem.1 hb
       have hi' : i < listed.size := by simpa using hi
       exact ⟨i, hi', by simp [Array.getD_eq_getD_getElem?, hi']; simpa using hb2⟩
     have hmin : ∃ i, (i < listed.size ∧ listed.getD i false = false) ∧ ∀ j, j < i → ¬ (j < listed.size ∧ listed.getD j false = false) := by
       obtain ⟨i, hi⟩ := hex
       induction i using Nat.strongRecOn with
       | _ i ih2 =>
         by_cases hj : ∃ j, j < i ∧ (j < listed.size ∧ listed.getD j false = false)
         · obtain ⟨j, hj1, hj2⟩ := hj
           exact ih2 j hj1 hj2
         · exact ⟨i, hi, fun j hj1 hj2 => hj ⟨j, hj1, hj2⟩⟩
     obtain ⟨i, ⟨hi1, hi2⟩, hi3⟩ := hmin
     have hio : i < ops.size := by omega
     have hoi : ops[i]? = some ops[i] := Array.getElem?_eq_getElem hio
     have : i ∈ Region.ready .any ops listed := mem_ready.2 ⟨by simp [Array.getD_eq_getD_getElem?, hi1] at hi2 ⊢; exact hi2, _, hoi, fun e he hb => by
       have hE' := List.all_eq_true.1 hE i (by simpa using hio)
       rw [hoi] at hE'
       have := List.all_eq_true.1 hE' e (by simpa using he)
       rw [hb] at this
       have hlt : e.on < i := by simpa using this
       have := hi3 e.on hlt
       have h4 : e.on < listed.size := by omega
       cases hv : listed.getD e.on false with
       | true => rfl
       | false => exact absurd ⟨h4, hv⟩ this⟩
     rw [hnil] at this
     cases this
   · obtain ⟨hun, oi, hoi, hall⟩ := mem_ready.1 hi
     have hi' : i < listed.size := by
       rcases Nat.lt_or_ge i listed.size with h | h
       · exact h
       · simp [Array.getD_eq_getD_getElem?, Array.getElem?_eq_none h] at hun
     have hli : listed[i] = false := by simpa [Array.getD_eq_getD_getElem?, hi'] using hun
     have hs := hstep (fun j => listed.getD j false) hD i oi hoi (by simp [Array.getD_eq_getD_getElem?, hi', hli]) hall
     refine hs.sound hd hnd hst hQo hQp fun a' w' E' G' hst' => ih (listed.setIfInBounds i true) a' w' E' G' (by simpa using hsz) ?_ (fun j o ho hl e he hb => ?_) ?_
     · have e1 : (listed.setIfInBounds i true).toList = listed.toList.set i true := by simp
       rw [e1]
       have hlt : i < listed.toList.length := by simpa using hi'
       have := List.countP_set (p := fun b => !b) (l := listed.toList) (i := i) (a := true) hlt
       rw [this, hc]
       simp [hli]
     · have mono : ∀ x, listed.getD x false = true → (listed.setIfInBounds i true).getD x false = true := fun x hx => by
         have hxl : x < listed.size := by
           rcases Nat.lt_or_ge x listed.size with h | h
           · exact h
           · simp [Array.getD_eq_getD_getElem?, Array.getElem?_eq_none h] at hx
         by_cases e : i = x
         · subst e; simp [Array.getD_eq_getD_getElem?, hxl]
         · simpa [Array.getD_eq_getD_getElem?, hxl, Array.getElem?_setIfInBounds, e] using hx
       by_cases e' : j = i
       · subst e'
         rw [hoi] at ho; simp only [Option.some.injEq] at ho; subst ho
         exact mono _ (hall e he hb)
       · refine mono _ (hD j o ho ?_ e he hb)
         have e2 : ¬ i = j := fun h => e' h.symm
         have hjl : j < listed.size := by
           rcases Nat.lt_or_ge j listed.size with h | h
           · exact h
           · simp [Array.getD_eq_getD_getElem?, h] at hl
         simpa [Array.getD_eq_getD_getElem?, hjl, Array.getElem?_setIfInBounds, e2] using hl
     · rw [hS (fun j => (listed.setIfInBounds i true).getD j false) (fun j => listed.getD j false || j == i) fun j hj => ?_]
       · exact hst'
       · have hj' : j < listed.size := by omega
         by_cases e : j = i
         · subst e; simp [Array.getD_eq_getD_getElem?, hj']
         · have e' : i ≠ j := fun h => e h.symm
           simp [Array.getD_eq_getD_getElem?, hj', Array.getElem?_setIfInBounds, e', e]
theorem WK.drawS {id n : Nat} (S : (Nat → Bool) → St) (hm : P.follows .mixedOrders = true) (hn : C.fn.ntmps = n) (hd : dstB n ops = true) (hE : edgeB ops = true)
   (h0 : S (fun _ => false) = ⟨st.tm, st.bx, 0⟩) (hS : ∀ L L' : Nat → Bool, (∀ i, i < ops.size → L i = L' i) → S L = S L')
   (hstep : ∀ (L : Nat → Bool), (∀ j o, ops[j]? = some o → L j = true → ∀ e ∈ o.after, Region.binds .any e = true → L e.on = true) → ∀ (i : Nat) (o : Oper), ops[i]? = some o → L i = false → (∀ e ∈ o.after, Region.binds .any e = true → L e.on = true) → Step1 P ops i (S L) (S (fun j => L j || j == i)))
   (h : WK P C k (S fun _ => true)) : WK P C (.code (.region id ops true) :: k) st := by
 refine WK.of_wp fun a w E G hst => wpIn_region_any hm ?_
 have hst' : StRel C (S fun j => (Array.replicate ops.size false).getD j false) a { w with drawn := w.drawn + 1 } E G := by
   rw [hS _ (fun _ => false) fun i hi => by simp [Array.getD_eq_getD_getElem?, hi], h0]
   refine ⟨hst.size, hst.tm, hst.df, ⟨hst.ok.gw, fun n => ?_, hst.ok.sep, hst.ok.off⟩, ⟨hst.ext.os, hst.ext.tape, hst.ext.output, hst.ext.fz, hst.ext.size, hst.ext.heap, hst.ext.frame, hst.ext.newb⟩, hst.keep, hst.an, hst.ms⟩
   exact BoxOk.mono (w := w) (.refl _) (.refl _) (Nat.le_refl _) (fun _ _ _ _ _ => ⟨rfl, rfl⟩) (hst.ok.box n)
 refine wpAny_sets S (fun _ _ h => by cases h.1) (fun _ _ _ h => by cases h.1) (dstB_ok (hn ▸ hd)) (dstB_nd hd) hE hS hstep (fun a w E G hs => ⟨rfl, _, E, G, hs, h⟩) ops.size _ a _ E G (by simp) (by rw [Array.toList_replicate, List.countP_replicate]; simp) (fun j o ho hl => by
   exfalso
   simp [Array.getD_eq_getD_getElem?, Array.getElem?_replicate] at hl
   split at hl <;> simp at hl) hst'
end

def kvP (p : Int × Int) : Value := .agg #[.int .i64 p.1, .int .i64 p.2]
def keP (p : Int × Int) : AV := .agg [.int .i64 p.1, .int .i64 p.2]
theorem keP_rel {E : Env} {G : Heap} {p : Int × Int} {v : Value} (h : Rel E G (keP p) v) : v = kvP p := by
 simp only [keP, Rel, RelL] at h
 obtain ⟨vs, rfl, ⟨u, us, rfl, rfl, x, xs, rfl, rfl, rfl⟩, _⟩ := h
 rfl
theorem KeyOk.pair {P : Program} {kt : TypeId} {f1 f2 : Field} (h1 : P.underlying kt = some (.struct #[f1, f2])) (h2 : P.underlying f1.type = some (.int .i64)) (h3 : P.underlying f2.type = some (.int .i64)) (h4 : f1.offset = 0) (h5 : f2.offset = 1)
   (h6 : flatT P kt = some [false, false]) : KeyOk P kt kvP := by
 have hag : (td P kt).agg = true := by rw [td_none_of h1]; rfl
 have heq : ∀ (p q : Int × Int) w, (Op.equal kt (kvP p) (kvP q)).run P w = .ok (decide (p = q)) w := fun p q w => by
   unfold flatT at h6
   split at h6
   · cases h6
   have hr : ∀ p : Int × Int, RelL E0 (fun _ _ => none) [AV.int .i64 p.1, AV.int .i64 p.2] [Value.int .i64 p.1, Value.int .i64 p.2] := fun p => by simp [RelL, Rel]
   have hfe := flat_eq (P := P) 9 kt _ h6 Op.maxDepth (by unfold Op.maxDepth; omega) _ _ _ _ (decide (p = q)) (hr p) (hr q) (by
     obtain ⟨p1, p2⟩ := p
     obtain ⟨q1, q2⟩ := q
     simp [eqK]
     rw [Bool.eq_iff_iff]
     simp) w
   simp only [mkV, hag, if_true] at hfe
   exact hfe
 have hchk : ∀ e n w k, (Instr.checkKey e (n + 2) kt (kvP k)).run P w = .ok () w := fun e n w k => by
   have c1 : ∀ v, (Instr.checkKey e (n + 1) f1.type (.int .i64 v)).run P w = .ok () w := fun v => MapKept.run_checkKey h2 (show MapKept.IsKey (.int .i64) (.int .i64 v) from rfl) e n
   have c2 : ∀ v, (Instr.checkKey e (n + 1) f2.type (.int .i64 v)).run P w = .ok () w := fun v => MapKept.run_checkKey h3 (show MapKept.IsKey (.int .i64) (.int .i64 v) from rfl) e n
   have p1 : (part f1.type #[.int .i64 k.1, .int .i64 k.2] f1.offset).run P w = .ok (.int .i64 k.1) w := by
     rw [h4]; unfold part; simp [run_isAgg (show td P f1.type ≠ .none by rw [td_none_of h2]; simp [tdOf]), td_none_of h2, tdOf, TD.agg]
   have p2 : (part f2.type #[.int .i64 k.1, .int .i64 k.2] f2.offset).run P w = .ok (.int .i64 k.2) w := by
     rw [h5]; unfold part; simp [run_isAgg (show td P f2.type ≠ .none by rw [td_none_of h3]; simp [tdOf]), td_none_of h3, tdOf, TD.agg]
   unfold Instr.checkKey kvP
   by_cases e1 : f1.name = "_" <;> by_cases e2 : f2.name = "_" <;> simp [run_underlying h1, p1, p2, c1, c2, e1, e2]
 refine ⟨fun e w k => hchk e 9998 w k, fun k c es w => ?_, fun k w => ?_⟩
 · have key : ∀ (es : List ((Int × Int) × Int)) (i n : Nat), (Instr.findAsking kt (kvP k) (mpFrom kvP i es) n).run P w = .ok ((mpLook es k).map fun x => (n + x.1, .int .i64 x.2)) w := by
     intro es
     induction es with
     | nil => intro i n; rfl
     | cons x t ih =>
       intro i n
       rw [mpFrom, Instr.findAsking, mpLook]
       by_cases h : k = x.1
       · simp [heq, h]
       · simp [heq, h, ih]
         cases mpLook t k with
         | none => rfl
         | some q => simp; omega
   unfold Instr.findKey
   cases es with
   | nil => simp [run_underlying h1, mpFrom, Instr.findNow, mpLook]
   | cons x t =>
     have hnow : Instr.findNow (.struct #[f1, f2]) (kvP k) (mpFrom kvP c (x :: t)) 0 = none := by
       rw [mpFrom, Instr.findNow]
       simp [Instr.sameNow]
     have := key (x :: t) c 0
     simp only [Sem.run_bind, run_underlying h1, Result.andThen_ok, hnow, this]
     simp
 · simp [Instr.keyThatStays, kvP, Instr.sameBits]
end Go.AI
end

section
namespace Go.AI
open Go Go.Proofs Go.Sort Go.RowKit Go.Shelf
section
variable {P : Program} {E : Env} {G : Heap} {w : World} {bx : Nat → Box}
theorem grown_heap {os : Array Obj} {n b : Nat} (h : b < w.heap.size) : (grow (Sort.ahead w n) os).heap[b]? = w.heap[b]? := by
 simp only [grow, Sort.ahead, Array.getElem?_append, h, if_true]
theorem HeapOk.grown (h : HeapOk bx E G w) (n : Nat) (os : Array Obj) : HeapOk bx E G (grow (Sort.ahead w n) os) ∧ Ext bx E G w bx E G (grow (Sort.ahead w n) os) := by
 have hs : w.heap.size ≤ (grow (Sort.ahead w n) os).heap.size := by simp [grow, Sort.ahead]
 refine ⟨⟨fun b o v hg => ?_, fun m => ?_, h.sep, fun b hb => ⟨Nat.lt_of_lt_of_le (h.off b hb).1 hs, (h.off b hb).2⟩⟩, rfl, rfl, rfl, fun a ha => ?_, hs, .refl _, .refl _, fun b hb _ => ⟨grown_heap hb, rfl⟩, fun b hb => .inr hb⟩
 · have := h.gw b o v hg
   rw [cell_of_heap (grown_heap (cell_lt this))]; exact this
 · exact (h.box m).mono (.refl _) (.refl _) hs fun l b hl hb hc => ⟨grown_heap (h.off b ⟨m, l, hc, hl, hb⟩).1, rfl⟩
 · simp only [World.frozen?, grown_heap ha]
theorem relL_ints : ∀ (zs : List Int) (vs : List Value), RelL E G (zs.map (AV.int .i64)) vs → vs = zs.map (Value.int .i64)
 | [], vs, h => by simpa [RelL] using h
 | z :: zs, vs, h => by
   simp only [List.map_cons, RelL, Rel] at h
   obtain ⟨v, us, rfl, rfl, h2⟩ := h
   rw [relL_ints zs us h2, List.map_cons]
theorem ints_relL : ∀ zs : List Int, RelL E G (zs.map (AV.int .i64)) (zs.map (Value.int .i64))
 | [] => by simp [RelL]
 | z :: zs => by
   simp only [List.map_cons, RelL, Rel]
   exact ⟨_, _, rfl, rfl, ints_relL zs⟩
theorem ints_ones (zs : List Int) : Ones (zs.map (Value.int .i64)) := fun v hv => by
 rw [List.mem_map] at hv
 obtain ⟨z, _, rfl⟩ := hv
 rfl
theorem putRow_ints {zs d : List Int} {rest : List Value} {blk : Nat} {T : TypeId} (hb : w.heap[blk]? = some (.cells (zs.map (Value.int .i64) ++ rest).toArray T (0, 0))) (hd : d.length = zs.length) :
   putRow (Value.int .i64) w blk 0 d.toArray = w.setRow blk (d.map (Value.int .i64) ++ rest).toArray := by
 unfold putRow
 rw [mapBlock_congr w blk (putCells (Value.int .i64) 0 d.toArray) (fun _ => (d.map (Value.int .i64) ++ rest).toArray)]
 · rfl
 · intro c e fr h
   rw [hb] at h
   simp only [Option.some.injEq, Obj.cells.injEq] at h
   obtain ⟨rfl, _, _⟩ := h
   apply Array.ext_getElem?
   intro k
   simp only [putCells, Array.getElem?_mapIdx, List.getElem?_toArray, List.size_toArray, Nat.zero_add, Nat.zero_le, true_and, Nat.sub_zero, List.getElem?_append, List.length_map, hd]
   by_cases hk : k < zs.length
   · have hk' : k < d.length := by omega
     simp [hk, hk']
   · simp [hk]
theorem FnB.sortInt {ρ : Go.Shelf.Ren} (Ly : Lays.n189 P ρ) (hc : Callable P (ρ.f 189)) (zs : List Int) (hl : zs.length ≤ 1000000) :
   FnB P (ρ.f 189) [.msl 0 0 zs.length] (.buf 1 (zs.map (AV.int .i64))) (.tup []) (.buf 1 ((zs.mergeSort fun x y => decide (x ≤ y)).map (AV.int .i64))) := by
 refine ⟨hc, fun w G l vs hok hr => ?_⟩
 simp only [RelL, Rel] at hr
 obtain ⟨v, us, rfl, hv, rfl⟩ := hr
 have hbox := hok.box 0
 simp only [upd_same, setE, if_true] at hbox
 rcases hv with ⟨blk, cap, rfl, h1, h2, h3⟩ | ⟨h3, _, hz, a, rfl⟩
 · simp only [setE, if_true, Option.some.injEq] at h3
   rcases h3 with ⟨sz, tot, rfl, _⟩ | rfl
   · simp only [BoxOk] at hbox
     obtain ⟨rfl, us, rest, T, hb, hrel, hones, hlen⟩ := hbox
     have := relL_ints _ _ hrel
     subst this
     have hblk := (Array.getElem?_eq_some_iff.1 hb).1
     have hH : Holds (Value.int .i64) w blk 0 zs.toArray := fun j hj => by
       have hj' : j < zs.length := by simpa using hj
       refine ⟨?_, ?_⟩
       · simp only [World.cell?, hb, Nat.zero_add]
         simp [List.getElem?_append, hj']
       · simp [World.frozen?, hb]
     have hcall := Any.slices_Sort_int Ly blk 0 cap zs w hH hblk (by omega)
     refine hcall.mono fun e w' ⟨he, n, os, hw⟩ => ?_
     obtain ⟨D, hD⟩ : ∃ D, zs.mergeSort (fun x y => decide (x ≤ y)) = D := ⟨_, rfl⟩
     have hDl : D.length = zs.length := by rw [← hD]; exact List.length_mergeSort _
     rw [hD] at hw ⊢
     have hset := hok.set (n := 0) (blk := blk) (l := .buf blk 1 tot) (arr := (D.map (Value.int .i64) ++ rest).toArray) (c' := .buf 1 (D.map (AV.int .i64))) (by simp [Box.live]) rfl (by simp [setE]) rfl (by
       unfold BoxOk
       refine ⟨rfl, D.map (Value.int .i64), rest, T, setRow_heap w blk _ _ T (0, 0) hb, ints_relL D, ints_ones D, ?_⟩
       simp only [List.length_append, List.length_map] at hlen ⊢
       omega)
     rw [upd_upd] at hset
     obtain ⟨k1, k2⟩ := hset
     rw [← putRow_ints hb hDl] at k1 k2
     obtain ⟨k3, k4⟩ := k1.grown n os
     rw [show putRow (Value.int .i64) (Sort.ahead w n) blk 0 D.toArray = Sort.ahead (putRow (Value.int .i64) w blk 0 D.toArray) n from rfl] at hw
     rw [← hw] at k3 k4
     exact ⟨_, G, _, he, ⟨[], rfl, by simp [RelL]⟩, k3, k2.trans k4⟩
   · simp [BoxOk] at hbox
 · simp only [setE, if_true, Option.some.injEq] at h3
   subst h3
   have hz' : zs = [] := List.eq_nil_of_length_eq_zero hz
   subst hz'
   have hcall := Any.slices_Sort_int_none Ly a 0 w
   refine hcall.mono fun e w' ⟨he, hw⟩ => ?_
   subst hw
   simp only [List.mergeSort_nil]
   exact ⟨_, G, _, he, ⟨[], rfl, by simp [RelL]⟩, hok, .refl _ _ _ _⟩
end
end Go.AI
end

section
namespace Go.AI
open Go
section
variable {P : Program} {ρ : Operand → AV} {bx : Nat → Box} {o : Oper} {ops : Array Oper} {cf : Oper → Cls} {l : List Oper} {i nx : Nat} {tm : Nat → AV} {Q : (Nat → AV) → (Nat → Box) → Prop}
theorem Mems.makeFz {t e : TypeId} {xo yo : Operand} {s by_ n c : Nat} {k k' : IntKind} {nm : Nat} (ho : o.op = .makeSlice t xo yo) (hok : AppOk P t e s by_)
   (hx : ρ xo = .int k n) (hy : ρ yo = .int k' c) (hnc : n ≤ c) (hbound : by_ * c ≤ 140737488355328) (hnm : bx nm = .none) : Mems P ρ bx o (.sl false n ((List.replicate n (zr P e).cells).flatten.take (n * s))) (upd bx nm .gone) := by
 intro a w E G hρ hheap K Q hK
 refine Mems.make ho hok hx hy hnc hbound hnm a w E G hρ hheap K Q fun v w' E' G' hr hok' hE => ?_
 obtain ⟨G2, h1, h2, h3, _, h4⟩ := Go.AI.frz (n := nm) (cs := (List.replicate n (zr P e).cells).flatten) hok' (by simp [Box.cells?])
 rw [upd_upd] at h2 h3
 have := h4 0 n s v hr (.inr rfl)
 rw [List.drop_zero] at this
 exact hK v w' E' G2 this h2 (hE.trans h3)
theorem RunQ.makeFz {t e : TypeId} {xo yo : Operand} {s by_ n c : Nat} {k k' : IntKind} (nm : Nat) (hok : AppOk P t e s by_) (ho : o.op = .makeSlice t xo yo) (hw : wantedA ops tm o = some true) (hcf : cf o = .w)
   (hx : evA tm xo = .int k n) (hy : evA tm yo = .int k' c) (hnc : n ≤ c) (hbound : by_ * c ≤ 140737488355328) (hnm : bx nm = .none)
   (h : RunQ P ops cf l (i + 1) (putA tm o.dst (.sl false n ((List.replicate n (zr P e).cells).flatten.take (n * s)))) (upd bx nm .gone) nx Q) : RunQ P ops cf (o :: l) i tm bx nx Q :=
 RunQ.mem hw hcf (Mems.makeFz ho hok hx hy hnc hbound hnm) h
end
end Go.AI
end
