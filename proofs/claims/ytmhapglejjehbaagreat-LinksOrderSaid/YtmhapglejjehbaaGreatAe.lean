/- A part of our proof. -/
import Derived.Test.YtmhapglejjehbaaGreatAd
import Derived.Laws.MakeOwn
set_option linter.all false
set_option linter.unnecessarySimpa false
section
namespace Go.AI
def takenF (go : Nat → Bool) : Nat → Nat → Nat
 | 0, i => i
 | f + 1, i => if go i then takenF go f (i + 1) else i + 1
def taken (go : Nat → Bool) (n : Nat) : Nat := takenF go n 0
theorem takenF_all {go : Nat → Bool} : ∀ (f i : Nat), (∀ j, i ≤ j → j < i + f → go j = true) → takenF go f i = i + f
 | 0, i, _ => rfl
 | f + 1, i, h => by
   simp only [takenF, h i (Nat.le_refl _) (by omega), if_true]
   rw [takenF_all f (i + 1) fun j h1 h2 => h j (by omega) (by omega)]; omega
theorem taken_all {go : Nat → Bool} {n : Nat} (h : ∀ j, j < n → go j = true) : taken go n = n := by
 unfold taken; rw [takenF_all n 0 fun j _ h2 => h j (by omega)]; omega
theorem takenF_stop {go : Nat → Bool} : ∀ (f i k : Nat), (∀ j, i ≤ j → j < k → go j = true) → go k = false → i ≤ k → k < i + f → takenF go f i = k + 1
 | 0, i, k, _, _, _, _ => by omega
 | f + 1, i, k, h, hk, h1, h2 => by
   by_cases hik : i = k
   · subst hik; simp [takenF, hk]
   · simp only [takenF, h i (Nat.le_refl _) (by omega), if_true]
     exact takenF_stop f (i + 1) k (fun j g1 g2 => h j (by omega) g2) hk (by omega) (by omega)
theorem taken_stop {go : Nat → Bool} {n k : Nat} (h : ∀ j, j < k → go j = true) (hk : go k = false) (hn : k < n) : taken go n = k + 1 :=
 takenF_stop n 0 k (fun j _ h2 => h j h2) hk (by omega) (by omega)
theorem taken_le (go : Nat → Bool) (n : Nat) : taken go n ≤ n := by
 have : ∀ f i, takenF go f i ≤ i + f := by
   intro f
   induction f with
   | zero => intro i; exact Nat.le_refl _
   | succ f ih => intro i; simp only [takenF]; split; have := ih (i + 1); omega; omega
 have := this n 0
 unfold taken; omega
theorem taken_spec (go : Nat → Bool) (n : Nat) : (taken go n = n ∧ ∀ j, j < n → go j = true) ∨ ∃ k, k < n ∧ taken go n = k + 1 ∧ go k = false ∧ ∀ j, j < k → go j = true := by
 by_cases h : ∀ j, j < n → go j = true
 · exact .inl ⟨taken_all h, h⟩
 · right
   have : ∃ k, k < n ∧ go k = false := by
     apply Classical.byContradiction
     intro h2
     apply h
     intro j hj
     cases hg : go j with
     | true => rfl
     | false => exact absurd ⟨j, hj, hg⟩ h2
   have key : ∀ m, (∃ k, k < m ∧ go k = false) → ∃ k, k < m ∧ go k = false ∧ ∀ j, j < k → go j = true := by
     intro m
     induction m with
     | zero => rintro ⟨k, hk, _⟩; omega
     | succ m ih =>
       rintro ⟨k, hk, hg⟩
       by_cases h3 : ∃ k, k < m ∧ go k = false
       · obtain ⟨q, q1, q2, q3⟩ := ih h3
         exact ⟨q, by omega, q2, q3⟩
       · refine ⟨k, hk, hg, fun j hj => ?_⟩
         cases hgj : go j with
         | true => rfl
         | false => exact absurd ⟨j, by omega, hgj⟩ h3
   obtain ⟨k, h1, h2, h3⟩ := key n this
   exact ⟨k, h1, taken_stop h3 h2 h1, h2, h3⟩
def Works (P : Program) (l : Nat) (Y : FSpec) (xs : List (List AV)) (go : Nat → Bool) : Prop :=
 ∀ (i : Nat) (x : List AV), xs[i]? = some x → (∀ j, j < i → go j = true) → ∀ (w : World) (G : Heap) (own : Nat → Prop) (vs : List Value), HeapOk (upd B0 0 (.frn Y i)) (setE E0 0 (.set own)) G w → RelL E0 G x vs →
   ∃ (f : FuncId) (tmps : Array Value) (asg body : Code), (Instr.yield l vs.toArray).run P w = .ok (.round l f tmps asg body) w ∧ ∀ (c : Frame) (cs : List Frame), ∃ (w' : World) (G' : Heap) (own' : Nat → Prop),
     Steps P (lone (Frame.round l f tmps asg body .normal) (c :: cs) w) (lone (c.finish (.bool (go i))) cs w') ∧ HeapOk (upd B0 0 (.frn Y (i + 1))) (setE E0 0 (.set own')) G' w' ∧
     Ext (upd B0 0 (.frn Y i)) (setE E0 0 (.set own)) G w (upd B0 0 (.frn Y (i + 1))) (setE E0 0 (.set own')) G' w'
def FnSeq (P : Program) (f : FuncId) (caps : List AV) (xs : List (List AV)) : Prop :=
 Callable P f ∧ ∀ (l : Nat) (Y : FSpec) (go : Nat → Bool), Works P l Y xs go → FnB P f (.yv l :: caps) (.frn Y 0) (.tup []) (.frn Y (taken go xs.length))
section
variable {P : Program} {E E' : Env} {G G' : Heap} {w w' : World} {ρ : Operand → AV} {a : Act} {bx : Nat → Box} {C : Ctx} {st st' : St}
theorem BoxOk.frn_loc {Y : FSpec} {i : Nat} {l : Loc} (h : BoxOk E G w (.frn Y i) (some l)) : ∃ own, l = .set own := by
 cases l <;> simp only [BoxOk] at h
 exact ⟨_, rfl⟩
theorem Mems.yield {o : Oper} {c : Call} {fo : Operand} {l i : Nat} {Y : FSpec} {xs : List (List AV)} {x : List AV} {go : Nat → Bool} (n : Nat) (ho : o.op = .call c) (hc : c.callee = .value fo) (hf : ρ fo = .yv l)
   (hW : Works P l Y xs go) (hb : bx n = .frn Y i) (hx : xs[i]? = some x) (hgo : ∀ j, j < i → go j = true) (hle : LeL (c.args.toList.map ρ) x) (hcl : ClL x = true) :
   Mems P ρ bx o (.bool (go i)) (upd bx n (.frn Y (i + 1))) := by
 intro a w E G hρ hok K Q hk
 have hfo := hρ fo (by simp [ho, Op.operands, Call.operands, hc])
 rw [hf] at hfo
 simp only [Rel] at hfo
 have hargs : RelL E G (c.args.toList.map ρ) (c.args.toList.map a.eval) := relL_ops fun y hy => hρ y (by simp [ho, Op.operands, Call.operands]; exact .inr (by simpa using hy))
 have hln : (bx n).live = true := by rw [hb]; rfl
 obtain ⟨l0, hE⟩ := hok.loc hln
 have hbox := hok.box n
 rw [hb, hE] at hbox
 obtain ⟨own, rfl⟩ := hbox.frn_loc
 obtain ⟨g1, _⟩ := hok.give (b := .frn Y i) hE (by simp [hb]) rfl
 obtain ⟨f, tmps, asg, body, hy, hround⟩ := hW i x hx hgo w G own _ g1 ((hle _ _ _ hargs).closed _ _ hcl)
 have hrun : (execOp a.eval o).run P w = .ok (.round l f tmps asg body) w := by
   have e1 : c.args.map a.eval = (c.args.toList.map a.eval).toArray := by apply Array.ext'; simp
   simp only [execOp, ho, resolve, hc, hfo, Deferred.ofValue, Sem.run_bind, Sem.run_pure, Result.andThen_ok, invoke, Array.empty_append, Array.append_empty, e1]
   exact hy
 refine .inr ⟨_, _, _, _, _, hrun, fun cf cs => ?_⟩
 obtain ⟨w', G', own', hs, g2, g3⟩ := hround cf cs
 obtain ⟨l', e1, g4, g5⟩ := hok.back (b' := .frn Y (i + 1)) hE hln rfl rfl g2 g3
 exact ⟨_, w', hk _ w' _ G' (by simp [Rel]) g4 g5, hs⟩
end
end Go.AI
end

section
namespace Go.AI
section
variable {P : Program} {E E' : Env} {G G' : Heap} {w w' : World} {ρ : Operand → AV} {a : Act} {bx : Nat → Box} {C : Ctx} {st st' : St}
structure PartOk (bx : Nat → Box) (E : Env) (G : Heap) (w : World) : Prop where
 box : ∀ n, BoxOk E G w (bx n) (E n)
 sep : ∀ n m l k b, (bx n).live = true → (bx m).live = true → E n = some l → E m = some k → l.has b → k.has b → n = m
 off : ∀ b, Live bx E b → b < w.heap.size ∧ ∀ o, G b o = none
theorem HeapOk.part (h : HeapOk bx E G w) : PartOk bx E G w := ⟨h.box, h.sep, h.off⟩
theorem PartOk.full (h : PartOk bx E G w) (hg : GW G w) : HeapOk bx E G w := ⟨hg, h.box, h.sep, h.off⟩
theorem PartOk.mono (h : PartOk bx E G w) (hg : HeapLe G G') (hs : w.heap.size ≤ w'.heap.size) (hw : ∀ b, Live bx E b → w'.heap[b]? = w.heap[b]? ∧ G' b = G b) : PartOk bx E G' w' :=
 ⟨fun n => (h.box n).mono (.refl _) hg hs fun l b hl hb hc => hw b ⟨n, l, hc, hl, hb⟩, h.sep, fun b hb => ⟨Nat.lt_of_lt_of_le (h.off b hb).1 hs, by rw [(hw b hb).2]; exact (h.off b hb).2⟩⟩
def recAt (rc : Loop) (go : Nat → Bool) (jmp : Nat → Option Code) : Nat → Loop
 | 0 => { rc with state := .ready, pending := none }
 | i + 1 => if go i then { rc with state := .ready, pending := none } else { rc with state := .done, pending := jmp i }
def jumpAt (go : Nat → Bool) (jmp : Nat → Option Code) : Nat → Option Code
 | 0 => none
 | i + 1 => if go i then none else jmp i
def busy (rc : Loop) : Loop := { rc with state := .busy, pending := none }
def loopY (E : Env) (G0 : Heap) (N : List Nat) (S : Nat → Nat → Box) (l : Nat) (rec : Nat → Loop) (kp : List (Nat × Obj)) : FSpec where
 I := fun i own w G => ∃ E' : Env, (HeapLe G0 G ∧ ∀ n, n ∈ N → E' n = E n) ∧ PartOk (S i) E' G w ∧ (∀ b, own b ↔ (Live (S i) E' b ∨ b = l ∨ ∃ o, (b, o) ∈ kp)) ∧
   w.heap[l]? = some (.loop (rec i)) ∧ ¬ Live (S i) E' l ∧ (∀ b o, (b, o) ∈ kp → w.heap[b]? = some o ∧ ¬ Live (S i) E' b)
 stab := by
   intro i own w w' G G' ⟨E', h1, h2, h3, h4, h5, h6⟩ hg hs hw
   refine ⟨E', ⟨h1.1.trans hg, h1.2⟩, h2.mono hg hs fun b hb => hw b ((h3 b).2 (.inl hb)), h3, ?_, h5, fun b o hb => ⟨?_, (h6 b o hb).2⟩⟩
   · rw [(hw l ((h3 l).2 (.inr (.inl rfl)))).1]; exact h4
   · rw [(hw b ((h3 b).2 (.inr (.inr ⟨o, hb⟩)))).1]; exact (h6 b o hb).1
def Rr (E : Env) (N : List Nat) (S1 : Nat → Box) (l : Nat) (rec1 : Loop) (kp : List (Nat × Obj)) (own : Nat → Prop) (G : Heap) (w : World) (b : Bool) : Ending → World → Prop := fun e w' => e = .returned (.bool b) ∧ ∃ (E' : Env) (G' : Heap),
 (∀ n, n ∈ N → E' n = E n) ∧ HeapOk S1 E' G' w' ∧ ExtS own G w S1 E' G' w' ∧ w'.heap[l]? = some (.loop rec1) ∧ ¬ Live S1 E' l ∧ (∀ b o, (b, o) ∈ kp → w'.heap[b]? = some o ∧ ¬ Live S1 E' b)
def CtxR (f : FuncId) (fn : Func) (l : Nat) (lp rec1 : Loop) (kp : List (Nat × Obj)) (E : Env) (N : List Nat) (S1 : Nat → Box) (own : Nat → Prop) (G : Heap) (w : World) (b : Bool) : Ctx :=
 ⟨f, fn, some l, [], (l, .loop lp) :: kp, N.map fun n => (n, (E n).getD .nil), own, G, w, Rr E N S1 l rec1 kp own G w b⟩
theorem WK.steps' {k k' : List Item} {C' : Ctx} {st st' : St} (hf : C'.f = C.f) (hrd : C'.rd = C.rd) (hR : C'.R = C.R) (hs : ∀ a w E G (b : Frame) cs, StRel C st a w E G → b.fn = C.f → b.kind = .normal → b.roundOf = C.rd →
     ∃ a' w' E' G', StRel C' st' a' w' E' G' ∧ Steps P (lone (b.atR a k) cs w) (lone (b.atR a' k') cs w')) (h : WK P C' k' st') : WK P C k st := by
 intro a w E G hst b cs hfb hk hr
 obtain ⟨a', w', E', G', hst', hsteps⟩ := hs a w E G b cs hst hfb hk hr
 obtain ⟨e, w'', hR', hfin⟩ := h a' w' E' G' hst' b cs (hfb.trans hf.symm) hk (hr.trans hrd.symm)
 refine ⟨e, w'', hR ▸ hR', ?_⟩
 have := hfin.of_steps hsteps
 unfold Fin at this ⊢
 rw [hrd, hf] at this
 exact this
section
variable {f : FuncId} {fn : Func} {l : Nat} {lp rc rec1 : Loop} {kp : List (Nat × Obj)} {N : List Nat} {S1 : Nat → Box} {own : Nat → Prop} {k : List Item} {bb : Bool}
theorem StRel.turnLoop {E0' : Env} {G0 : Heap} {w0 : World} {lp' : Loop} (hst : StRel (CtxR f fn l lp rec1 kp E0' N S1 own G0 w0 bb) st a w E G) (hkl : ∀ o, (l, o) ∉ kp) (hl : w0.heap.size ≤ l ∨ own l) (hlown : own l → True) :
   HeapOk st.bx E G (w.putObj l (.loop lp')) ∧ (∀ b o, (b, o) ∈ kp → (w.putObj l (.loop lp')).heap[b]? = some o ∧ ¬ Live st.bx E b) ∧ ¬ Live st.bx E l ∧ (w.putObj l (.loop lp')).heap[l]? = some (.loop lp') ∧ Turn l w (w.putObj l (.loop lp')) := by
 obtain ⟨g1, g2⟩ := hst.keep l (.loop lp) (by simp [CtxR])
 have t := Turn.put (o' := .loop lp') g1 rfl rfl
 refine ⟨hst.ok.turn t g2, fun b o hb => ?_, g2, World.putObj_heap_same (Array.getElem?_eq_some_iff.1 g1).1, t⟩
 obtain ⟨g3, g4⟩ := hst.keep b o (by simp [CtxR, hb])
 exact ⟨(World.putObj_heap_other (by rintro rfl; exact hkl _ hb)).trans g3, g4⟩
theorem ExtS.turnOwn {G0 : Heap} {w0 : World} (h : ExtS own G0 w0 bx E G w) (t : Turn l w w') (hr : w0.heap.size ≤ l ∨ own l) : ExtS own G0 w0 bx E G w' :=
 ⟨t.os.trans h.os, t.tape.trans h.tape, t.output.trans h.output, fun a ha => (t.fz a).trans (h.fz a ha), Nat.le_trans h.size t.size, h.heap,
   fun b hb ho => ⟨(t.heap b (by rintro rfl; rcases hr with h | h; omega; exact ho h)).trans (h.frame b hb ho).1, (h.frame b hb ho).2⟩, h.newb⟩
theorem WK.beginR {E0' : Env} {G0 : Heap} {w0 : World} (hkl : ∀ o, (l, o) ∉ kp) (hl : w0.heap.size ≤ l ∨ own l) (h : WK P (CtxR f fn l (busy rc) rec1 kp E0' N S1 own G0 w0 bb) k st) :
   WK P (CtxR f fn l { rc with state := .ready, pending := none } rec1 kp E0' N S1 own G0 w0 bb) (.beginRound :: k) st := by
 refine WK.steps' (C' := CtxR f fn l (busy rc) rec1 kp E0' N S1 own G0 w0 bb) rfl rfl rfl (fun a w E G b cs hst hf hk hr => ?_) h
 obtain ⟨g1, g2, g3, g4, g5⟩ := hst.turnLoop (lp' := busy rc) hkl hl (fun _ => trivial)
 refine ⟨a, w.putObj l (.loop (busy rc)), E, G, ⟨hst.size, hst.tm, hst.df, g1, hst.ext.turnOwn g5 hl, fun b o hb => ?_, hst.an, ⟨by simp [CtxR], (fun r hr => by cases hr), fun b o hb => ?_⟩⟩, .one ?_⟩
 · simp only [CtxR, List.mem_cons, Prod.mk.injEq] at hb
   rcases hb with ⟨rfl, rfl⟩ | hb
   · exact ⟨g4, g3⟩
   · exact g2 b o hb
 · simp only [CtxR, List.mem_cons, Prod.mk.injEq] at hb
   rcases hb with ⟨rfl, rfl⟩ | hb
   · rfl
   · exact hst.ms.2.2 b o (by simp [CtxR, hb])
 · refine stepR_beginRound (by rw [hr]; rfl) ?_
   have := run_beginRound (P := P) (hst.keep l (.loop { rc with state := .ready, pending := none }) (by simp [CtxR])).1 rfl
   exact this
theorem WK.roundEnd {E0' : Env} {G0 : Heap} {w0 : World} {jump : Option Code} (σ : Nat → Nat) (hkl : ∀ o, (l, o) ∉ kp) (hl : w0.heap.size ≤ l ∨ own l)
   (hk : (k = [] ∧ jump = none) ∨ (∃ k', k = .code .ret :: k' ∧ jump = some .ret) ∨ ∃ id k', k = .code (.exit id) :: k' ∧ exitTo id k' = none ∧ jump = some (.exit id))
   (hbb : bb = jump.isNone) (hrec : rec1 = { busy rc with state := if jump.isNone then .ready else .done, pending := jump })
   (hN : ∀ n, n ∈ N → (S1 n).live = true ∧ σ n = n) (hNE : ∀ n, n ∈ N → ∃ q, E0' n = some q ∧ q.fr = false)
   (hb : BxW σ S1 S1 st.bx) (hi : InjW σ S1) : WK P (CtxR f fn l (busy rc) rec1 kp E0' N S1 own G0 w0 bb) k st := by
 intro a w E G hst b cs hf hkd hr
 have hA : anOk (fun n => σ n = n ∧ (S1 n).live = true) (N.map fun n => (n, (E0' n).getD .nil)) := by
   have : ∀ M : List Nat, (∀ n, n ∈ M → (S1 n).live = true ∧ σ n = n) → anOk (fun n => σ n = n ∧ (S1 n).live = true) (M.map fun n => (n, (E0' n).getD .nil)) := by
     intro M
     induction M with
     | nil => intro _; trivial
     | cons m M ih => intro h; exact ⟨⟨(h m (by simp)).2, (h m (by simp)).1⟩, ih fun n hn => h n (by simp [hn])⟩
   exact this N hN
 obtain ⟨E1, G1, hst1⟩ := Ghost.weak (st := st) (bx' := S1) (tm' := J) (nx' := 0) σ TmW.nil hb hi _ a w E G hA hst
 obtain ⟨g1, g2, g3, g4, g5⟩ := hst1.turnLoop (lp' := rec1) hkl hl (fun _ => trivial)
 have hrun : (Instr.endRound l jump).run P w = .ok (.bool jump.isNone) (w.putObj l (.loop rec1)) := by
   have := run_endRound (P := P) jump (hst1.keep l (.loop (busy rc)) (by simp [CtxR])).1
   rw [hrec]; exact this
 refine ⟨.returned (.bool bb), w.putObj l (.loop rec1), ⟨rfl, E1, G1, fun n hn => ?_, g1, hst1.ext.turnOwn g5 hl, g4, g3, g2⟩, ?_⟩
 · obtain ⟨q, hq, hfr⟩ := hNE n hn
   have := hst1.an (n, (E0' n).getD .nil) (by simp only [CtxR, List.mem_map]; exact ⟨n, hn, rfl⟩) (by simp [hq, hfr])
   simpa [hq] using this
 · unfold Fin
   show ∀ c cs', cs = c :: cs' → _
   rintro c cs' rfl
   refine ⟨_, rfl, .one ?_⟩
   rw [hbb]
   rcases hk with ⟨rfl, rfl⟩ | ⟨k', rfl, rfl⟩ | ⟨id, k', rfl, hx, rfl⟩
   · exact stepR_round_end (by rw [hr]; rfl) hkd hrun
   · exact stepR_round_ret (by rw [hr]; rfl) hkd hrun
   · exact stepR_round_exit (by rw [hr]; rfl) hkd hx hrun
end
def setPs (tm : Nat → AV) : List Tmp → List AV → Nat → AV
 | p :: ps, x :: xs => setPs (upd tm p x) ps xs
 | _, _ => tm
theorem setPs_rel : ∀ (ps : List Tmp) (xs : List AV) (vs : List Value) (tm : Nat → AV) (tmps : Array Value), (∀ p, p ∈ ps → p < tmps.size) → (∀ t, Rel E G (tm t) (tmps.getD t undef)) → RelL E G xs vs →
   ∀ t, Rel E G (setPs tm ps xs t) (((ps.zip vs).foldl (fun tmps (t, a) => tmps.setIfInBounds t a) tmps).getD t undef)
 | [], xs, vs, tm, tmps, _, h, _ => by simpa [setPs] using h
 | p :: ps, [], vs, tm, tmps, _, h, hr => by
   simp only [RelL] at hr; subst hr
   simpa [setPs] using h
 | p :: ps, x :: xs, vs, tm, tmps, hp, h, hr => by
   simp only [RelL] at hr
   obtain ⟨v, vs', rfl, h2, h3⟩ := hr
   simp only [setPs, List.zip_cons_cons, List.foldl_cons]
   refine setPs_rel ps xs vs' _ _ (fun q hq => by simp; exact hp q (by simp [hq])) (fun t => ?_) h3
   have hlt := hp p (by simp)
   by_cases ht : t = p
   · subst ht; simpa [Array.getD_eq_getD_getElem?, hlt] using h2
   · rw [upd_ne _ _ _ _ ht]
     have := h t
     simpa [Array.getD_eq_getD_getElem?, Array.getElem?_setIfInBounds_ne (Ne.symm ht)] using this
theorem foldl_size : ∀ (l : List (Tmp × Value)) (tmps : Array Value), (l.foldl (fun tmps (t, a) => tmps.setIfInBounds t a) tmps).size = tmps.size
 | [], _ => rfl
 | (t, v) :: l, tmps => by simp only [List.foldl_cons]; rw [foldl_size l]; simp
theorem noG {b : Nat} {o : Obj} (hg : GW G w) (h : w.heap[b]? = some o) (hc : Obj.isC o = false) (q : Nat) : G b q = none := by
 cases hv : G b q with
 | none => rfl
 | some v =>
   have := hg b q v hv
   unfold World.cell? at this
   simp only [h] at this
   cases o <;> simp_all [Obj.isC]
def maskN (N : List Nat) : Nat → Box := fun n => if n ∈ N then .var [] else .none
theorem Rel.agree {N : List Nat} (hE : ∀ n, n ∈ N → E' n = E n) (hg : HeapLe G G') {x : AV} {v : Value} (hx : Nm (maskN N) x = true) (h : Rel E G x v) : Rel E' G' x v := by
 have hid : ∀ c : AV, Ren (fun n => n) c = c ∧ ∀ cs : List AV, RenL (fun n => n) cs = cs := by
   have h1 : ∀ cs : List AV, (∀ c, c ∈ cs → Ren (fun n => n) c = c) → RenL (fun n => n) cs = cs := by
     intro cs
     induction cs with
     | nil => intro _; rfl
     | cons c cs ih => intro h; simp only [RenL, h c (by simp), ih fun d hd => h d (by simp [hd])]
   have h2 : ∀ c : AV, Ren (fun n => n) c = c := by
     intro c
     induction c using AV.rec (motive_2 := fun cs => RenL (fun n => n) cs = cs) with
     | nil => rfl
     | cons c cs h1 h2 => simp only [RenL, h1, h2]
     | _ => simp_all [Ren]
   exact fun c => ⟨h2 c, fun cs => h1 cs fun c _ => h2 c⟩
 have := Rel.ren (σ := fun n => n) (bx' := maskN N) (E' := E') (E := E) (G := G) (fun n hn => hE n (by
   unfold maskN at hn
   split at hn
   · assumption
   · simp [Box.live] at hn)) x v hx (by rw [(hid x).1]; exact h)
 exact this.mono (.refl _) hg
structure RdOk (l : Nat) (kp : List (Nat × Obj)) (E : Env) (N : List Nat) (own : Nat → Prop) : Prop where
 kl : ∀ o, (l, o) ∉ kp
 own : own l
 nE : ∀ n, n ∈ N → ∃ q, E n = some q ∧ q.fr = false
theorem WK.rangeF {fo : Operand} {ps : Array Tmp} {asg body : Code} {k : List Item} {tm : Nat → AV} {nx : Nat} {fid : FuncId} {caps : List AV}
   (xs : List (List AV)) (go : Nat → Bool) (jmp : Nat → Option Code) (S : Nat → Nat → Box) (N : List Nat) (hrd : C.rd = none)
   (hf : evA tm fo = .fn fid caps) (hcl : ClL caps = true) (hseq : FnSeq P fid caps xs)
   (hps : ∀ p, p ∈ ps.toList → p < C.fn.ntmps) (hlen : ∀ x, x ∈ xs → x.length = ps.toList.length) (hxcl : ∀ x, x ∈ xs → ClL x = true)
   (hN : ∀ i n, n ∈ N → (S i n).live = true) (hNf : ∀ n, n ∈ N → ∀ Y i, S 0 n ≠ .frn Y i) (htm : ∀ t, Nm (maskN N) (tm t) = true)
   (rounds : ∀ i x, xs[i]? = some x → (∀ j, j < i → go j = true) → ∀ (l : Nat) (rc : Loop) (kp : List (Nat × Obj)) (E : Env) (own : Nat → Prop) (G : Heap) (w : World), RdOk l kp E N own →
     WK P (CtxR C.f C.fn l { rc with state := .ready, pending := none } (recAt rc go jmp (i + 1)) kp E N (S (i + 1)) own G w (go i)) [.code asg, .beginRound, .code body] ⟨setPs tm ps.toList x, S i, 0⟩)
   (after : ∀ r, WK P { C with ms := r :: C.ms, kp := (r, .deferred (some [])) :: C.kp } (((jumpAt go jmp (taken go xs.length)).map Item.code).toList ++ k) ⟨tm, S (taken go xs.length), 0⟩)
   (hAn : anOk (· ∈ N) C.an := by first | exact trivial | exact ⟨by simp, trivial⟩) :
   WK P C (.code (.rangeFunc fo ps asg body) :: k) ⟨tm, S 0, nx⟩ := by
 intro a w E G hst b cs hfb hkd hr
 have hrn : b.roundOf = none := hr.trans hrd
 have hst_tm : ∀ t, Rel E G (tm t) (a.tmps.getD t undef) := hst.tm
 have hst_ok : HeapOk (S 0) E G w := hst.ok
 have hst_ext : ExtS C.own C.G C.w (S 0) E G w := hst.ext
 have hst_keep : ∀ b o, (b, o) ∈ C.kp → w.heap[b]? = some o ∧ ¬ Live (S 0) E b := hst.keep
 let r := w.heap.size
 let l := w.heap.size + 1
 let rc : Loop := { state := .ready, pending := none, fn := b.fn, tmps := a.tmps, params := ps, assign := asg, body, defers := w.heap.size }
 let W1 := w.alloc (.deferred (some []))
 let W2 := W1.alloc (.loop rc)
 have hW1s : W1.heap.size = w.heap.size + 1 := by show (w.heap.push _).size = _; simp
 have hW2s : W2.heap.size = w.heap.size + 2 := by show (W1.heap.push _).size = _; rw [Array.size_push, hW1s]
 have t1 : Turn r w W1 := Turn.alloc rfl
 have t2 : Turn l W1 W2 := by have := Turn.alloc (w := W1) (o := .loop rc) rfl; rwa [hW1s] at this
 have hlt : ∀ b, Live (S 0) E b → b < w.heap.size := fun b hb => (hst_ok.off b hb).1
 have ok1 : HeapOk (S 0) E G W1 := hst_ok.turn t1 fun h => Nat.lt_irrefl _ (hlt _ h)
 have ok2 : HeapOk (S 0) E G W2 := ok1.turn t2 fun h => by have := hlt _ h; omega
 have hkp2 : ∀ b o, (b, o) ∈ ((r, Obj.deferred (some [])) :: C.kp) → W2.heap[b]? = some o ∧ ¬ Live (S 0) E b := by
   intro b o hb
   rcases List.mem_cons.1 hb with hb | hb
   · simp only [Prod.mk.injEq] at hb
     obtain ⟨rfl, rfl⟩ := hb
     refine ⟨(t2.heap r (by omega)).trans (World.alloc_heap_new _ _), fun h => Nat.lt_irrefl _ (hlt _ h)⟩
   · obtain ⟨h1, h2⟩ := hst_keep b o hb
     have := (Array.getElem?_eq_some_iff.1 h1).1
     exact ⟨((t2.heap b (by omega)).trans (t1.heap b (by omega))).trans h1, h2⟩
 have hl2 : W2.heap[l]? = some (.loop rc) := by have := World.alloc_heap_new W1 (.loop rc); rwa [hW1s] at this
 have hnl : ¬ Live (S 0) E l := fun h => by have := hlt _ h; omega
 let kp' : List (Nat × Obj) := (r, Obj.deferred (some [])) :: C.kp
 have hkc : ∀ b o, (b, o) ∈ kp' → Obj.isC o = false := fun b o hb => by
   rcases List.mem_cons.1 hb with hb | hb
   · simp only [Prod.mk.injEq] at hb; rw [hb.2]; rfl
   · exact hst.ms.2.2 b o hb
 have hkl : ∀ o, (l, o) ∉ kp' := fun o hb => by
   rcases List.mem_cons.1 hb with hb | hb
   · simp only [Prod.mk.injEq] at hb; omega
   · have := (Array.getElem?_eq_some_iff.1 (hst_keep l o hb).1).1; omega
 let Y := loopY E G N S l (recAt rc go jmp) kp'
 let own0 : Nat → Prop := fun b => Live (S 0) E b ∨ b = l ∨ ∃ o, (b, o) ∈ kp'
 have hNE : ∀ n, n ∈ N → ∃ q, E n = some q ∧ q.fr = false := fun n hn => by
   obtain ⟨q, hq⟩ := hst_ok.loc (hN 0 n hn)
   refine ⟨q, hq, ?_⟩
   have hbx := hst_ok.box n
   rw [hq] at hbx
   have h1 := hN 0 n hn
   have h2 := hNf n hn
   cases hb : S 0 n <;> rw [hb] at hbx h1 h2 <;> simp only [Box.live, Bool.false_eq_true] at h1
   · cases q <;> simp only [BoxOk] at hbx; rfl
   · cases q <;> simp only [BoxOk] at hbx <;> rfl
   · exact absurd rfl (h2 _ _)
   · cases q <;> simp only [BoxOk] at hbx; rfl
 have okF : ∀ (i : Nat) (E1 : Env) (G1 : Heap) (w1 : World), (HeapLe G G1 ∧ ∀ n, n ∈ N → E1 n = E n) → HeapOk (S i) E1 G1 w1 → w1.heap[l]? = some (.loop (recAt rc go jmp i)) → ¬ Live (S i) E1 l →
     (∀ b o, (b, o) ∈ kp' → w1.heap[b]? = some o ∧ ¬ Live (S i) E1 b) →
     HeapOk (upd B0 0 (.frn Y i)) (setE E0 0 (.set fun b => Live (S i) E1 b ∨ b = l ∨ ∃ o, (b, o) ∈ kp')) G1 w1 := by
   intro i E1 G1 w1 h1 h2 h3 h4 h5
   refine ⟨h2.gw, fun m => ?_, fun m m' k k' c g1 g2 _ _ _ _ => (B0_one g1).trans (B0_one g2).symm, fun c hc => ?_⟩
   · by_cases hm : m = 0
     · subst hm
       simp only [upd_same, setE, if_true, BoxOk]
       exact ⟨E1, h1, h2.part, fun b => Iff.rfl, h3, h4, h5⟩
     · rw [upd_ne _ _ _ _ hm]; simp [setE, hm, E0, BoxOk, B0]
   · have hc := Live_one hc
     rcases hc with hc | rfl | ⟨o, hc⟩
     · exact h2.off c hc
     · exact ⟨(Array.getElem?_eq_some_iff.1 h3).1, noG h2.gw h3 rfl⟩
     · exact ⟨(Array.getElem?_eq_some_iff.1 (h5 c o hc).1).1, noG h2.gw (h5 c o hc).1 (hkc c o hc)⟩
 have works : Works P l Y xs go := by
   intro i x hx hgo w1 G1 own vs hY hxv
   have hI := hY.box 0
   simp only [upd_same, setE, if_true, BoxOk] at hI
   obtain ⟨E1, e1, part, hown, hl, hnl1, hkp1⟩ := hI
   have ok1 : HeapOk (S i) E1 G1 w1 := part.full hY.gw
   have hrec : recAt rc go jmp i = { rc with state := .ready, pending := none } := by
     cases i with
     | zero => rfl
     | succ i => simp only [recAt, hgo i (by omega), if_true]
   rw [hrec] at hl
   have hvl := hxv.length
   have hxl := hlen x (List.mem_of_getElem? hx)
   have hy := run_yield (P := P) (args := vs.toArray) hl (by show vs.toArray.size = ps.size; simp at hxl ⊢; omega)
   refine ⟨b.fn, _, asg, body, hy, fun c cs' => ?_⟩
   have etm : ((ps.zip vs.toArray).foldl (fun tmps (t, a) => tmps.setIfInBounds t a) a.tmps) = ((ps.toList.zip vs).foldl (fun tmps (t, a) => tmps.setIfInBounds t a) a.tmps) := by
     rw [← Array.foldl_toList]; simp
   have hownl : own l := (hown l).2 (.inr (.inl rfl))
   have hwk := rounds i x hx hgo l rc kp' E own G1 w1 ⟨hkl, hownl, hNE⟩
   let a1 : Act := { tmps := (ps.toList.zip vs).foldl (fun tmps (t, a) => tmps.setIfInBounds t a) a.tmps, defers := [] }
   have hst1 : StRel (CtxR C.f C.fn l { rc with state := .ready, pending := none } (recAt rc go jmp (i + 1)) kp' E N (S (i + 1)) own G1 w1 (go i)) ⟨setPs tm ps.toList x, S i, 0⟩ a1 w1 E1 G1 := by
     refine ⟨?_, ?_, rfl, ok1, ⟨rfl, rfl, rfl, fun _ _ => rfl, Nat.le_refl _, .refl _, fun _ _ _ => ⟨rfl, rfl⟩, fun b hb => .inr ((hown b).2 (.inl hb))⟩, fun b o hb => ?_, fun p hp hf => ?_, ⟨by simp [CtxR], (fun r hr => by cases hr), fun b o hb => ?_⟩⟩
     · show C.fn.ntmps ≤ _
       rw [foldl_size]; exact hst.size
     · exact setPs_rel _ _ _ _ _ (fun p hp => Nat.lt_of_lt_of_le (hps p hp) hst.size) (fun t => Rel.agree e1.2 e1.1 (htm t) (hst_tm t)) (hxv.closed _ _ (hxcl x (List.mem_of_getElem? hx)))
     · rcases List.mem_cons.1 hb with hb | hb
       · simp only [Prod.mk.injEq] at hb
         obtain ⟨rfl, rfl⟩ := hb
         exact ⟨hl, hnl1⟩
       · exact hkp1 b o hb
     · simp only [CtxR, List.mem_map] at hp
       obtain ⟨n, hn, rfl⟩ := hp
       obtain ⟨q, hq, hqf⟩ := hNE n hn
       simp only [e1.2 n hn, hq, Option.getD_some]
     · rcases List.mem_cons.1 hb with hb | hb
       · simp only [Prod.mk.injEq] at hb; rw [hb.2]; rfl
       · exact hkc b o hb
   let b1 : Frame := { (default : Frame) with fn := b.fn, kind := .normal, roundOf := some l }
   obtain ⟨e, w', hR, hfin⟩ := hwk a1 w1 E1 G1 hst1 b1 (c :: cs') hfb rfl rfl
   obtain ⟨rfl, E2, G2, q1, q2, q3, q4, q5, q6⟩ := hR
   obtain ⟨v, hv, hsteps⟩ := hfin c cs' rfl
   simp only [Ending.returned.injEq] at hv; subst hv
   refine ⟨w', G2, _, ?_, okF (i + 1) E2 G2 w' ⟨e1.1.trans q3.heap, q1⟩ q2 q4 q5 q6, q3.os, q3.tape, q3.output, q3.fz, q3.size, fun n k hn hf => ?_, q3.heap, fun c hc hn => q3.frame c hc fun ho => hn ⟨0, .set own, rfl, by simp [setE], ho⟩, fun c hc => ?_⟩
   · have e0 : Frame.round l b.fn ((ps.zip vs.toArray).foldl (fun tmps (t, a) => tmps.setIfInBounds t a) a.tmps) asg body .normal = b1.atR a1 [.code asg, .beginRound, .code body] := by
       rw [etm]; rfl
     show Steps P (lone (Frame.round l b.fn _ asg body .normal) (c :: cs') w1) _
     rw [show ((ps.zip vs.toArray).foldl (fun tmps (t, a) => tmps.setIfInBounds t a) a.tmps) = ((({ rc with state := .ready, pending := none } : Loop).params.zip vs.toArray).foldl (fun tmps (t, a) => tmps.setIfInBounds t a) ({ rc with state := .ready, pending := none } : Loop).tmps) from rfl] at e0
     rw [e0]; exact hsteps
   · unfold setE at hn
     split at hn
     · simp only [Option.some.injEq] at hn; subst hn; simp [Loc.fr] at hf
     · simp [E0] at hn
   · have hc := Live_one hc
     have back : own c → w1.heap.size ≤ c ∨ Live (upd B0 0 (.frn Y i)) (setE E0 0 (.set own)) c := fun h => .inr ⟨0, .set own, rfl, by simp [setE], h⟩
     rcases hc with hc | rfl | ⟨o, hc⟩
     · rcases q3.newb c hc with h | h
       · exact .inl h
       · exact back h
     · exact back hownl
     · exact back ((hown c).2 (.inr (.inr ⟨o, hc⟩)))
 -- the call
 have hfo := evA_rel hst_tm fo
 rw [hf] at hfo
 simp only [Rel] at hfo
 obtain ⟨us, hfv, hus⟩ := hfo
 have okY := okF 0 E G W2 ⟨.refl _, fun _ _ => rfl⟩ ok2 hl2 hnl hkp2
 have hcalls := (hseq.2 l Y go works).2 W2 G _ ((.func (.yield l) #[] #[]) :: us) okY (RelL.cons (by simp [Rel]) (hus.closed _ _ hcl))
 obtain ⟨e, w3, fr, hR, hcome, hfr, hleave⟩ := hcalls (b.atR { a with defers := markOf r :: a.defers } (.inRangeFunc l :: k) :: cs)
 obtain ⟨v, G3, E3, rfl, _, ok3, ext3⟩ := hR
 obtain ⟨l3, hl3⟩ := ok3.loc (n := 0) rfl
 have hI := ok3.box 0
 simp only [upd_same, hl3] at hI
 obtain ⟨own3, rfl⟩ := hI.frn_loc
 simp only [BoxOk] at hI
 obtain ⟨E', e1, part, hown, hlr, hnl3, hkp3⟩ := hI
 let m := taken go xs.length
 have hst3 : (recAt rc go jmp m).state ≠ .busy := by
   cases hm : m with
   | zero => simp [recAt]
   | succ j => simp only [recAt]; split <;> simp
 have hpend : (recAt rc go jmp m).pending = jumpAt go jmp m := by
   cases hm : m with
   | zero => rfl
   | succ j => simp only [recAt, jumpAt]; split <;> rfl
 have hend : (Instr.endLoop l).run P w3 = .ok (jumpAt go jmp m) (w3.putObj l (.loop { recAt rc go jmp m with state := .exhausted })) := by rw [← hpend]; exact run_endLoop hlr hst3
 have t3 : Turn l w3 (w3.putObj l (.loop { recAt rc go jmp m with state := .exhausted })) := Turn.put hlr rfl rfl
 have okS : HeapOk (S m) E' G3 w3 := part.full ok3.gw
 have hlive3 : ∀ c, Live (S m) E' c → Live (upd B0 0 (.frn Y m)) E3 c := fun c hc => ⟨0, _, rfl, hl3, (hown c).2 (.inl hc)⟩
 have hCw : C.w.heap.size ≤ w.heap.size := hst_ext.size
 have ext2 : ExtS C.own C.G C.w (S 0) E G W2 := (hst_ext.turn t1 hCw).turn t2 (by omega)
 have extS : ExtS C.own C.G C.w (S m) E' G3 w3 := by
   refine ⟨ext3.os.trans ext2.os, ext3.tape.trans ext2.tape, ext3.output.trans ext2.output, fun q hq => (ext3.fz q (Nat.lt_of_lt_of_le hq ext2.size)).trans (ext2.fz q hq), Nat.le_trans ext2.size ext3.size, ext2.heap.trans ext3.heap, fun c hc ho => ?_, fun c hc => ?_⟩
   · by_cases hck : ∃ o, (c, o) ∈ C.kp
     · obtain ⟨o, hck⟩ := hck
       have h1 := hst_ext.frame c hc ho
       have h2 := hst_keep c o hck
       have h3 := hkp3 c o (List.mem_cons_of_mem _ hck)
       refine ⟨h3.1.trans (h2.1.symm.trans h1.1), ?_⟩
       rw [← h1.2]
       funext q
       rw [noG ok3.gw h3.1 (hst.ms.2.2 c o hck), noG hst_ok.gw h2.1 (hst.ms.2.2 c o hck)]
     · have h1 := ext2.frame c hc ho
       have h2 := ext3.frame c (by omega) fun hl => by
         rcases Live_one hl with h | h | ⟨o, h⟩
         · rcases hst_ext.newb c h with h | h
           · omega
           · exact ho h
         · omega
         · rcases List.mem_cons.1 h with h | h
           · simp only [Prod.mk.injEq] at h; omega
           · exact hck ⟨o, h⟩
       exact ⟨h2.1.trans h1.1, h2.2.trans h1.2⟩
   · rcases ext3.newb c (hlive3 c hc) with h | h
     · exact .inl (by omega)
     · rcases Live_one h with h | rfl | ⟨o, h⟩
       · exact hst_ext.newb c h
       · exact absurd hc hnl3
       · exact absurd hc (hkp3 c o h).2
 have hsteps : Steps P (lone (b.atR a (.code (.rangeFunc fo ps asg body) :: k)) cs w)
     (lone (b.atR { a with defers := markOf r :: a.defers } (((jumpAt go jmp m).map Item.code).toList ++ k)) cs (w3.putObj l (.loop { recAt rc go jmp m with state := .exhausted }))) := by
   have hent := stepR_rangeFunc (P := P) (b := b) (a := a) (k := k) (cs := cs) (w := w) (g := fo) (ps := ps) (assign := asg) (body := body) (l := l) (mark := [{ target := .collected r, args := #[] }]) (w₁ := W2) (w₁' := W2) (w₂ := W2)
     (d := { target := .fn (.func fid) us.toArray, args := #[.func (.yield l) #[] #[]] }) (f := fid) (args := ((.func (.yield l) #[] #[]) :: us).toArray)
     (by rw [hrn]; exact run_enterLoop_outer _ _ _ _ _)
     (by simp only [resolve, hfv]; simp [go_sem, Deferred.ofValue, Act.eval])
     (by
       have e1 : #[Value.func (.yield l) #[] #[]] ++ us.toArray = ((Value.func (.yield l) #[] #[]) :: us).toArray := by simp
       simp only [invoke, e1]; exact callFunc_run hseq.1 _)
   refine .head hent (Steps.trans hcome (.head ?_ (.one (stepR_endRangeFunc hend))))
   rw [← finish_atR_inRangeFunc l v]; exact step_leave_returned hleave
 have hC' : MsOk { C with ms := r :: C.ms, kp := (r, .deferred (some [])) :: C.kp } := by
   refine ⟨List.nodup_cons.2 ⟨fun h => ?_, hst.ms.1⟩, fun q hq => ?_, hkc⟩
   · have := (Array.getElem?_eq_some_iff.1 (hst_keep _ _ (hst.ms.2.1 r h).1).1).1
     exact Nat.lt_irrefl _ this
   · rcases List.mem_cons.1 hq with rfl | hq
     · exact ⟨List.mem_cons_self .., hCw⟩
     · exact ⟨List.mem_cons_of_mem _ (hst.ms.2.1 q hq).1, (hst.ms.2.1 q hq).2⟩
 have hst4 : StRel { C with ms := r :: C.ms, kp := (r, .deferred (some [])) :: C.kp } ⟨tm, S m, 0⟩ { a with defers := markOf r :: a.defers } (w3.putObj l (.loop { recAt rc go jmp m with state := .exhausted })) E' G3 := by
   refine ⟨hst.size, fun t => Rel.agree e1.2 (e1.1) (htm t) (hst_tm t), ?_, okS.turn t3 hnl3, extS.turn t3 (by omega), fun c o hc => ?_, fun p hp hf => ?_, hC'⟩
   · show markOf r :: a.defers = _
     rw [hst.df]; rfl
   · obtain ⟨h1, h2⟩ := hkp3 c o hc
     exact ⟨(World.putObj_heap_other (by rintro rfl; exact hkl _ hc)).trans h1, h2⟩
   · have := anOk_mem hAn p hp
     rw [e1.2 _ this]; exact hst.an p hp hf
 obtain ⟨e, w5, hR5, hfin⟩ := after r _ _ _ _ hst4 b cs hfb hkd hr
 refine ⟨e, w5, hR5, ?_⟩
 have := hfin.of_steps hsteps
 unfold Fin at this ⊢
 exact this
end
end Go.AI
end

section
namespace Go.AI
def allN (p : Nat → Prop) : List Nat → Prop
 | [] => True
 | n :: ns => p n ∧ allN p ns
theorem allN_mem {p : Nat → Prop} : ∀ {l : List Nat}, allN p l → ∀ n, n ∈ l → p n
 | [], _, n, hn => by cases hn
 | q :: ps, h, n, hn => by
   rcases List.mem_cons.1 hn with rfl | hn
   · exact h.1
   · exact allN_mem h.2 n hn
def Box.own? : Box → Bool | .var _ | .buf .. => true | _ => false
def TmN (N : List Nat) (tm : Nat → AV) : Prop := ∀ t, Nm (maskN N) (tm t) = true
theorem TmN.nil {N : List Nat} : TmN N J := fun _ => rfl
theorem TmN.upd {N : List Nat} {tm : Nat → AV} {t : Nat} {x : AV} (h : TmN N tm) (hx : Nm (maskN N) x = true) : TmN N (upd tm t x) := fun j => by
 by_cases hj : j = t
 · subst hj; simpa using hx
 · rw [upd_ne _ _ _ _ hj]; exact h j
abbrev CtxY (f : FuncId) (fn : Func) (own : Nat → Prop) (b : Box) (G : Heap) (w : World) (r : AV) (b' : Box) : Ctx := CtxX f fn [] [] [] (upd B0 0 b) (setE E0 0 (.set own)) G w r (upd B0 0 b')
section
variable {P : Program} {E E' : Env} {G G' : Heap} {w w' : World} {ρ : Operand → AV} {a : Act} {bx : Nat → Box} {C : Ctx} {st st' : St}
theorem FnB.introY {f : FuncId} {fn : Func} {c : Code} {args : List AV} {Y : FSpec} {i : Nat} {b' : Box} {r : AV} (hf : P.funcs[f]? = some fn) (hn : (fn.name == "runtime.NumGoroutine") = false)
   (hb : fn.body = some c) (h : ∀ G w own, WK P (CtxY f fn own (.frn Y i) G w r b') [.code c] ⟨tmOf args, upd B0 0 (.frn Y i), 0⟩) : FnB P f args (.frn Y i) r b' := by
 refine ⟨⟨fn, hf, hn, by simp [hb]⟩, fun w G l vs hg hr => ?_⟩
 have hbx := hg.box 0
 simp only [upd_same, setE, if_true] at hbx
 obtain ⟨own, rfl⟩ := hbx.frn_loc
 exact calls_of_wk (C := CtxY f fn own (.frn Y i) G w r b') hf hb rfl rfl rfl (fun p hp _ => by cases hp) rfl rfl (fun b h1 => h1) hg hr (h G w own)
theorem FnSeq.intro {f : FuncId} {fn : Func} {c : Code} {caps : List AV} {xs : List (List AV)} (hf : P.funcs[f]? = some fn) (hn : (fn.name == "runtime.NumGoroutine") = false)
   (hb : fn.body = some c) (h : ∀ l Y go, Works P l Y xs go → ∀ G w own, WK P (CtxY f fn own (.frn Y 0) G w (.tup []) (.frn Y (taken go xs.length))) [.code c] ⟨tmOf (.yv l :: caps), upd B0 0 (.frn Y 0), 0⟩) : FnSeq P f caps xs :=
 ⟨⟨fn, hf, hn, by simp [hb]⟩, fun l Y go hW => FnB.introY hf hn hb (h l Y go hW)⟩
theorem WK.retY {f : FuncId} {fn : Func} {ms : List Nat} {kp : List (Nat × Obj)} {b b' : Box} {own : Nat → Prop} {r : AV} {k : List Item} (hfn : P.funcs[f]? = some fn)
   (h : match resL P st fn.results.toList with | some xs => wkT (fun n => n) (upd B0 0 b') r (packA xs) | none => False) (hb : wkB (fun n => n) (upd B0 0 b') st.bx 0 b') (hl : b'.live = true)
   (hk : k = [] ∨ ∃ k', k = .code .ret :: k') :
   WK P (CtxX f fn ms kp [] (upd B0 0 b) (setE E0 0 (.set own)) G w r (upd B0 0 b')) k st := by
 refine WK.retX (fun n => n) hfn h (BxW.upd BxW.nil hb) InjW.one hk (fun n l' h hf => ?_) trivial
 unfold setE at h
 split at h
 · simp only [Option.some.injEq] at h; subst h; simp [Loc.fr] at hf
 · simp [E0] at h
variable {ops : Array Oper} {cf : Oper → Cls} {l : List Oper} {i nx : Nat} {tm : Nat → AV} {Q : (Nat → AV) → (Nat → Box) → Prop} {o : Oper}
theorem RunQ.yield (n : Nat) {c : Call} {fo : Operand} {lp q : Nat} {Y : FSpec} {xs : List (List AV)} {x : List AV} {go : Nat → Bool} (hW : Works P lp Y xs go) (hop : o.op = .call c) (hc : c.callee = .value fo) (hcf : cf o = .w) (hw : wantedA ops tm o = some true)
   (hf : evA tm fo = .yv lp) (hb : bx n = .frn Y q) (hx : xs[q]? = some x) (hgo : ∀ j, j < q → go j = true) (hle : LeL (c.args.toList.map (evA tm)) x) (hcl : ClL x = true)
   (t : RunQ P ops cf l (i + 1) (putA tm o.dst (.bool (go q))) (upd bx n (.frn Y (q + 1))) nx Q) : RunQ P ops cf (o :: l) i tm bx nx Q :=
 RunQ.mem hw hcf (Mems.yield n hop hc hf hW hb hx hgo hle hcl) t
theorem WK.rangeM {f : FuncId} {fn : Func} {ms : List Nat} {kp0 : List (Nat × Obj)} {G : Heap} {w : World} {r : AV} {fo : Operand} {ps : Array Tmp} {asg body : Code} {k : List Item} {tm : Nat → AV} {nx : Nat} {fid : FuncId} {caps : List AV}
   (xs : List (List AV)) (go : Nat → Bool) (jmp : Nat → Option Code) (S : Nat → Nat → Box) (N : List Nat)
   (hf : evA tm fo = .fn fid caps) (hseq : FnSeq P fid caps xs) (hcl : ClL caps = true)
   (hps : (ps.toList.all fun p => Nat.blt p fn.ntmps) = true) (hxs : ∀ x, x ∈ xs → x.length = ps.toList.length ∧ ClL x = true)
   (hN : ∀ i, allN (fun n => (S i n).live = true) N) (hNf : allN (fun n => (S 0 n).own? = true) N) (htm : TmN N tm)
   (rounds : ∀ i x, xs[i]? = some x → (∀ j, j < i → go j = true) → ∀ (l : Nat) (rc : Loop) (kp : List (Nat × Obj)) (E : Env) (own : Nat → Prop) (G : Heap) (w : World), RdOk l kp E N own →
     WK P (CtxR f fn l { rc with state := .ready, pending := none } (recAt rc go jmp (i + 1)) kp E N (S (i + 1)) own G w (go i)) [.code asg, .beginRound, .code body] ⟨setPs tm ps.toList x, S i, 0⟩)
   (after : ∀ q, WK P (CtxM f fn (q :: ms) ((q, .deferred (some [])) :: kp0) G w r) (((jumpAt go jmp (taken go xs.length)).map Item.code).toList ++ k) ⟨tm, S (taken go xs.length), 0⟩)
   :
   WK P (CtxM f fn ms kp0 G w r) (.code (.rangeFunc fo ps asg body) :: k) ⟨tm, S 0, nx⟩ :=
 WK.rangeF (C := CtxM f fn ms kp0 G w r) xs go jmp S N rfl hf hcl hseq (fun p hp => by have := List.all_eq_true.1 hps p hp; exact (by simpa using this : p < fn.ntmps)) (fun x hx => (hxs x hx).1) (fun x hx => (hxs x hx).2) (fun i => allN_mem (hN i))
   (fun n hn Y i h => by have := allN_mem hNf n hn; rw [h] at this; simp [Box.own?] at this) htm rounds after trivial
theorem WK.rangeX {f : FuncId} {fn : Func} {ms : List Nat} {kp0 : List (Nat × Obj)} {an : List (Nat × Loc)} {bx0 bx1 : Nat → Box} {E0 : Env} {G : Heap} {w : World} {r : AV} {fo : Operand} {ps : Array Tmp} {asg body : Code} {k : List Item} {tm : Nat → AV} {nx : Nat} {fid : FuncId} {caps : List AV}
   (xs : List (List AV)) (go : Nat → Bool) (jmp : Nat → Option Code) (S : Nat → Nat → Box) (N : List Nat)
   (hf : evA tm fo = .fn fid caps) (hseq : FnSeq P fid caps xs) (hcl : ClL caps = true)
   (hps : (ps.toList.all fun p => Nat.blt p fn.ntmps) = true) (hxs : ∀ x, x ∈ xs → x.length = ps.toList.length ∧ ClL x = true)
   (hN : ∀ i, allN (fun n => (S i n).live = true) N) (hNf : allN (fun n => (S 0 n).own? = true) N) (htm : TmN N tm)
   (rounds : ∀ i x, xs[i]? = some x → (∀ j, j < i → go j = true) → ∀ (l : Nat) (rc : Loop) (kp : List (Nat × Obj)) (E : Env) (own : Nat → Prop) (G : Heap) (w : World), RdOk l kp E N own →
     WK P (CtxR f fn l { rc with state := .ready, pending := none } (recAt rc go jmp (i + 1)) kp E N (S (i + 1)) own G w (go i)) [.code asg, .beginRound, .code body] ⟨setPs tm ps.toList x, S i, 0⟩)
   (after : ∀ q, WK P (CtxX f fn (q :: ms) ((q, .deferred (some [])) :: kp0) an bx0 E0 G w r bx1) (((jumpAt go jmp (taken go xs.length)).map Item.code).toList ++ k) ⟨tm, S (taken go xs.length), 0⟩)
   (hAn : anOk (· ∈ N) an := by first | exact trivial | exact ⟨by simp, trivial⟩):
   WK P (CtxX f fn ms kp0 an bx0 E0 G w r bx1) (.code (.rangeFunc fo ps asg body) :: k) ⟨tm, S 0, nx⟩ :=
 WK.rangeF (C := CtxX f fn ms kp0 an bx0 E0 G w r bx1) xs go jmp S N rfl hf hcl hseq (fun p hp => by have := List.all_eq_true.1 hps p hp; exact (by simpa using this : p < fn.ntmps)) (fun x hx => (hxs x hx).1) (fun x hx => (hxs x hx).2) (fun i => allN_mem (hN i))
   (fun n hn Y i h => by have := allN_mem hNf n hn; rw [h] at this; simp [Box.own?] at this) htm rounds after hAn
section
variable {f : FuncId} {fn : Func} {rc : Loop} {kp : List (Nat × Obj)} {N : List Nat} {S1 : Nat → Box} {own : Nat → Prop} {k : List Item} {go : Nat → Bool} {jmp : Nat → Option Code} {lp : Nat} {E0' : Env} {G0 : Heap} {w0 : World}
theorem WK.beginL {rec1 : Loop} {bb : Bool} (hR : RdOk lp kp E0' N own) (h : WK P (CtxR f fn lp (busy rc) rec1 kp E0' N S1 own G0 w0 bb) k st) :
   WK P (CtxR f fn lp { rc with state := .ready, pending := none } rec1 kp E0' N S1 own G0 w0 bb) (.beginRound :: k) st := WK.beginR hR.kl (.inr hR.own) h
theorem WK.roundGo (σ : Nat → Nat) (hR : RdOk lp kp E0' N own) (hg : go i = true) (hb : BxW σ S1 S1 st.bx) (hi : InjW σ S1) (hN : allN (fun n => (S1 n).live = true ∧ σ n = n) N) :
   WK P (CtxR f fn lp (busy rc) (recAt rc go jmp (i + 1)) kp E0' N S1 own G0 w0 (go i)) [] st :=
 WK.roundEnd (jump := none) σ hR.kl (.inr hR.own) (.inl ⟨rfl, rfl⟩) (by rw [hg]; rfl) (by simp [recAt, hg, busy]) (allN_mem hN) hR.nE hb hi
theorem WK.roundExit {id : Nat} {k' : List Item} (σ : Nat → Nat) (hR : RdOk lp kp E0' N own) (hg : go i = false) (hj : jmp i = some (.exit id)) (hx : exitTo id k' = none) (hb : BxW σ S1 S1 st.bx) (hi : InjW σ S1) (hN : allN (fun n => (S1 n).live = true ∧ σ n = n) N) :
   WK P (CtxR f fn lp (busy rc) (recAt rc go jmp (i + 1)) kp E0' N S1 own G0 w0 (go i)) (.code (.exit id) :: k') st :=
 WK.roundEnd (jump := some (.exit id)) σ hR.kl (.inr hR.own) (.inr (.inr ⟨id, k', rfl, hx, rfl⟩)) (by rw [hg]; rfl) (by simp [recAt, hg, hj, busy]) (allN_mem hN) hR.nE hb hi
theorem WK.roundRet {k' : List Item} (σ : Nat → Nat) (hR : RdOk lp kp E0' N own) (hg : go i = false) (hj : jmp i = some .ret) (hb : BxW σ S1 S1 st.bx) (hi : InjW σ S1) (hN : allN (fun n => (S1 n).live = true ∧ σ n = n) N) :
   WK P (CtxR f fn lp (busy rc) (recAt rc go jmp (i + 1)) kp E0' N S1 own G0 w0 (go i)) (.code .ret :: k') st :=
 WK.roundEnd (jump := some .ret) σ hR.kl (.inr hR.own) (.inr (.inl ⟨k', rfl, rfl⟩)) (by rw [hg]; rfl) (by simp [recAt, hg, hj, busy]) (allN_mem hN) hR.nE hb hi
end
theorem RelL.set {cs : List AV} {vs : List Value} {j : Nat} {x : AV} (h : RelL E G cs vs) (hx : ∀ v, vs[j]? = some v → Rel E G x v) : RelL E G (cs.set j x) vs := by
 induction cs generalizing vs j with
 | nil => simpa using h
 | cons c cs ih =>
   simp only [RelL] at h
   obtain ⟨v, vs', rfl, h2, h3⟩ := h
   cases j with
   | zero => exact RelL.cons (hx v rfl) h3
   | succ j => exact RelL.cons h2 (ih h3 fun v hv => hx v (by simpa using hv))
theorem Ghost.ownVar {tm : Nat → AV} {nx : Nat} (n j m s : Nat) {cs : List AV} (hc : bx n = .var cs) (hj : cs[j]? = some (.sl true 0 [])) (hm : bx m = .none) :
   Ghost (fun _ => True) ⟨tm, bx, nx⟩ ⟨tm, upd (upd bx n (.var (cs.set j (.msl m 0 0)))) m (.buf s []), nx⟩ := by
 intro C a w E G _ h
 have hok : HeapOk bx E G w := h.ok
 have hmn : n ≠ m := fun e => by subst e; rw [hc] at hm; cases hm
 have hEm : E m = none := hok.none hm
 have he := setE_le (l := .nil) hEm
 have hlv : ∀ b, Live (upd (upd bx n (.var (cs.set j (.msl m 0 0)))) m (.buf s [])) (setE E m .nil) b → Live bx E b := by
   rintro b ⟨q, k, h1, h2, h3⟩
   by_cases hq : q = m
   · subst hq; simp only [setE, if_true, Option.some.injEq] at h2; subst h2; simp [Loc.has] at h3
   · rw [upd_ne _ _ _ _ hq] at h1; simp only [setE, hq, if_false] at h2
     by_cases hqn : q = n
     · subst hqn; exact ⟨q, k, by rw [hc]; rfl, h2, h3⟩
     · rw [upd_ne _ _ _ _ hqn] at h1; exact ⟨q, k, h1, h2, h3⟩
 refine ⟨setE E m .nil, G, h.size, fun t => (h.tm t).mono he (.refl _), h.df, ⟨hok.gw, fun q => ?_, fun q q' k k' b h1 h2 h3 h4 h5 h6 => ?_, fun b hb => hok.off b (hlv b hb)⟩, h.ext.less hlv, keep_less h.keep hlv, fun p hp hf => he _ _ (h.an p hp hf) hf, h.ms⟩
 · show BoxOk _ G w (upd (upd bx n _) m _ q) _
   by_cases hq : q = m
   · subst hq; simp [setE, BoxOk]
   · rw [upd_ne _ _ _ _ hq]; simp only [setE, hq, if_false]
     by_cases hqn : q = n
     · subst hqn
       simp only [upd_same]
       have hb := hok.box q
       rw [hc] at hb
       cases hE : E q with
       | none => rw [hE] at hb; simp [BoxOk] at hb
       | some l =>
         rw [hE] at hb
         cases l <;> simp only [BoxOk] at hb ⊢
         obtain ⟨vs, T, g1, g2, g3⟩ := hb
         refine ⟨vs, T, g1, RelL.set (RelL.mono he (.refl _) _ _ g2) fun v hv => ?_, g3⟩
         obtain ⟨u, hu, hr⟩ := g2.get hj
         rw [hv] at hu; simp only [Option.some.injEq] at hu; subst hu
         simp only [Rel] at hr ⊢
         refine .inr ⟨by simp [setE], trivial, trivial, ?_⟩
         rcases hr with ⟨ad, cap, hv, _, h1, _⟩ | ⟨blk, off, cap, vs, hv, _, _, h1, _⟩
         · have := h1 trivial; subst this; exact ⟨ad, hv⟩
         · have := h1 trivial; subst this; exact ⟨_, hv⟩
     · rw [upd_ne _ _ _ _ hqn]
       exact (hok.box q).mono he (.refl _) (Nat.le_refl _) fun _ _ _ _ _ => ⟨rfl, rfl⟩
 · dsimp only at h1 h2
   have key : ∀ q k, (upd (upd bx n (.var (cs.set j (.msl m 0 0)))) m (.buf s []) q).live = true → setE E m .nil q = some k → k.has b → (bx q).live = true ∧ E q = some k := fun q k g1 g2 g3 => by
     by_cases hq : q = m
     · subst hq; simp only [setE, if_true, Option.some.injEq] at g2; subst g2; simp [Loc.has] at g3
     · rw [upd_ne _ _ _ _ hq] at g1; simp only [setE, hq, if_false] at g2
       by_cases hqn : q = n
       · subst hqn; exact ⟨by rw [hc]; rfl, g2⟩
       · rw [upd_ne _ _ _ _ hqn] at g1; exact ⟨g1, g2⟩
   obtain ⟨a1, a2⟩ := key q k h1 h3 h5
   obtain ⟨b1, b2⟩ := key q' k' h2 h4 h6
   exact hok.sep q q' k k' b a1 b1 a2 b2 h5 h6
end
theorem WK.cut {P : Program} {C : Ctx} {k k' : List Item} {st : St} (st' : St) (h : WK P C k' st' → WK P C k st) (h' : WK P C k' st') : WK P C k st := h h'
attribute [simp] NmL.closed Nm.closed RenL.closed Ren.closed allN Box.own? maskN setPs jumpAt
end Go.AI
end

section
namespace Go.AI
section
variable {P : Program} {E E' : Env} {G G' : Heap} {w w' : World} {ρ : Operand → AV} {a : Act} {bx : Nat → Box}
theorem Mems.make {o : Oper} {t e : TypeId} {xo yo : Operand} {nm s by_ n c : Nat} {k k' : IntKind} (ho : o.op = .makeSlice t xo yo) (hok : AppOk P t e s by_) (hx : ρ xo = .int k n) (hy : ρ yo = .int k' c)
   (hnc : n ≤ c) (hbound : by_ * c ≤ 140737488355328) (hnm : bx nm = .none) :
   Mems P ρ bx o (.msl nm 0 n) (upd bx nm (.buf s (List.replicate n (zr P e).cells).flatten)) := by
 intro a w E G hρ hheap K Q hK
 obtain ⟨i, z, hu, hi, hz, hsz, hby, hzs⟩ := hok.facts
 have hc63 : c ≤ 9223372036854775807 := by
   have h1 := Nat.le_mul_of_pos_left c hok.bpos
   generalize by_ * c = q at hbound h1
   omega
 have hxv := hρ xo (by simp [ho, Op.operands])
 have hyv := hρ yo (by simp [ho, Op.operands])
 rw [hx] at hxv
 rw [hy] at hyv
 simp only [Rel] at hxv hyv
 have hmul : (by_ : Int) * (c : Int) ≤ 281474976710656 := by
   have h1 : (by_ : Int) * (c : Int) = ((by_ * c : Nat) : Int) := (Int.natCast_mul _ _).symm
   rw [h1]
   generalize by_ * c = q at hbound
   omega
 have hrun0 := run_make (P := P) w t e i z hu hi hz k k' (n : Int) (c : Int) (by omega) (by omega) (by rw [hby]; exact hmul) (by omega)
 simp only [Int.toNat_natCast] at hrun0
 obtain ⟨zv, hz1, hz2⟩ := zr_spec (P := P) (x := zr P e) rfl hok.zr
 have hzz : zv = z := by
   have h1 := hz1 w
   have h2 := run_zero (P := P) (w := w) hi hz
   rw [h1] at h2
   simpa using h2
 subst hzz
 have hEn := hheap.none hnm
 have hle := setE_le (l := .buf w.heap.size s c) hEn
 obtain ⟨g1, g2⟩ := (hz2 (setE E nm (.buf w.heap.size s c)) G).cells hok.zr
 have hmade : (madeCells zv.cells (c * s)).toList = (List.replicate n zv.cells.toList).flatten ++ (List.replicate (c - n) zv.cells.toList).flatten := by
   rw [← List.flatten_append, List.replicate_append_replicate, show n + (c - n) = c by omega, ← cyc_eq hzs c]
   simp [madeCells]
 rw [hsz] at hrun0
 have hp := hheap.push (w' := w.alloc (.cells (madeCells zv.cells (c * s)) e)) (n := nm) (l := .buf w.heap.size s c) (bn := .buf s (List.replicate n (zr P e).cells).flatten) hnm rfl ⟨_, _, rfl⟩ rfl rfl rfl rfl (by
   simp only [BoxOk]
   refine ⟨trivial, _, (List.replicate (c - n) zv.cells.toList).flatten, e, ?_, g1.rep n, g2.rep n, ?_⟩
   · have : (w.alloc (.cells (madeCells zv.cells (c * s)) e)).heap = w.heap.push (.cells (madeCells zv.cells (c * s)) e) := rfl
     rw [this]
     simp only [Array.getElem?_push_size, Option.some.injEq, Obj.cells.injEq, and_true, true_and]
     rw [← hmade]
   · have h1 : (madeCells zv.cells (c * s)).toList.length = c * s := by simp [madeCells]
     rw [hmade] at h1; exact h1)
 have hrun : (execOp a.eval o).run P w = .ok (.value (.slice (some ⟨w.heap.size, 0, none⟩) n c)) (w.alloc (.cells (madeCells zv.cells (c * s)) e)) := by
   simp only [execOp, ho, hxv, hyv, Sem.run_bind, hrun0, Result.andThen_ok, Sem.run_pure]
 refine .inl ?_
 unfold Oper.wp
 rw [hrun]
 refine hK _ _ _ G ?_ hp.1 hp.2
 simp only [Rel]
 exact .inl ⟨w.heap.size, c, rfl, hnc, by omega, .inl ⟨s, c, by simp [setE], by omega⟩⟩
variable {ops : Array Oper} {cf : Oper → Cls} {l : List Oper} {i nx : Nat} {tm : Nat → AV} {Q : (Nat → AV) → (Nat → Box) → Prop} {o : Oper}
theorem RunQ.make {t e : TypeId} {xo yo : Operand} {s by_ n c : Nat} {k k' : IntKind} (nm : Nat) (hok : AppOk P t e s by_) (ho : o.op = .makeSlice t xo yo) (hw : wantedA ops tm o = some true) (hcf : cf o = .w)
   (hx : evA tm xo = .int k n) (hy : evA tm yo = .int k' c) (hnc : n ≤ c) (hbound : by_ * c ≤ 140737488355328) (hnm : bx nm = .none)
   (h : RunQ P ops cf l (i + 1) (putA tm o.dst (.msl nm 0 n)) (upd bx nm (.buf s (List.replicate n (zr P e).cells).flatten)) nx Q) : RunQ P ops cf (o :: l) i tm bx nx Q :=
 RunQ.mem hw hcf (Mems.make ho hok hx hy hnc hbound hnm) h
end
end Go.AI
end

section
namespace Go.AI
section
variable {E E' : Env} {G G' : Heap} {w w' : World} {bx bx' : Nat → Box}
theorem HeapOk.recell {n : Nat} {cs cs2 : List AV} (h : HeapOk bx E G w) (hc : bx n = .var cs) (hr : ∀ vs, RelL E G cs vs → RelL E G cs2 vs) : HeapOk (upd bx n (.var cs2)) E G w := by
 have hl : ∀ m, (upd bx n (.var cs2) m).live = (bx m).live := fun m => by
   by_cases hm : m = n
   · subst hm; simp [hc, Box.live]
   · rw [upd_ne _ _ _ _ hm]
 refine ⟨h.gw, fun m => ?_, fun m m' k k' b h1 h2 h3 h4 h5 h6 => h.sep m m' k k' b (by rw [← hl]; exact h1) (by rw [← hl]; exact h2) h3 h4 h5 h6, fun b hb => h.off b ?_⟩
 · by_cases hm : m = n
   · subst hm
     simp only [upd_same]
     have hb := h.box m
     rw [hc] at hb
     cases hE : E m with
     | none => rw [hE] at hb; simp [BoxOk] at hb
     | some l =>
       rw [hE] at hb
       cases l <;> simp only [BoxOk] at hb ⊢
       obtain ⟨vs, T, g1, g2, g3⟩ := hb
       exact ⟨vs, T, g1, hr vs g2, g3⟩
   · rw [upd_ne _ _ _ _ hm]; exact h.box m
 · obtain ⟨m, k, g1, g2, g3⟩ := hb
   exact ⟨m, k, by rw [← hl]; exact g1, g2, g3⟩
theorem Live.recell {n : Nat} {cs cs2 : List AV} {b : Nat} (hc : bx n = .var cs) (h : Live (upd bx n (.var cs2)) E b) : Live bx E b := by
 obtain ⟨m, k, g1, g2, g3⟩ := h
 refine ⟨m, k, ?_, g2, g3⟩
 by_cases hm : m = n
 · subst hm; rw [hc]; rfl
 · rw [upd_ne _ _ _ _ hm] at g1; exact g1
theorem Ghost.frzCell {tm : Nat → AV} {nx : Nat} (n j m k s : Nat) {cs cs' : List AV} (hc : bx n = .var cs) (hj : cs[j]? = some (.msl m 0 k)) (hm : (bx m).cells? = some cs') (hnm : n ≠ m) :
   Ghost (· ≠ m) ⟨tm, bx, nx⟩ ⟨tm, upd (upd bx m .gone) n (.var (cs.set j (.sl false k (cs'.take (k * s))))), nx⟩ := by
 intro C a w E G _ h
 obtain ⟨G', h1, h2, h3, _, h4⟩ := frz h.ok hm
 have htm : ∀ t, Rel E G (tm t) (a.tmps.getD t undef) := h.tm
 have hc' : (upd bx m .gone) n = .var cs := by rw [upd_ne _ _ _ _ hnm]; exact hc
 have hlv : ∀ b, Live (upd (upd bx m .gone) n (.var (cs.set j (.sl false k (cs'.take (k * s)))))) E b → Live (upd bx m .gone) E b := fun b hb => Live.recell hc' hb
 have hr : ∀ vs, RelL E G' cs vs → RelL E G' (cs.set j (.sl false k (cs'.take (k * s)))) vs := fun vs g => RelL.set g fun v hv => by
   obtain ⟨u, hu, hr⟩ := g.get hj
   rw [hv] at hu; simp only [Option.some.injEq] at hu; subst hu
   have := h4 0 k s v (by simpa only [Rel] using hr) (.inr rfl)
   simpa using this
 exact ⟨E, G', h.size, fun t => (htm t).mono (.refl _) h1, h.df, h2.recell hc' hr, (h.ext.trans h3).less hlv, keep_less (keep_ext h.keep h3) hlv, fun p hp hf => h3.env _ _ (h.an p hp hf) hf, h.ms⟩
end
section
variable {P : Program} {ops : Array Oper} {cf : Oper → Cls} {l : List Oper} {i nx : Nat} {tm : Nat → AV} {bx : Nat → Box} {Q : (Nat → AV) → (Nat → Box) → Prop} {o : Oper}
theorem RunQ.callFz {c : Call} {fo : Operand} {f : FuncId} {caps args : List AV} {r : AV} {n k : Nat} {cs : List AV} (t s : Nat) (hop : o.op = .call c) (hc : c.callee = .value fo) (hg : wantedA ops tm o = some true)
   (hcf : cf o = .w) (ht : tm t = .msl n 0 k) (hb : (bx n).cells? = some cs) (hf : evA (upd tm t (.sl false k (cs.take (k * s)))) fo = .fn f caps)
   (ha : LeL (c.args.toList.map (evA (upd tm t (.sl false k (cs.take (k * s))))) ++ caps) args) (h : FnP P f args r) (hcl : ClL args = true)
   (hk : RunQ P ops cf l (i + 1) (putA tm o.dst r) (upd bx n .gone) nx Q) : RunQ P ops cf (o :: l) i tm bx nx Q := by
 refine RunQ.mem hg hcf (Mems.frz hb (ρ' := evA (upd tm t (.sl false k (cs.take (k * s))))) (fun y => ?_) (Mems.call hop hc hf ha h hcl)) hk
 cases y with
 | tmp j =>
   by_cases hj : j = t
   · subst hj; exact .inr (.inr ⟨k, s, ht, by simp⟩)
   · left; simp [upd_ne _ _ _ _ hj]
 | const v => exact .inl rfl
 | global g => exact .inl rfl
 | func g => exact .inl rfl
end
end Go.AI
end
