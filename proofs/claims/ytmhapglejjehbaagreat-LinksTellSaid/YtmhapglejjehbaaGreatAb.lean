/- A part of our proof. -/
import Derived.Test.YtmhapglejjehbaaGreatAa
import Derived.Laws.CopyRow
import Derived.RangeFuncRecord
set_option linter.all false
set_option linter.unnecessarySimpa false
section
namespace Go.AI
def evA (tm : Nat → AV) : Operand → AV
 | .tmp t => tm t
 | .const v => cv v
 | .global _ => .junk
 | .func f => .fn f []
@[simp] theorem evA_tmp (tm : Nat → AV) (t : Nat) : evA tm (.tmp t) = tm t := rfl
@[simp] theorem evA_const (tm : Nat → AV) (v : Value) : evA tm (.const v) = cv v := rfl
@[simp] theorem evA_func (tm : Nat → AV) (f : FuncId) : evA tm (.func f) = .fn f [] := rfl
def E0 : Env := fun _ => none
def B0 : Nat → Box := fun _ => .none
theorem E0_le (E : Env) : EnvLe E0 E := fun _ _ h => by simp [E0] at h
structure Ctx where
 f : FuncId
 fn : Func
 rd : Option Nat
 ms : List Nat
 kp : List (Nat × Obj)
 an : List (Nat × Loc)
 own : Nat → Prop
 G : Heap
 w : World
 R : Ending → World → Prop
def markOf (D : Nat) : Deferred := { target := .collected D, args := #[] }
def Obj.isC : Obj → Bool | .cells .. => true | _ => false
def MsOk (C : Ctx) : Prop := C.ms.Nodup ∧ (∀ r, r ∈ C.ms → (r, Obj.deferred (some [])) ∈ C.kp ∧ C.w.heap.size ≤ r) ∧ ∀ b o, (b, o) ∈ C.kp → Obj.isC o = false
structure StRel (C : Ctx) (st : St) (a : Act) (w : World) (E : Env) (G : Heap) : Prop where
 size : C.fn.ntmps ≤ a.tmps.size
 tm : ∀ t, Rel E G (st.tm t) (a.tmps.getD t undef)
 df : a.defers = C.ms.map markOf
 ok : HeapOk st.bx E G w
 ext : ExtS C.own C.G C.w st.bx E G w
 keep : ∀ b o, (b, o) ∈ C.kp → w.heap[b]? = some o ∧ ¬ Live st.bx E b
 an : ∀ p, p ∈ C.an → p.2.fr = false → E p.1 = some p.2
 ms : MsOk C
theorem keep_ext {kp : List (Nat × Obj)} {bx bx' : Nat → Box} {E E' : Env} {G G' : Heap} {w w' : World} (h : ∀ b o, (b, o) ∈ kp → w.heap[b]? = some o ∧ ¬ Live bx E b) (hx : Ext bx E G w bx' E' G' w') :
   ∀ b o, (b, o) ∈ kp → w'.heap[b]? = some o ∧ ¬ Live bx' E' b := fun b o hb => by
 obtain ⟨h1, h2⟩ := h b o hb
 have hlt : b < w.heap.size := (Array.getElem?_eq_some_iff.1 h1).1
 refine ⟨(hx.frame b hlt h2).1.trans h1, fun hl => ?_⟩
 rcases hx.newb b hl with h3 | h3
 · omega
 · exact h2 h3
theorem keep_less {kp : List (Nat × Obj)} {bx bx' : Nat → Box} {E E' : Env} {w : World} (h : ∀ b o, (b, o) ∈ kp → w.heap[b]? = some o ∧ ¬ Live bx E b) (hl : ∀ b, Live bx' E' b → Live bx E b) :
   ∀ b o, (b, o) ∈ kp → w.heap[b]? = some o ∧ ¬ Live bx' E' b := fun b o hb => ⟨(h b o hb).1, fun h' => (h b o hb).2 (hl b h')⟩
section
variable {P : Program} {E : Env} {G : Heap} {w : World} {a : Act} {tm : Nat → AV} {C : Ctx} {st : St}
theorem evA_rel (h : ∀ t, Rel E G (tm t) (a.tmps.getD t undef)) (x : Operand) : Rel E G (evA tm x) (a.eval x) := by
 cases x with
 | tmp t => exact h t
 | const v => exact cv_rel v
 | global g => simp [evA, Rel]
 | func f =>
   simp only [evA, Rel, Act.eval]
   exact ⟨[], rfl, RelL.nil⟩
def putA (tm : Nat → AV) (dst : Option Tmp) (x : AV) : Nat → AV := match dst with | some d => upd tm d x | none => tm
@[simp] theorem putA_some (tm : Nat → AV) (d : Tmp) (x : AV) : putA tm (some d) x = upd tm d x := rfl
@[simp] theorem putA_none (tm : Nat → AV) (x : AV) : putA tm none x = tm := rfl
def OpW (P : Program) (o : Oper) (a : Act) (w : World) (K : Act → World → Prop) (Q : Exit → Act → World → Prop) : Prop := o.wp P a w K Q ∨
 ∃ (l : Nat) (f : FuncId) (tmps : Array Value) (asg body : Code), (execOp a.eval o).run P w = .ok (.round l f tmps asg body) w ∧ ∀ (c : Frame) (cs : List Frame), ∃ v w', K (a.put o.dst v) w' ∧
   Steps P (lone (Frame.round l f tmps asg body .normal) (c :: cs) w) (lone (c.finish v) cs w')
def wideR (ro : Option Nat) : Fence := { Fence.wide with round := ro }
theorem OpW.wpIn {ro : Option Nat} {o : Oper} {K : Act → World → Prop} {Q : Exit → Act → World → Prop} (hnd : ∀ c, o.op ≠ .defer c) (hQ : ∀ a w, ¬ Q .outgrown a w) (hQp : ∀ ch a w, ¬ Q (.panic ch) a w)
   (h : OpW P o a w K Q) : o.wpIn (wideR ro) 0 P a w K Q := by
 refine ⟨fun _ _ => trivial, ?_⟩
 rw [Oper.semAt_eq _ _ _ hnd]
 rcases h with h | ⟨l, f, tmps, asg, body, hr, hround⟩
 · unfold Oper.wp at h
   generalize (execOp a.eval o).run P w = r at h
   unfold Oper.upon at h
   split at h
   · exact h
   · exact h
   · exact h
   · refine ⟨(by intro h; simp [wideR, Fence.wide] at h), ?_⟩
     refine callsIn_wide.2 (Calls.mono h fun e w'' he => ?_)
     cases e with
     | returned v => exact he
     | panicked ch => exact he
     | outgrown => exact he
   · refine ⟨(by intro h; simp [wideR, Fence.wide] at h), fun c cs _ => ?_⟩
     obtain ⟨v, w', h1, h2⟩ := h c cs
     exact ⟨v, w', h1, stepsIn_wide.2 h2⟩
   · exact (hQp _ _ _ h).elim
   · exact h.elim
 · rw [hr]
   refine ⟨(by intro h; simp [wideR, Fence.wide] at h), trivial, fun c cs _ => ?_⟩
   obtain ⟨v, w', h1, h2⟩ := hround c cs
   exact ⟨.returned v, w', h1, stepsIn_wide.2 h2⟩
def Mems (P : Program) (ρ : Operand → AV) (bx : Nat → Box) (o : Oper) (x : AV) (bx' : Nat → Box) : Prop :=
 ∀ (a : Act) (w : World) (E : Env) (G : Heap), (∀ y ∈ o.op.operands, Rel E G (ρ y) (a.eval y)) → HeapOk bx E G w →
   ∀ (K : Act → World → Prop) (Q : Exit → Act → World → Prop),
     (∀ v w' E' G', Rel E' G' x v → HeapOk bx' E' G' w' → Ext bx E G w bx' E' G' w' → K (a.put o.dst v) w') → OpW P o a w K Q
def wantedA (ops : Array Oper) (tm : Nat → AV) (o : Oper) : Option Bool :=
 match o.guard with
 | none => some true
 | some (j, want) => match (ops[j]?).bind (·.dst) with
   | some t => match tm t with
     | .bool b => some (b == want)
     | .tup _ => some false
     | _ => none
   | none => none
theorem wantedA_sound {ops : Array Oper} {o : Oper} {b : Bool} (h : ∀ t, Rel E G (tm t) (a.tmps.getD t undef)) (hw : wantedA ops tm o = some b) :
   Region.wanted o (yielded ops a.tmps) = b := by
 unfold wantedA at hw
 unfold Region.wanted
 split at hw
 · rename_i hg
   simp only [Option.some.injEq] at hw
   simp [hg, hw]
 · rename_i j want hg
   simp only [hg]
   split at hw
   · rename_i t ht
     have hr := h t
     split at hw
     · rename_i b' hb
       simp only [Option.some.injEq] at hw
       rw [hb] at hr
       simp only [Rel] at hr
       have h2 : a.tmps[t]? = some (.bool b') := by
         cases hc : a.tmps[t]? with
         | none => simp [Array.getD_eq_getD_getElem?, hc, undef] at hr
         | some v => simpa [Array.getD_eq_getD_getElem?, hc] using hr
       simp [yielded, ht, h2, ← hw]
     · rename_i vs hb
       simp only [Option.some.injEq] at hw
       rw [hb] at hr
       simp only [Rel] at hr
       obtain ⟨us, hr, _⟩ := hr
       cases hc : a.tmps[t]? with
       | none => simp [yielded, ht, hc, ← hw]
       | some v =>
         simp [Array.getD_eq_getD_getElem?, hc] at hr
         simp [yielded, ht, hc, hr, ← hw]
     · cases hw
   · cases hw
inductive Step1 (P : Program) (ops : Array Oper) (i : Nat) : St → St → Prop
 | run {st : St} {o : Oper} {x : AV} {bx' : Nat → Box} (ho : ops[i]? = some o) (hw : wantedA ops st.tm o = some true)
     (h : Mems P (evA st.tm) st.bx o x bx') : Step1 P ops i st ⟨putA st.tm o.dst x, bx', st.nx⟩
 | skip {st : St} {o : Oper} (ho : ops[i]? = some o) (hw : wantedA ops st.tm o = some false) :
     Step1 P ops i st ⟨putA st.tm o.dst (.tup []), st.bx, st.nx⟩
def DstOk (C : Ctx) (ops : Array Oper) : Prop := ∀ (i : Nat) (o : Oper) (d : Tmp), ops[i]? = some o → o.dst = some d → d < C.fn.ntmps
theorem put_rel {dst : Option Tmp} {x : AV} {v : Value} {E' : Env} {G' : Heap} (he : EnvLe E E') (hg : HeapLe G G') (hn : C.fn.ntmps ≤ a.tmps.size)
   (hd : ∀ d, dst = some d → d < C.fn.ntmps) (h : ∀ t, Rel E G (tm t) (a.tmps.getD t undef)) (hx : Rel E' G' x v) :
   ∀ t, Rel E' G' (putA tm dst x t) ((a.put dst v).tmps.getD t undef) := by
 intro t
 cases dst with
 | none => exact (h t).mono he hg
 | some d =>
   have hlt := Nat.lt_of_lt_of_le (hd d rfl) hn
   by_cases ht : t = d
   · subst ht
     simpa [putA, Act.put, Array.getD_eq_getD_getElem?, hlt] using hx
   · have := (h t).mono he hg
     simpa [putA, Act.put, ht, Array.getD_eq_getD_getElem?, Array.getElem?_setIfInBounds_ne (Ne.symm ht)] using this
theorem Act.put_size' (a : Act) (dst : Option Tmp) (v : Value) : (a.put dst v).tmps.size = a.tmps.size := by cases dst <;> simp [Act.put]
theorem Act.put_df (a : Act) (dst : Option Tmp) (v : Value) : (a.put dst v).defers = a.defers := by cases dst <;> simp [Act.put]
def NoDf (ops : Array Oper) : Prop := ∀ (i : Nat) (o : Oper), ops[i]? = some o → ∀ c, o.op ≠ .defer c
theorem Step1.sound {ro : Option Nat} {ops : Array Oper} {i : Nat} {st' : St} (hs : Step1 P ops i st st') (hd : DstOk C ops) (hnd : NoDf ops) (h : StRel C st a w E G)
   {K : Act → World → Prop} {Q : Exit → Act → World → Prop} (hQ : ∀ a w, ¬ Q .outgrown a w) (hQp : ∀ ch a w, ¬ Q (.panic ch) a w) (hk : ∀ a' w' E' G', StRel C st' a' w' E' G' → K a' w') : wpOpIn (wideR ro) 0 P ops Q i K a w := by
 unfold wpOpIn
 cases hs with
 | run ho hw hm =>
   rename_i o x bx'
   simp only [ho, wantedA_sound h.tm hw, if_true]
   refine OpW.wpIn (hnd i o ho) hQ hQp (hm a w E G (fun y _ => evA_rel h.tm y) h.ok K Q fun v w' E' G' hx hok hext => hk _ _ E' G' ?_)
   exact ⟨by rw [Act.put_size']; exact h.size, put_rel hext.env hext.heap h.size (fun d hd' => hd i o d ho hd') h.tm hx, by rw [Act.put_df]; exact h.df, hok, h.ext.trans hext, keep_ext h.keep hext, fun p hp hf => hext.env _ _ (h.an p hp hf) hf, h.ms⟩
 | skip ho hw =>
   rename_i o
   simp only [ho, wantedA_sound h.tm hw, Bool.false_eq_true, if_false]
   refine ⟨fun _ _ => trivial, hk _ _ E G ?_⟩
   refine ⟨by rw [Act.put_size']; exact h.size, put_rel (.refl _) (.refl _) h.size (fun d hd' => hd i o d ho hd') h.tm ?_, by rw [Act.put_df]; exact h.df, h.ok, h.ext, h.keep, h.an, h.ms⟩
   simp only [Rel]; exact ⟨[], rfl, RelL.nil⟩
def Fin (P : Program) (C : Ctx) (m : Machine) (cs : List Frame) (e : Ending) (w' : World) : Prop :=
 match C.rd with
 | none => ∃ fr, Comes P m (lone fr cs w') e ∧ fr.fn = C.f ∧ fr.leaving P w' e
 | some _ => ∀ c cs', cs = c :: cs' → ∃ v, e = .returned v ∧ Steps P m (lone (c.finish v) cs' w')
theorem Fin.of_steps {m m' : Machine} {cs : List Frame} {e : Ending} {w' : World} (h : Steps P m m') (h' : Fin P C m' cs e w') : Fin P C m cs e w' := by
 unfold Fin at *
 split at h'
 · obtain ⟨fr, h1, h2, h3⟩ := h'
   exact ⟨fr, .of_steps h h1, h2, h3⟩
 · intro c cs' hc
   obtain ⟨v, h1, h2⟩ := h' c cs' hc
   exact ⟨v, h1, .trans h h2⟩
def WK (P : Program) (C : Ctx) (k : List Item) (st : St) : Prop :=
 ∀ (a : Act) (w : World) (E : Env) (G : Heap), StRel C st a w E G → ∀ (b : Frame) (cs : List Frame), b.fn = C.f → b.kind = .normal → b.roundOf = C.rd →
   ∃ e w', C.R e w' ∧ Fin P C (lone (b.atR a k) cs w) cs e w'
theorem WK.steps {k k' : List Item} {st st' : St} (hs : ∀ a w E G (b : Frame) cs, StRel C st a w E G → b.fn = C.f → b.kind = .normal → b.roundOf = C.rd →
     ∃ a' w' E' G', StRel C st' a' w' E' G' ∧ Steps P (lone (b.atR a k) cs w) (lone (b.atR a' k') cs w')) (h : WK P C k' st') : WK P C k st := by
 intro a w E G hst b cs hf hk hr
 obtain ⟨a', w', E', G', hst', hsteps⟩ := hs a w E G b cs hst hf hk hr
 obtain ⟨e, w'', hR, hfin⟩ := h a' w' E' G' hst' b cs hf hk hr
 exact ⟨e, w'', hR, hfin.of_steps hsteps⟩
theorem WK.step1 {k k' : List Item} {st : St} (hs : ∀ (a : Act) (w : World) (b : Frame) cs, step P (lone (b.atR a k) cs w) = .next (lone (b.atR a k') cs w)) (h : WK P C k' st) : WK P C k st :=
 WK.steps (fun a w E G b cs hst _ _ _ => ⟨a, w, E, G, hst, .one (hs a w b cs)⟩) h
theorem WK.s {x y : Code} {k : List Item} (h : WK P C (.code x :: .code y :: k) st) : WK P C (.code (.seq x y) :: k) st := WK.step1 (fun _ _ _ _ => stepR_seq) h
theorem WK.k {k : List Item} (h : WK P C k st) : WK P C (.code .skip :: k) st := WK.step1 (fun _ _ _ _ => stepR_skip) h
theorem WK.label {l : Nat} {k : List Item} (h : WK P C k st) : WK P C (.code (.label l) :: k) st := WK.step1 (fun _ _ _ _ => stepR_label) h
theorem WK.b {id : Nat} {c : Code} {k : List Item} (h : WK P C (.code c :: .inBlock id :: k) st) : WK P C (.code (.block id c) :: k) st := WK.step1 (fun _ _ _ _ => stepR_block) h
theorem WK.n {id : Nat} {k : List Item} (h : WK P C k st) : WK P C (.inBlock id :: k) st := WK.step1 (fun _ _ _ _ => stepR_inBlock) h
theorem stepR_scope {b : Frame} {c : Code} {k : List Item} {cs : List Frame} : step P (lone (b.atR a (.code (.scope c) :: k)) cs w) = .next (lone (b.atR a (.code c :: .inScope c :: k)) cs w) :=
 step_lone_go (by simp [stepG, stepG.exec, Frame.atR])
theorem stepR_inScope {b : Frame} {c : Code} {k : List Item} {cs : List Frame} : step P (lone (b.atR a (.inScope c :: k)) cs w) = .next (lone (b.atR a k) cs w) :=
 step_lone_go (by simp [stepG, stepG.exec, Frame.atR])
theorem WK.scope {c : Code} {k : List Item} (h : WK P C (.code c :: .inScope c :: k) st) : WK P C (.code (.scope c) :: k) st := WK.step1 (fun _ _ _ _ => stepR_scope) h
theorem WK.inScope {c : Code} {k : List Item} (h : WK P C k st) : WK P C (.inScope c :: k) st := WK.step1 (fun _ _ _ _ => stepR_inScope) h
theorem WK.inLoop {c : Code} {k : List Item} (h : WK P C (.code c :: .inLoop c :: k) st) : WK P C (.inLoop c :: k) st := WK.step1 (fun _ _ _ _ => stepR_inLoop) h
theorem WK.loop {c : Code} {k : List Item} (h : WK P C (.code c :: .inLoop c :: k) st) : WK P C (.code (.loop c) :: k) st := WK.step1 (fun _ _ _ _ => stepR_loop) h
theorem WK.rounds {ι : Type} {c : Code} {k : List Item} (S : ι → St) (μ : ι → Nat)
   (round : ∀ i, (∀ j, μ j < μ i → WK P C (.inLoop c :: k) (S j)) → WK P C (.code c :: .inLoop c :: k) (S i)) : ∀ i, WK P C (.code c :: .inLoop c :: k) (S i) := by
 have key : ∀ n i, μ i = n → WK P C (.code c :: .inLoop c :: k) (S i) := by
   intro n
   induction n using Nat.strongRecOn with
   | _ n ih =>
     intro i hi
     exact round i fun j hj => WK.inLoop (ih (μ j) (hi ▸ hj) j rfl)
 exact fun i => key _ i rfl
theorem WK.exit {id : Nat} {k k' : List Item} (he : exitTo id k = some k') (h : WK P C k' st) : WK P C (.code (.exit id) :: k) st := WK.step1 (fun _ _ _ _ => stepR_exit he) h
theorem WK.cond {c : Operand} {x y : Code} {k : List Item} {t : Bool} (hc : evA st.tm c = .bool t)
   (h : WK P C (.code (if t then x else y) :: k) st) : WK P C (.code (.cond c x y) :: k) st :=
 WK.steps (fun a w E G b cs hst _ _ _ => ⟨a, w, E, G, hst, .one (stepR_cond (by
   have := evA_rel hst.tm c
   rw [hc] at this
   simpa only [Rel] using this))⟩) h
theorem WK.c2 {c : Operand} {x y : Code} {k : List Item} {t : Bool} (hc : evA st.tm c = .bool t)
   (ht : t = true → WK P C (.code x :: k) st) (hf : t = false → WK P C (.code y :: k) st) : WK P C (.code (.cond c x y) :: k) st := by
 cases t
 · exact WK.cond hc (hf rfl)
 · exact WK.cond hc (ht rfl)
theorem WK.condAny {c : Operand} {x y : Code} {k : List Item} (hc : evA st.tm c = .anyb)
   (ht : WK P C (.code x :: k) st) (hf : WK P C (.code y :: k) st) : WK P C (.code (.cond c x y) :: k) st := by
 intro a w E G hst b cs hfn hk hr
 have h1 := evA_rel hst.tm c
 rw [hc] at h1
 simp only [Rel] at h1
 obtain ⟨t, h1⟩ := h1
 cases t
 · obtain ⟨e, w'', hR, hfin⟩ := hf a w E G hst b cs hfn hk hr
   exact ⟨e, w'', hR, hfin.of_steps (.one (stepR_cond h1))⟩
 · obtain ⟨e, w'', hR, hfin⟩ := ht a w E G hst b cs hfn hk hr
   exact ⟨e, w'', hR, hfin.of_steps (.one (stepR_cond h1))⟩
def OpsK (P : Program) (C : Ctx) (ops : Array Oper) (l : List Nat) (k : List Item) (st : St) : Prop :=
 DstOk C ops → NoDf ops → ∀ (a : Act) (w : World) (E : Env) (G : Heap), StRel C st a w E G →
   wpOpsIn (wideR C.rd) 0 P ops (fun e a' w' => e = .normal ∧ ∃ st' E' G', StRel C st' a' w' E' G' ∧ WK P C k st') l a w
theorem OpsK.nil {ops : Array Oper} {k : List Item} (h : WK P C k ⟨st.tm, st.bx, st.nx + ops.size⟩) : OpsK P C ops [] k st :=
 fun _ _ a w E G hst => ⟨rfl, ⟨st.tm, st.bx, st.nx + ops.size⟩, E, G, ⟨hst.size, hst.tm, hst.df, hst.ok, hst.ext, hst.keep, hst.an, hst.ms⟩, h⟩
theorem OpsK.cons {ops : Array Oper} {k : List Item} {i : Nat} {l : List Nat} {st' : St} (hs : Step1 P ops i st st') (h : OpsK P C ops l k st') : OpsK P C ops (i :: l) k st := by
 intro hd hnd a w E G hst
 rw [wpOpsIn_cons]
 exact hs.sound hd hnd hst (fun _ _ h => by cases h.1) (fun _ _ _ h => by cases h.1) fun a' w' E' G' hst' => h hd hnd a' w' E' G' hst'
theorem WK.of_wp {c : Code} {k : List Item} (h : ∀ a w E G, StRel C st a w E G → c.wpIn (wideR C.rd) 0 P (fun e a' w' => e = .normal ∧ ∃ st' E' G', StRel C st' a' w' E' G' ∧ WK P C k st') a w) :
   WK P C (.code c :: k) st := by
 intro a w E G hst b cs hf hk hr
 obtain ⟨e, a', w', ⟨rfl, st', E', G', hst', hwk⟩, harr⟩ := h a w E G hst b k cs hr trivial (fun _ h => by cases h)
 obtain ⟨e, w'', hR, hfin⟩ := hwk a' w' E' G' hst' b cs hf hk hr
 exact ⟨e, w'', hR, hfin.of_steps (StepsIn.steps harr)⟩
theorem WK.region {id : Nat} {ops : Array Oper} {k : List Item} (hd : DstOk C ops) (hnd : NoDf ops) (h : OpsK P C ops (List.range ops.size) k st) :
   WK P C (.code (.region id ops false) :: k) st := WK.of_wp fun a w E G hst => wpIn_region (h hd hnd a w E G hst)
end
end Go.AI
end

section
namespace Go.AI
section
variable {P : Program} {E E' : Env} {G G' : Heap} {w w' : World} {ρ : Operand → AV} {a : Act} {bx : Nat → Box}
theorem BoxOk.mono {c : Box} {l : Option Loc} (he : EnvLe E E') (hg : HeapLe G G') (hs : w.heap.size ≤ w'.heap.size)
   (hw : ∀ l' b, l = some l' → l'.has b → c.live = true → w'.heap[b]? = w.heap[b]? ∧ G' b = G b) (h : BoxOk E G w c l) : BoxOk E' G' w' c l := by
 cases c with
 | none => cases l <;> simpa [BoxOk] using h
 | gone => simp [BoxOk]
 | var cs =>
   cases l with
   | none => simp [BoxOk] at h
   | some l =>
     cases l <;> simp only [BoxOk] at h ⊢
     rename_i blk
     obtain ⟨vs, T, h1, h2, h3⟩ := h
     exact ⟨vs, T, by rw [(hw _ blk rfl rfl rfl).1]; exact h1, RelL.mono he hg _ _ h2, h3⟩
 | buf s cs =>
   cases l with
   | none => simp [BoxOk] at h
   | some l =>
     cases l <;> simp only [BoxOk] at h ⊢
     · rename_i blk s' cap
       obtain ⟨h0, vs, rest, T, h1, h2, h3⟩ := h
       exact ⟨h0, vs, rest, T, by rw [(hw _ blk rfl rfl rfl).1]; exact h1, RelL.mono he hg _ _ h2, h3⟩
     · exact h
 | frn Y i =>
   cases l with
   | none => simp [BoxOk] at h
   | some l =>
     cases l <;> simp only [BoxOk] at h ⊢
     exact Y.stab h hg hs fun b hb => hw _ b rfl hb rfl
 | obj o =>
   cases l with
   | none => simp [BoxOk] at h
   | some l =>
     cases l <;> simp only [BoxOk] at h ⊢
     rename_i blk
     rw [(hw _ blk rfl rfl rfl).1]; exact h
theorem cell_of_heap {b : Nat} (h : w'.heap[b]? = w.heap[b]?) (o : Nat) : w'.cell? ⟨b, o, none⟩ = w.cell? ⟨b, o, none⟩ := by
 unfold World.cell?; simp only [h]
theorem frozen_push {c : Array Value} {T : TypeId} (hh : w'.heap = w.heap.push (.cells c T (0, 0))) (a : Addr) : w'.frozen? a = w.frozen? a := by
 unfold World.frozen?
 rw [hh, Array.getElem?_push]
 by_cases h : a.block = w.heap.size
 · simp [h]
 · simp [h]
theorem cell_lt {b o : Nat} {v : Value} (h : w.cell? ⟨b, o, none⟩ = some v) : b < w.heap.size := by
 unfold World.cell? at h
 split at h
 · rename_i hh
   exact (Array.getElem?_eq_some_iff.1 hh).1
 · cases h
theorem HeapOk.quiet (h : HeapOk bx E G w) (hg : ∀ b o v, G' b o = some v → w'.cell? ⟨b, o, none⟩ = some v) (hx : Ext B0 E0 G w B0 E0 G' w') :
   HeapOk bx E G' w' ∧ Ext bx E G w bx E G' w' := by
 have hfr : ∀ b, b < w.heap.size → w'.heap[b]? = w.heap[b]? ∧ G' b = G b := fun b hb => hx.frame b hb (by rintro ⟨n, l, h1, _⟩; simp [B0, Box.live] at h1)
 have hlive : ∀ b, Live bx E b → b < w.heap.size := fun b hb => (h.off b hb).1
 refine ⟨⟨hg, fun n => ?_, h.sep, fun b hb => ?_⟩, hx.os, hx.tape, hx.output, hx.fz, hx.size, .refl _, hx.heap, fun b hb _ => hfr b hb, fun b hb => .inr hb⟩
 · exact (h.box n).mono (.refl _) hx.heap hx.size fun l b hl hb hc => hfr b (hlive b ⟨n, l, hc, hl, hb⟩)
 · obtain ⟨h1, h2⟩ := h.off b hb
   exact ⟨Nat.lt_of_lt_of_le h1 hx.size, by rw [(hfr b h1).2]; exact h2⟩
def setE (E : Env) (n : Nat) (l : Loc) : Env := fun m => if m = n then some l else E m
theorem HeapOk.pushO {obj : Obj} {n : Nat} {l : Loc} {bn : Box} (h : HeapOk bx E G w) (hn : bx n = .none) (hh : w'.heap = w.heap.push obj) (hfz : ∀ a, w'.frozen? a = w.frozen? a)
   (ho : w'.os = w.os) (ht : w'.tape = w.tape) (hp : w'.output = w.output) (hl : l.blk? = some w.heap.size)
   (hb : BoxOk (setE E n l) G w' bn (some l)) :
   HeapOk (upd bx n bn) (setE E n l) G w' ∧ Ext bx E G w (upd bx n bn) (setE E n l) G w' := by
 have hEn : E n = none := by have := h.box n; rw [hn] at this; simpa [BoxOk] using this
 have he : EnvLe E (setE E n l) := fun m k hm _ => by
   unfold setE; split
   · rename_i h0; subst h0; simp [hEn] at hm
   · exact hm
 have hheap : ∀ b, b < w.heap.size → w'.heap[b]? = w.heap[b]? := fun b hb => by
   rw [hh, Array.getElem?_push]; simp [Nat.ne_of_lt hb]
 have hG : ∀ o, G w.heap.size o = none := fun o => by
   cases hgo : G w.heap.size o with
   | none => rfl
   | some v => have := cell_lt (h.gw _ _ _ hgo); omega
 have hsz : w'.heap.size = w.heap.size + 1 := by simp [hh]
 have hlv : ∀ b, Live (upd bx n bn) (setE E n l) b → b = w.heap.size ∨ Live bx E b := by
   rintro b ⟨m, k, h1, h2, h3⟩
   by_cases hm : m = n
   · subst hm
     simp only [setE, if_true, Option.some.injEq] at h2
     subst h2; exact .inl (Loc.has_eq hl h3)
   · simp only [setE, hm, if_false] at h2
     rw [upd_ne _ _ _ _ hm] at h1
     exact .inr ⟨m, k, h1, h2, h3⟩
 refine ⟨⟨fun b o v hb => ?_, fun m => ?_, fun m m' k k' b h1 h2 h3 h4 h5 h6 => ?_, fun b hb => ?_⟩, ho, ht, hp, fun a _ => hfz a, by omega, he, .refl _, fun b hb _ => ⟨hheap b hb, rfl⟩, fun b hb => ?_⟩
 · have := h.gw b o v hb
   rw [cell_of_heap (hheap b (cell_lt this))]; exact this
 · by_cases hm : m = n
   · subst hm; simpa [setE] using hb
   · rw [upd_ne _ _ _ _ hm]; simp only [setE, hm, if_false]
     exact (h.box m).mono he (.refl _) (by omega) fun l' b hl' hb' hc => ⟨hheap b (h.off b ⟨m, l', hc, hl', hb'⟩).1, rfl⟩
 · by_cases hm : m = n
   · by_cases hm' : m' = n
     · rw [hm, hm']
     · subst hm
       simp only [setE, if_true, Option.some.injEq] at h3
       subst h3
       simp only [setE, hm', if_false] at h4
       rw [upd_ne _ _ _ _ hm'] at h2
       have := (h.off b ⟨m', k', h2, h4, h6⟩).1
       have := Loc.has_eq hl h5; omega
   · by_cases hm' : m' = n
     · subst hm'
       simp only [setE, if_true, Option.some.injEq] at h4
       subst h4
       simp only [setE, hm, if_false] at h3
       rw [upd_ne _ _ _ _ hm] at h1
       have := (h.off b ⟨m, k, h1, h3, h5⟩).1
       have := Loc.has_eq hl h6; omega
     · simp only [setE, hm, hm', if_false] at h3 h4
       rw [upd_ne _ _ _ _ hm] at h1
       rw [upd_ne _ _ _ _ hm'] at h2
       exact h.sep m m' k k' b h1 h2 h3 h4 h5 h6
 · rcases hlv b hb with rfl | hb
   · exact ⟨by omega, hG⟩
   · have := h.off b hb; exact ⟨by omega, this.2⟩
 · rcases hlv b hb with rfl | hb
   · exact .inl (Nat.le_refl _)
   · exact .inr hb
theorem HeapOk.push {obj : Obj} {n : Nat} {l : Loc} {bn : Box} (h : HeapOk bx E G w) (hn : bx n = .none) (hh : w'.heap = w.heap.push obj) (hob : ∃ c T, obj = .cells c T (0, 0))
   (ho : w'.os = w.os) (ht : w'.tape = w.tape) (hp : w'.output = w.output) (hl : l.blk? = some w.heap.size)
   (hb : BoxOk (setE E n l) G w' bn (some l)) :
   HeapOk (upd bx n bn) (setE E n l) G w' ∧ Ext bx E G w (upd bx n bn) (setE E n l) G w' :=
 h.pushO hn hh (by obtain ⟨c, T, rfl⟩ := hob; exact frozen_push hh) ho ht hp hl hb
theorem frozen_pushM {es : Array MapEntry} {c : Nat} (hh : w'.heap = w.heap.push (.map es c)) (a : Addr) : w'.frozen? a = w.frozen? a := by
 unfold World.frozen?
 rw [hh, Array.getElem?_push]
 by_cases h : a.block = w.heap.size
 · simp [h]
 · simp [h]
def addG (G : Heap) (b : Nat) (vs : List Value) : Heap := fun c o => if c = b then vs[o]? else G c o
theorem HeapOk.pushG {T : TypeId} {vs : List Value} (h : HeapOk bx E G w) (hh : w'.heap = w.heap.push (.cells vs.toArray T (0, 0)))
   (ho : w'.os = w.os) (ht : w'.tape = w.tape) (hp : w'.output = w.output) :
   HeapOk bx E (addG G w.heap.size vs) w' ∧ Ext bx E G w bx E (addG G w.heap.size vs) w' := by
 have hheap : ∀ b, b < w.heap.size → w'.heap[b]? = w.heap[b]? := fun b hb => by
   rw [hh, Array.getElem?_push]; simp [Nat.ne_of_lt hb]
 have hG : ∀ o, G w.heap.size o = none := fun o => by
   cases hgo : G w.heap.size o with
   | none => rfl
   | some v => have := cell_lt (h.gw _ _ _ hgo); omega
 have hle : HeapLe G (addG G w.heap.size vs) := fun b o v hb => by
   unfold addG; split
   · rename_i h0; subst h0; simp [hG] at hb
   · exact hb
 have hsz : w'.heap.size = w.heap.size + 1 := by simp [hh]
 refine ⟨⟨fun b o v hb => ?_, fun m => ?_, h.sep, fun b hb => ?_⟩, ho, ht, hp, fun a _ => frozen_push hh a, by omega, .refl _, hle, fun b hb _ => ⟨hheap b hb, ?_⟩, fun b hb => .inr hb⟩
 · unfold addG at hb; split at hb
   · rename_i h0; subst h0
     simp only [World.cell?, hh, Array.getElem?_push_size, List.getElem?_toArray]
     simpa using hb
   · have := h.gw b o v hb
     rw [cell_of_heap (hheap b (cell_lt this))]; exact this
 · exact (h.box m).mono (.refl _) hle (by omega) fun l' b hl' hb' hc => by
     have hlt := (h.off b ⟨m, l', hc, hl', hb'⟩).1
     exact ⟨hheap b hlt, by funext o; unfold addG; rw [if_neg (by omega)]⟩
 · have := h.off b hb
   refine ⟨by omega, fun o => ?_⟩
   unfold addG; rw [if_neg (by omega)]; exact this.2 o
 · funext o; unfold addG; rw [if_neg (by omega)]
end
end Go.AI
end

section
namespace Go.AI
def splice (cs : List AV) (o : Nat) (new : List AV) : List AV := cs.take o ++ new ++ cs.drop (o + new.length)
def Box.cells? : Box → Option (List AV) | .var cs | .buf _ cs => some cs | _ => Option.none
def Box.withCells : Box → List AV → Box | .var _, cs => .var cs | .buf s _, cs => .buf s cs | b, _ => b
section
variable {P : Program} {E E' : Env} {G G' : Heap} {w w' : World} {ρ : Operand → AV} {a : Act} {bx : Nat → Box}
theorem RelL.splice {cs new : List AV} {vs us : List Value} {o : Nat} (h : RelL E G cs vs) (h' : RelL E G new us) :
   RelL E G (splice cs o new) (vs.take o ++ us ++ vs.drop (o + us.length)) := by
 have := h'.length
 unfold AI.splice
 rw [this]
 exact ((h.take o).append h').append (h.drop _)
theorem BoxOk.cells {c : Box} {l : Option Loc} {cs : List AV} (h : BoxOk E G w c l) (hc : c.cells? = some cs) {k : Loc} {blk : Nat} (hl : l = some k) (hb : k.blk? = some blk) :
   ∃ (vs rest : List Value) (T : TypeId), w.heap[blk]? = some (.cells (vs ++ rest).toArray T (0, 0)) ∧ RelL E G cs vs ∧ Ones vs := by
 subst hl
 cases c <;> simp only [Box.cells?, Option.some.injEq, reduceCtorEq] at hc
 · subst hc
   cases k <;> simp only [BoxOk] at h
   simp only [Loc.blk?, Option.some.injEq] at hb; subst hb
   obtain ⟨vs, T, h1, h2, h3⟩ := h
   exact ⟨vs, [], T, by simpa using h1, h2, h3⟩
 · subst hc
   cases k <;> simp only [BoxOk] at h
   · simp only [Loc.blk?, Option.some.injEq] at hb; subst hb
     obtain ⟨_, vs, rest, T, h1, h2, h3, _⟩ := h
     exact ⟨vs, rest, T, h1, h2, h3⟩
   · simp [Loc.blk?] at hb
theorem cells_of_heap {blk : Nat} {vs rest : List Value} {T : TypeId} (h : w.heap[blk]? = some (.cells (vs ++ rest).toArray T (0, 0))) : Cells w blk 0 vs := by
 intro j v hv
 have hj := (List.getElem?_eq_some_iff.1 hv).1
 simp only [World.cell?, h, Nat.zero_add, List.getElem?_toArray, Option.isSome_none, Bool.false_eq_true, if_false]
 rw [List.getElem?_append_left hj]
 exact hv
theorem heap_setRow_other {g k : Nat} {cs : Array Value} (h : k ≠ g) : (w.setRow g cs).heap[k]? = w.heap[k]? := setRow_other w g k cs h
theorem frozen_setRow (w : World) (g : Nat) (cs : Array Value) (a : Addr) : (w.setRow g cs).frozen? a = w.frozen? a := by
 by_cases h : a.block = g
 · unfold World.frozen? World.setRow
   subst h
   simp only [Array.getElem?_modify, if_true]
   cases w.heap[a.block]? with
   | none => rfl
   | some o => cases o <;> rfl
 · simp [World.frozen?, setRow_other w g a.block cs h]
theorem HeapOk.write {n blk : Nat} {l : Loc} {cs cs' : List AV} {vs vs' rest : List Value} {T : TypeId} (h : HeapOk bx E G w) (hc : (bx n).cells? = some cs)
   (hE : E n = some l) (hb : l.blk? = some blk) (hh : w.heap[blk]? = some (.cells (vs ++ rest).toArray T (0, 0))) (hr : RelL E G cs vs)
   (hr' : RelL E G cs' vs') (ho : Ones vs') (hlen : cs'.length = cs.length) :
   HeapOk (upd bx n ((bx n).withCells cs')) E G (w.setRow blk (vs' ++ rest).toArray) ∧
     Ext bx E G w (upd bx n ((bx n).withCells cs')) E G (w.setRow blk (vs' ++ rest).toArray) := by
 have hlive : (bx n).live = true := by cases hbn : bx n <;> simp [hbn, Box.cells?, Box.live] at hc ⊢
 have hlive' : ∀ m, (upd bx n ((bx n).withCells cs') m).live = (bx m).live := fun m => by
   by_cases hm : m = n
   · subst hm; simp only [upd_same]; cases bx m <;> rfl
   · rw [upd_ne _ _ _ _ hm]
 have hbh := Loc.has_of hb
 have hL : ∀ b, Live (upd bx n ((bx n).withCells cs')) E b ↔ Live bx E b := fun b => by
   constructor <;> rintro ⟨m, k, h1, h2, h3⟩ <;> exact ⟨m, k, by simpa [hlive'] using h1, h2, h3⟩
 have hv := hr.length
 have hv' := hr'.length
 have hGb : ∀ o, G blk o = none := (h.off blk ⟨n, l, hlive, hE, hbh⟩).2
 have hnew := setRow_heap w blk _ (vs' ++ rest).toArray T (0, 0) hh
 refine ⟨⟨fun b o v hg => ?_, fun m => ?_, fun m m' k k' b h1 h2 => h.sep m m' k k' b (by simpa [hlive'] using h1) (by simpa [hlive'] using h2), fun b hb' => ?_⟩, rfl, rfl, rfl, fun a _ => (frozen_setRow _ _ _) a, by simp, .refl _, .refl _, fun b hb' hn => ?_, fun b hb' => .inr ((hL b).1 hb')⟩
 · have hne : b ≠ blk := fun e => by subst e; simp [hGb] at hg
   rw [cell_of_heap (heap_setRow_other hne)]; exact h.gw b o v hg
 · by_cases hm : m = n
   · subst hm
     simp only [upd_same]
     have hbox := h.box m
     rw [hE] at hbox ⊢
     cases hbm : bx m <;> simp only [hbm, Box.cells?, Option.some.injEq, reduceCtorEq] at hc
     · subst hc
       rw [hbm] at hbox
       cases l <;> simp only [BoxOk] at hbox
       simp only [Loc.blk?, Option.some.injEq] at hb; subst hb
       simp only [Box.withCells, BoxOk]
       obtain ⟨us, T', h1, h2, h3⟩ := hbox
       have hu := h2.length
       rw [h1] at hh
       simp only [Option.some.injEq, Obj.cells.injEq, true_and, and_true] at hh
       have hrest : rest = [] := by
         have := congrArg (fun a => a.toList.length) hh.1
         simp at this
         have h5 : rest.length = 0 := by omega
         exact List.eq_nil_of_length_eq_zero h5
       subst hrest
       exact ⟨vs', T, by simpa using hnew, hr', ho⟩
     · subst hc
       rw [hbm] at hbox
       cases l <;> simp only [BoxOk] at hbox
       · simp only [Loc.blk?, Option.some.injEq] at hb; subst hb
         simp only [Box.withCells, BoxOk]
         obtain ⟨h0, us, rest', T', h1, h2, h3, h4⟩ := hbox
         have hu := h2.length
         rw [h1] at hh
         simp only [Option.some.injEq, Obj.cells.injEq, true_and, and_true] at hh
         have hlen2 : (us ++ rest').length = (vs ++ rest).length := by
           have := congrArg (fun a => a.toList.length) hh.1
           simpa using this
         refine ⟨h0, vs', rest, T, hnew, hr', ho, ?_⟩
         simp at hlen2 h4 ⊢; omega
       · simp [Loc.blk?] at hb
   · rw [upd_ne _ _ _ _ hm]
     refine (h.box m).mono (.refl _) (.refl _) (by simp) fun l' b hl' hb' hcl => ⟨heap_setRow_other fun e => ?_, rfl⟩
     subst e
     exact hm (h.sep m n l' l b hcl hlive hl' hE hb' hbh)
 · have := h.off b ((hL b).1 hb')
   exact ⟨by simpa using this.1, this.2⟩
 · refine ⟨heap_setRow_other fun e => hn ?_, rfl⟩
   subst e
   exact ⟨n, l, hlive, hE, hbh⟩
theorem comp_congr {ρ' : Operand → AV} {op : Op} (h : ∀ y ∈ op.operands, ρ y = ρ' y) : comp P ρ op = comp P ρ' op := by
 cases op <;> simp only [comp]
 case pick c x y => simp [Op.operands] at h; simp [h]
 case slice t x lo hi mx =>
   simp only [Op.operands] at h
   cases lo <;> cases hi <;> cases mx <;> simp at h <;> simp [h]
 case makeFunc fn first caps =>
   simp only [Op.operands] at h
   cases fn <;> simp only
   split
   · congr 2
     apply List.map_congr_left
     intro y hy
     exact h y (by simp; exact .inr (by simpa using hy))
   · rfl
 case call c =>
   have hm : c.args.toList.map ρ = c.args.toList.map ρ' := List.map_congr_left fun y hy => h y (by simp [Op.operands, Call.operands]; exact .inr (by simpa using hy))
   have h1 : ∀ y, c.args.toList = [y] → ρ y = ρ' y := fun y hy => h y (by simp [Op.operands, Call.operands]; right; rw [← Array.mem_toList_iff, hy]; simp)
   split <;> first
     | rfl
     | (split <;> first | rfl | (rename_i hy; rw [h1 _ hy]))
     | rw [hm]
 all_goals simp [Op.operands] at h
 all_goals simp [h]
open Classical in
theorem Mems.pure {o : Oper} {x : AV} (h : comp P ρ o.op = some x) : Mems P ρ bx o x bx := by
 intro a w E G hρ hok K Q hk
 let ρ' : Operand → AV := fun y => if y ∈ o.op.operands then ρ y else .junk
 have hρ' : ∀ y, Rel E G (ρ' y) (a.eval y) := fun y => by
   by_cases hy : y ∈ o.op.operands
   · simp only [ρ', hy, if_true]; exact hρ y hy
   · simp only [ρ', hy, if_false, Rel]
 have h' : comp P ρ' o.op = some x := by rw [← h]; exact comp_congr fun y hy => by simp [ρ', hy]
 obtain ⟨v, hr, hx⟩ := comp_sound hρ' hok.gw o h'
 refine .inl ?_
 unfold Oper.wp
 rw [hr]
 exact hk v w E G hx hok (.refl _ _ _ _)
theorem Mems.load {o : Oper} {t : TypeId} {y : Operand} {n off : Nat} {cs : List AV} {x : AV} (ho : o.op = .load t y) (hy : ρ y = .ptr n off)
   (hc : (bx n).cells? = some cs) (h : sub P t cs off = some x) : Mems P ρ bx o x bx := by
 intro a w E G hρ hok K Q hk
 have hp := hρ y (by simp [ho, Op.operands])
 rw [hy] at hp
 simp only [Rel] at hp
 obtain ⟨l, blk, hE, hb, hv⟩ := hp
 obtain ⟨vs, rest, T, h1, h2, h3⟩ := (hok.box n).cells hc hE hb
 obtain ⟨v, hr, hx⟩ := run_loadVar (P := P) (cells_of_heap h1) h2 h3 h
 simp only [Nat.zero_add] at hr
 refine .inl ?_
 unfold Oper.wp
 have : (execOp a.eval o).run P w = .ok (.value v) w := by simp [execOp, ho, hv, Instr.loadAt, Instr.sureAddr, hr]
 rw [this]
 exact hk v w E G hx hok (.refl _ _ _ _)
theorem Mems.store {o : Oper} {t : TypeId} {y z : Operand} {n off : Nat} {cs : List AV} {b : Box} (ho : o.op = .store t y z) (hy : ρ y = .ptr n off)
   (hbn : bx n = b) (hc : b.cells? = some cs) (hz : (ρ z).plain = true) (hs : sz P t = (ρ z).cells.length) (hs0 : (ρ z).cells.length ≠ 0)
   (hl : off + (ρ z).cells.length ≤ cs.length) :
   Mems P ρ bx o .junk (upd bx n (b.withCells (splice cs off (ρ z).cells))) := by
 intro a w E G hρ hok K Q hk
 subst hbn
 have hp := hρ y (by simp [ho, Op.operands])
 have hzv := hρ z (by simp [ho, Op.operands])
 rw [hy] at hp
 simp only [Rel] at hp
 obtain ⟨l, blk, hE, hb, hv⟩ := hp
 obtain ⟨vs, rest, T, h1, h2, h3⟩ := (hok.box n).cells hc hE hb
 obtain ⟨hz1, hz2⟩ := hzv.cells hz
 have e1 := hz1.length
 have e2 := h2.length
 have hst := run_storeCells_at P blk off T (a.eval z).cells.toList 0 (vs ++ rest).toArray w h1 (by simp at e1 ⊢; omega) hz2
 simp only [Nat.add_zero] at hst
 have hsp : (vs ++ rest).take off ++ (a.eval z).cells.toList ++ (vs ++ rest).drop (off + (a.eval z).cells.toList.length) =
     (vs.take off ++ (a.eval z).cells.toList ++ vs.drop (off + (a.eval z).cells.toList.length)) ++ rest := by
   rw [List.take_append_of_le_length (by omega), List.drop_append_of_le_length (by omega)]
   simp
 rw [hsp] at hst
 have hlen : (splice cs off (ρ z).cells).length = cs.length := by simp [splice]; omega
 have hones : Ones (vs.take off ++ (a.eval z).cells.toList ++ vs.drop (off + (a.eval z).cells.toList.length)) := ((h3.take _).append hz2).append (h3.drop _)
 obtain ⟨hok', hext⟩ := hok.write hc hE hb h1 h2 (h2.splice hz1) hones hlen
 have hrun : (execOp a.eval o).run P w = .ok .skip (w.setRow blk ((vs.take off ++ (a.eval z).cells.toList ++ vs.drop (off + (a.eval z).cells.toList.length)) ++ rest).toArray) := by
   have hsz : (sizeOf t).run P w = .ok (sz P t) w := run_sizeOf' (by omega)
   have e3 : (a.eval z).cells.size = sz P t := by simp at e1; omega
   simp only [execOp, ho, Instr.storeAt, hv, Instr.sureAddr, storeVar, Sem.run_bind, Sem.run_pure, Result.andThen_ok, hsz, e3, ne_eq, not_true_eq_false, if_false, hst]
 refine .inl ?_
 unfold Oper.wp
 rw [hrun]
 exact hk undef _ E G (by simp [Rel]) hok' hext
theorem run_zero {t : TypeId} {i : TypeInfo} {v : Value} (hi : P.info? t = some i) (hz : i.zero = some v) : (zeroValue t).run P w = .ok v w := by
 simp [zeroValue, run_typeInfo hi, hz]
theorem zr_spec {t : TypeId} {x : AV} (h : zr P t = x) (hx : x.plain = true) : ∃ v, (∀ w, (zeroValue t).run P w = .ok v w) ∧ ∀ E G, Rel E G x v := by
 unfold zr at h
 cases hi : P.info? t with
 | none => simp [hi] at h; subst h; simp [AV.plain] at hx
 | some i =>
   cases hz : i.zero with
   | none => simp [hi, hz] at h; subst h; simp [AV.plain] at hx
   | some v =>
     simp only [hi, hz, Option.bind_some] at h
     exact ⟨v, fun w => run_zero hi hz, fun E G => h ▸ cv_rel v⟩
theorem newVar_ok {n : Nat} {t : TypeId} {x : AV} {v : Value} (hn : bx n = .none) (hx : x.plain = true) (hr : Rel E G x v) (hok : HeapOk bx E G w) :
   ∃ w', (newVar t v).run P w = .ok ⟨w.heap.size, 0, none⟩ w' ∧ HeapOk (upd bx n (.var x.cells)) (setE E n (.var w.heap.size)) G w' ∧
     Ext bx E G w (upd bx n (.var x.cells)) (setE E n (.var w.heap.size)) G w' := by
 obtain ⟨h1, h2⟩ := hr.cells hx
 have hEn : E n = none := by have := hok.box n; rw [hn] at this; simpa [BoxOk] using this
 have he : EnvLe E (setE E n (.var w.heap.size)) := fun m k hm _ => by
   unfold setE; split
   · rename_i h0; subst h0; simp [hEn] at hm
   · exact hm
 refine ⟨{ w with heap := w.heap.push (.cells v.cells t) }, by simp [newVar, newRow], ?_⟩
 refine hok.push hn rfl ⟨_, _, rfl⟩ rfl rfl rfl rfl ?_
 simp only [BoxOk]
 exact ⟨v.cells.toList, t, by simp, RelL.mono he (.refl _) _ _ h1, h2⟩
theorem Mems.box {o : Oper} {t : TypeId} {y : Operand} {n : Nat} (ho : o.op = .box t y) (hn : bx n = .none) (hx : (ρ y).plain = true) :
   Mems P ρ bx o (.ptr n 0) (upd bx n (.var (ρ y).cells)) := by
 intro a w E G hρ hok K Q hk
 obtain ⟨w', hr, hok', hext⟩ := newVar_ok (P := P) (t := t) hn hx (hρ y (by simp [ho, Op.operands])) hok
 have hrun : (execOp a.eval o).run P w = .ok (.value (.pointer (some ⟨w.heap.size, 0, none⟩))) w' := by simp [execOp, ho, Instr.box, hr]
 refine .inl ?_
 unfold Oper.wp
 rw [hrun]
 refine hk _ w' _ G ?_ hok' hext
 simp only [Rel]
 exact ⟨.var w.heap.size, w.heap.size, by simp [setE], rfl, rfl⟩
theorem Mems.alloc {o : Oper} {t : TypeId} {n : Nat} {x : AV} (ho : o.op = .alloc t) (hn : bx n = .none) (hz : zr P t = x) (hx : x.plain = true) :
   Mems P ρ bx o (.ptr n 0) (upd bx n (.var x.cells)) := by
 intro a w E G hρ hok K Q hk
 obtain ⟨v, hz1, hz2⟩ := zr_spec hz hx
 obtain ⟨w', hr, hok', hext⟩ := newVar_ok (P := P) (t := t) hn hx (hz2 E G) hok
 have hrun : (execOp a.eval o).run P w = .ok (.value (.pointer (some ⟨w.heap.size, 0, none⟩))) w' := by simp [execOp, ho, Instr.alloc, hz1, hr]
 refine .inl ?_
 unfold Oper.wp
 rw [hrun]
 refine hk _ w' _ G ?_ hok' hext
 simp only [Rel]
 exact ⟨.var w.heap.size, w.heap.size, by simp [setE], rfl, rfl⟩
end
end Go.AI
end

section
namespace Go.AI
structure Turn (r : Nat) (w w' : World) : Prop where
 os : w'.os = w.os
 tape : w'.tape = w.tape
 output : w'.output = w.output
 fz : ∀ a, w'.frozen? a = w.frozen? a
 size : w.heap.size ≤ w'.heap.size
 heap : ∀ b, b ≠ r → w'.heap[b]? = w.heap[b]?
 none : ∀ o, w.cell? ⟨r, o, .none⟩ = .none
section
variable {E : Env} {G : Heap} {w w' : World} {bx : Nat → Box} {C : Ctx} {st : St} {r : Nat}
theorem Turn.put {o o' : Obj} (h : w.heap[r]? = some o) (h1 : Obj.isC o = false) (h2 : Obj.isC o' = false) : Turn r w (w.putObj r o') := by
 have hlt := (Array.getElem?_eq_some_iff.1 h).1
 refine ⟨rfl, rfl, rfl, fun a => ?_, by simp, fun b hb => World.putObj_heap_other hb, fun off => ?_⟩
 · unfold World.frozen?
   by_cases ha : a.block = r
   · rw [ha, World.putObj_heap_same hlt, h]
     cases o <;> cases o' <;> simp_all [Obj.isC]
   · rw [World.putObj_heap_other ha]
 · unfold World.cell?; simp only [h]; cases o <;> simp_all [Obj.isC]
theorem HeapOk.turn (h : HeapOk bx E G w) (t : Turn r w w') (hr : ¬ Live bx E r) : HeapOk bx E G w' := by
 refine ⟨fun b o v hg => ?_, fun n => ?_, h.sep, fun b hb => ⟨Nat.lt_of_lt_of_le (h.off b hb).1 t.size, (h.off b hb).2⟩⟩
 · have h1 := h.gw b o v hg
   by_cases hb : b = r
   · subst hb; rw [t.none o] at h1; cases h1
   · rw [cell_of_heap (t.heap b hb)]; exact h1
 · exact (h.box n).mono (.refl _) (.refl _) t.size fun l b hl hb hc => ⟨t.heap b fun e => hr (e ▸ ⟨n, l, hc, hl, hb⟩), rfl⟩
theorem ExtS.turn {own : Nat → Prop} {G0 : Heap} {w0 : World} (h : ExtS own G0 w0 bx E G w) (t : Turn r w w') (hr : w0.heap.size ≤ r) : ExtS own G0 w0 bx E G w' :=
 ⟨t.os.trans h.os, t.tape.trans h.tape, t.output.trans h.output, fun a ha => (t.fz a).trans (h.fz a ha), Nat.le_trans h.size t.size, h.heap,
   fun b hb ho => ⟨(t.heap b (by omega)).trans (h.frame b hb ho).1, (h.frame b hb ho).2⟩, h.newb⟩
theorem marks_taken {P : Program} {cs : List Frame} : ∀ (ms : List Nat) (fr : Frame) (w : World), fr.mode = .returning → fr.defers = ms.map markOf → ms.Nodup →
   (∀ r, r ∈ ms → w.heap[r]? = some (.deferred (some [])) ∧ ¬ Live bx E r ∧ C.w.heap.size ≤ r) → HeapOk bx E G w → ExtS C.own C.G C.w bx E G w →
   ∃ w', HeapOk bx E G w' ∧ ExtS C.own C.G C.w bx E G w' ∧ Steps P (lone fr cs w) (lone { fr with defers := [] } cs w')
 | [], fr, w, h1, h2, h3, h4, h5, h6 => ⟨w, h5, h6, by
     have : { fr with defers := [] } = fr := by simp only [List.map_nil] at h2; rw [← h2]
     rw [this]; exact .refl _ _⟩
 | r :: ms, fr, w, h1, h2, h3, h4, h5, h6 => by
   obtain ⟨g1, g2, g3⟩ := h4 r (by simp)
   have t := Turn.put (o' := .deferred none) g1 rfl rfl
   rw [List.nodup_cons] at h3
   have hs := step_collected (P := P) (cs := cs) (fr := fr) (by rw [h1]; simp) h2 rfl (run_takeDeferred g1)
   obtain ⟨w', k1, k2, k3⟩ := marks_taken ms { fr with defers := [] ++ ms.map markOf } (w.putObj r (.deferred none)) h1 rfl h3.2
     (fun q hq => by
       obtain ⟨q1, q2, q3⟩ := h4 q (by simp [hq])
       exact ⟨(World.putObj_heap_other (by rintro rfl; exact h3.1 hq)).trans q1, q2, q3⟩) (h5.turn t g2) (h6.turn t g3)
   exact ⟨w', k1, k2, .trans (.one hs) k3⟩
end
end Go.AI
end

section
namespace Go.AI
def Callable (P : Program) (f : FuncId) : Prop := ∃ fn, P.funcs[f]? = some fn ∧ (fn.name == "runtime.NumGoroutine") = false ∧ fn.body.isNone = false
def GW (G : Heap) (w : World) : Prop := ∀ b o v, G b o = some v → w.cell? ⟨b, o, none⟩ = some v
def Rp (G : Heap) (w : World) (r : AV) : Ending → World → Prop := fun e w' => ∃ v G', e = .returned v ∧ Rel E0 G' r v ∧ GW G' w' ∧ Ext B0 E0 G w B0 E0 G' w'
def FnP (P : Program) (f : FuncId) (args : List AV) (r : AV) : Prop :=
 Callable P f ∧ ∀ (w : World) (G : Heap) (vs : List Value), GW G w → RelL E0 G args vs → Calls P f vs.toArray w (Rp G w r)
def CtxM (f : FuncId) (fn : Func) (ms : List Nat) (kp : List (Nat × Obj)) (G : Heap) (w : World) (r : AV) : Ctx := ⟨f, fn, none, ms, kp, [], fun _ => False, G, w, Rp G w r⟩
abbrev CtxP (f : FuncId) (fn : Func) (G : Heap) (w : World) (r : AV) : Ctx := CtxM f fn [] [] G w r
section
variable {P : Program} {E E' : Env} {G G' : Heap} {w w' : World} {ρ : Operand → AV} {a : Act} {bx : Nat → Box} {C : Ctx} {st st' : St}
theorem callFunc_run {f : FuncId} (h : Callable P f) (args : Array Value) : (callFunc f args).run P w = .ok (.enter f args) w := by
 obtain ⟨fn, h1, h2, h3⟩ := h
 unfold callFunc
 simp only [Sem.run_bind, run_program, Result.andThen_ok, h1, h2, h3, Bool.false_eq_true, if_false, Sem.run_pure]
theorem Mems.call {o : Oper} {c : Call} {fo : Operand} {f : FuncId} {caps : List AV} {r : AV} (ho : o.op = .call c) (hc : c.callee = .value fo)
   {args : List AV} (hf : ρ fo = .fn f caps) (hle : LeL (c.args.toList.map ρ ++ caps) args) (h : FnP P f args r) (hcl : ClL args = true) : Mems P ρ bx o r bx := by
 intro a w E G hρ hok K Q hk
 have hfo := hρ fo (by simp [ho, Op.operands, Call.operands, hc])
 rw [hf] at hfo
 simp only [Rel] at hfo
 obtain ⟨us, hv, hus⟩ := hfo
 have hargs : RelL E G (c.args.toList.map ρ) (c.args.toList.map a.eval) := by
   have : ∀ xs : List Operand, (∀ y ∈ xs, Rel E G (ρ y) (a.eval y)) → RelL E G (xs.map ρ) (xs.map a.eval) := by
     intro xs
     induction xs with
     | nil => intro _; exact RelL.nil
     | cons x xs ih => intro h; exact RelL.cons (h x (by simp)) (ih fun y hy => h y (by simp [hy]))
   exact this _ fun y hy => hρ y (by simp [ho, Op.operands, Call.operands]; exact .inr (by simpa using hy))
 have hall := RelL.closed _ _ hcl (hle _ _ _ (hargs.append hus)) (E' := E0)
 have hcalls := h.2 w G _ hok.gw hall
 have hrun : (execOp a.eval o).run P w = .ok (.enter f (c.args.toList.map a.eval ++ us).toArray) w := by
   have e1 : (c.args.map a.eval) ++ us.toArray = (c.args.toList.map a.eval ++ us).toArray := by apply Array.ext'; simp
   simp only [execOp, ho, resolve, hc, hv, Deferred.ofValue, Sem.run_bind, Sem.run_pure, Result.andThen_ok, invoke, Array.empty_append, e1]
   exact callFunc_run h.1 _
 refine .inl ?_
 unfold Oper.wp
 rw [hrun, Oper.upon_enter]
 refine Calls.mono hcalls fun e w'' he => ?_
 obtain ⟨v, G', rfl, hx, hg, hext⟩ := he
 obtain ⟨h1, h2⟩ := hok.quiet hg hext
 exact hk v w'' E G' (hx.mono (E0_le E) (.refl _)) h1 h2
def tmOf (args : List AV) : Nat → AV := fun t => args.getD t .junk
theorem calls_of_wk {C : Ctx} {c : Code} {args : List AV} {bx : Nat → Box} {E : Env} {G : Heap} {w : World} {vs : List Value} (hf : P.funcs[C.f]? = some C.fn) (hb : C.fn.body = some c) (hrd : C.rd = none) (hms : C.ms = [])
   (hkp : C.kp = []) (han : ∀ p, p ∈ C.an → p.2.fr = false → E p.1 = some p.2) (hG : C.G = G) (hw : C.w = w) (hown : ∀ b, Live bx E b → C.own b) (hok : HeapOk bx E G w) (hr : RelL E G args vs) (h : WK P C [.code c] ⟨tmOf args, bx, 0⟩) :
   Calls P C.f vs.toArray w C.R := by
 intro cs
 let b : Frame := { (default : Frame) with fn := C.f, kind := .normal, roundOf := none }
 have henter : Frame.enter P C.f vs.toArray .normal =
     b.atR { tmps := vs.toArray ++ Array.replicate (C.fn.ntmps - vs.toArray.size) undef, defers := [] } [.code c] := by
   rw [Frame.atR_of_none rfl]
   simp [Frame.enter, Frame.at, hf, hb, b]
 have hst : StRel C ⟨tmOf args, bx, 0⟩ { tmps := vs.toArray ++ Array.replicate (C.fn.ntmps - vs.toArray.size) undef, defers := [] } w E G := by
   refine ⟨by simp; omega, fun t => ?_, by rw [hms]; rfl, hok, ?_, fun b o hb => (by rw [hkp] at hb; cases hb), han, by rw [MsOk, hms, hkp]; simp⟩
   · simp only [tmOf, List.getD_eq_getElem?_getD]
     cases ha : args[t]? with
     | none => simp [Rel]
     | some x =>
       obtain ⟨v, hv, hx⟩ := hr.get ha
       have : t < vs.length := (List.getElem?_eq_some_iff.1 hv).1
       simp only [Option.getD_some, Array.getD_eq_getD_getElem?]
       rw [Array.getElem?_append_left (by simpa using this)]
       simpa [hv] using hx
   · rw [hG, hw]
     exact ⟨rfl, rfl, rfl, fun _ _ => rfl, Nat.le_refl _, .refl _, fun _ _ _ => ⟨rfl, rfl⟩, fun b hb => .inr (hown b hb)⟩
 obtain ⟨e, w', hR, hfin⟩ := h _ w E G hst b cs rfl rfl (by rw [hrd])
 unfold Fin at hfin
 rw [hrd] at hfin
 obtain ⟨fr, hc, hfr, hl⟩ := hfin
 exact ⟨e, w', fr, hR, henter ▸ hc, hfr, hl⟩
theorem HeapOk.start (hg : GW G w) : HeapOk B0 E0 G w :=
 ⟨hg, fun n => by simp [B0, BoxOk, E0], fun n m l k b h1 => by simp [B0, Box.live] at h1, fun b h1 => by obtain ⟨n, l, h1, _⟩ := h1; simp [B0, Box.live] at h1⟩
theorem FnP.i {f : FuncId} {fn : Func} {c : Code} {args : List AV} {r : AV} (hf : P.funcs[f]? = some fn) (hn : (fn.name == "runtime.NumGoroutine") = false)
   (hb : fn.body = some c) (h : ∀ G w, WK P (CtxP f fn G w r) [.code c] ⟨tmOf args, B0, 0⟩) : FnP P f args r :=
 ⟨⟨fn, hf, hn, by simp [hb]⟩, fun w G vs hg hr => calls_of_wk (C := CtxP f fn G w r) hf hb rfl rfl rfl (fun p hp => by cases hp) rfl rfl (fun b h1 => by obtain ⟨n, l, h1, _⟩ := h1; simp [B0, Box.live] at h1) (.start hg) hr (h G w)⟩
def resOne (P : Program) (st : St) : ResultVar → Option AV
 | .tmp t => some (st.tm t)
 | .cell t ty => match st.tm t with
   | .ptr n off => match (st.bx n).cells? with | some cs => sub P ty cs off | none => none
   | .iptr cs => sub P ty cs 0
   | _ => none
def resL (P : Program) (st : St) : List ResultVar → Option (List AV)
 | [] => some []
 | r :: rs => match resOne P st r, resL P st rs with | some x, some xs => some (x :: xs) | _, _ => none
def packA : List AV → AV | [x] => x | xs => .tup xs
def resSem (tmps : Array Value) : ResultVar → Sem Value
 | .tmp t => pure (tmps.getD t undef)
 | .cell ad t => do loadVar t (← asAddr (tmps.getD ad undef))
theorem resOne_sound {r : ResultVar} {x : AV} (htm : ∀ t, Rel E G (st.tm t) (a.tmps.getD t undef)) (hok : HeapOk st.bx E G w) (h : resOne P st r = some x) :
   ∃ v, (resSem a.tmps r).run P w = .ok v w ∧ Rel E G x v := by
 cases r with
 | tmp t => simp only [resOne, Option.some.injEq] at h; subst h; exact ⟨_, rfl, htm t⟩
 | cell t ty =>
   simp only [resOne] at h
   have ht := htm t
   split at h
   · rename_i n off hn
     rw [hn] at ht
     simp only [Rel] at ht
     obtain ⟨l, blk, hE, hb, hv⟩ := ht
     split at h
     · rename_i cs hc
       obtain ⟨vs, rest, T, h1, h2, h3⟩ := (hok.box n).cells hc hE hb
       obtain ⟨v, hr, hx⟩ := run_loadVar (P := P) (cells_of_heap h1) h2 h3 h
       simp only [Nat.zero_add] at hr
       exact ⟨v, by simp [resSem, hv, asAddr, hr], hx⟩
     · cases h
   · rename_i cs hn
     rw [hn] at ht
     simp only [Rel] at ht
     obtain ⟨b, off, vs, hv, h1, h2, h3⟩ := ht
     obtain ⟨v, hr, hx⟩ := run_loadVar (P := P) (w := w) (fun j v hj => hok.gw _ _ _ (h2 j v hj)) h1 h3 h
     simp only [Nat.add_zero] at hr
     exact ⟨v, by simp [resSem, hv, asAddr, hr], hx⟩
   · cases h
theorem resL_sound (htm : ∀ t, Rel E G (st.tm t) (a.tmps.getD t undef)) (hok : HeapOk st.bx E G w) : ∀ {rs : List ResultVar} {xs : List AV}, resL P st rs = some xs →
   ∃ vs, (rs.mapM (resSem a.tmps)).run P w = .ok vs w ∧ RelL E G xs vs
 | [], xs, h => by simp only [resL, Option.some.injEq] at h; subst h; exact ⟨[], by simp, RelL.nil⟩
 | r :: rs, xs, h => by
   simp only [resL] at h
   split at h
   · rename_i x ys h1 h2
     simp only [Option.some.injEq] at h; subst h
     obtain ⟨v, e1, hx⟩ := resOne_sound htm hok h1
     obtain ⟨vs, e2, hxs⟩ := resL_sound htm hok h2
     refine ⟨v :: vs, ?_, RelL.cons hx hxs⟩
     simp only [List.mapM_cons, Sem.run_bind]
     rw [e1]
     simp only [Result.andThen_ok]
     rw [e2]
     simp
   · cases h
theorem results_run {fn : Func} {xs : List AV} (htm : ∀ t, Rel E G (st.tm t) (a.tmps.getD t undef)) (hok : HeapOk st.bx E G w) (h : resL P st fn.results.toList = some xs) :
   ∃ v, (results fn a.tmps).run P w = .ok v w ∧ Rel E G (packA xs) v := by
 obtain ⟨vs, e, hxs⟩ := resL_sound htm hok h
 have hq : results fn a.tmps = (do let vs ← fn.results.mapM (resSem a.tmps); pure (if h : vs.size = 1 then vs[0] else .tuple vs)) := by
   unfold results
   congr 2
 rw [hq, Array.mapM_eq_mapM_toList, Sem.run_bind, Sem.run_map]
 rw [e]
 simp only [Result.andThen_ok, Sem.run_pure]
 refine ⟨_, rfl, ?_⟩
 have hl := hxs.length
 unfold packA
 split
 · obtain ⟨v, rfl, hx⟩ := hxs.single
   simpa using hx
 · rename_i hne
   have : vs.length ≠ 1 := by
     rw [hl]; intro h1
     match xs, h1 with
     | [x], _ => exact hne x rfl
   simp only [List.size_toArray, this, dite_false, Rel]
   exact ⟨vs, rfl, hxs⟩
theorem WK.retGen {k : List Item} {xs : List AV} (h : resL P st C.fn.results.toList = some xs) (hfn : P.funcs[C.f]? = some C.fn) (hk : k = [] ∨ ∃ k', k = .code .ret :: k') (hrd : C.rd = none)
   (hR : ∀ w E G v, HeapOk st.bx E G w → ExtS C.own C.G C.w st.bx E G w → (∀ p, p ∈ C.an → p.2.fr = false → E p.1 = some p.2) → Rel E G (packA xs) v → C.R (.returned v) w) : WK P C k st := by
 intro a w E G hst b cs hf hkd hrb
 have hrb' : b.roundOf = none := by rw [hrb, hrd]
 have key : ∀ todo, Steps P (lone (b.atR a k) cs w) (lone { b.atR a todo with mode := .returning } cs w) →
     ∃ e w', C.R e w' ∧ Fin P C (lone (b.atR a k) cs w) cs e w' := fun todo hs => by
   obtain ⟨w', h1, h2, h3⟩ := marks_taken (P := P) (C := C) (cs := cs) C.ms { b.atR a todo with mode := .returning } w rfl hst.df hst.ms.1
     (fun r hr => ⟨(hst.keep _ _ (hst.ms.2.1 r hr).1).1, (hst.keep _ _ (hst.ms.2.1 r hr).1).2, (hst.ms.2.1 r hr).2⟩) hst.ok hst.ext
   obtain ⟨v, e, hx⟩ := results_run hst.tm h1 h
   refine ⟨.returned v, w', hR w' E G v h1 h2 hst.an hx, ?_⟩
   unfold Fin
   rw [hrd]
   exact ⟨_, .of_steps hs h3, hf, rfl, rfl, hkd, C.fn, by rw [← hf] at hfn; exact hfn, e⟩
 rcases hk with rfl | ⟨k', rfl⟩
 · exact key [] (.one (stepR_end hrb'))
 · exact key _ (.one (stepR_ret hrb'))
theorem WK.retP {f : FuncId} {fn : Func} {r : AV} {k : List Item} {xs : List AV} (hC : C.f = f ∧ C.fn = fn ∧ C.rd = none ∧ C.an = [] ∧ (C.own = fun _ => False) ∧ C.G = G ∧ C.w = w ∧ C.R = Rp G w r) (hfn : P.funcs[f]? = some fn) (h : resL P st fn.results.toList = some xs) (hr : Le (packA xs) r) (hc : Cl r = true)
   (hk : k = [] ∨ ∃ k', k = .code .ret :: k') : WK P C k st := by
 obtain ⟨rfl, rfl, h3, h4, h5, rfl, rfl, h8⟩ := hC
 refine WK.retGen h hfn hk h3 fun w' E' G' v hok this _ hx => ?_
 rw [h8]
 refine ⟨v, G', rfl, (hr _ _ _ hx).closed _ _ hc, hok.gw, ?_⟩
 rw [h5] at this
 exact ⟨this.os, this.tape, this.output, this.fz, this.size, .refl _, this.heap, fun b hb _ => this.frame b hb (fun h => h), fun b hb => by obtain ⟨n, l, h1, _⟩ := hb; simp [B0, Box.live] at h1⟩
theorem WK.t {f : FuncId} {fn : Func} {ms : List Nat} {kp : List (Nat × Obj)} {r : AV} {k : List Item} (hfn : P.funcs[f]? = some fn) (h : match resL P st fn.results.toList with | some xs => Le (packA xs) r | none => False) (hc : Cl r = true) :
   WK P (CtxM f fn ms kp G w r) (.code .ret :: k) st := by
 cases hx : resL P st fn.results.toList with
 | none => simp [hx] at h
 | some xs => exact WK.retP ⟨rfl, rfl, rfl, rfl, rfl, rfl, rfl, rfl⟩ hfn hx (by simpa [hx] using h) hc (.inr ⟨k, rfl⟩)
end
end Go.AI
end

section
namespace Go.AI
inductive Cls where | p | r | w | rn (n : Nat) | wn (n : Nat) | wl (l : List Nat)
 deriving DecidableEq
def compat : Cls → Cls → Bool
 | .p, _ => true
 | _, .p => true
 | .r, .r => true
 | .r, .rn _ => true
 | .rn _, .r => true
 | .rn _, .rn _ => true
 | .rn n, .wn m => !Nat.beq n m
 | .wn n, .rn m => !Nat.beq n m
 | .wn n, .wn m => !Nat.beq n m
 | .wl l, .rn m => !l.contains m
 | .wl l, .wn m => !l.contains m
 | .rn m, .wl l => !l.contains m
 | .wn m, .wl l => !l.contains m
 | .wl l, .wl k => l.all fun n => !k.contains n
 | _, _ => false
def Agree : Cls → (Nat → Box) → (Nat → Box) → Prop
 | .p, _, _ => True
 | .rn n, b, b' => b n = b' n
 | .wn n, b, b' => b n = b' n
 | .wl l, b, b' => ∀ n, n ∈ l → b n = b' n
 | _, b, b' => b = b'
def Shape : Cls → ((Nat → Box) → (Nat → Box)) → Prop
 | .w, _ => True
 | .wn n, F => ∃ c, ∀ b, F b = upd b n c
 | .wl l, F => ∃ g : Nat → Box, ∀ b, F b = fun n => if n ∈ l then g n else b n
 | _, F => ∀ b, F b = b
inductive StepC (P : Program) (ops : Array Oper) (i : Nat) (c : Cls) : St → St → Prop
 | run {st : St} {o : Oper} {x : AV} (F : (Nat → Box) → (Nat → Box)) (ho : ops[i]? = some o) (hw : wantedA ops st.tm o = some true)
     (hs : Shape c F) (h : ∀ bx, Agree c bx st.bx → Mems P (evA st.tm) bx o x (F bx)) : StepC P ops i c st ⟨putA st.tm o.dst x, F st.bx, st.nx⟩
 | skip {st : St} {o : Oper} (ho : ops[i]? = some o) (hw : wantedA ops st.tm o = some false) :
     StepC P ops i c st ⟨putA st.tm o.dst (.tup []), st.bx, st.nx⟩
section
variable {P : Program} {ops : Array Oper} {E : Env} {G : Heap} {w : World} {a : Act} {C : Ctx} {st st' : St}
theorem Agree.refl (c : Cls) (b : Nat → Box) : Agree c b b := by cases c <;> simp [Agree]
theorem StepC.step1 {i : Nat} {c : Cls} (h : StepC P ops i c st st') : Step1 P ops i st st' := by
 cases h with
 | run F ho hw hs h => exact .run ho hw (h _ (.refl _ _))
 | skip ho hw => exact .skip ho hw
theorem StepC.ofP {i : Nat} {c : Cls} {o : Oper} {x : AV} (hc : ∀ n, c ≠ .wn n) (ho : ops[i]? = some o) (hw : wantedA ops st.tm o = some true)
   (h : ∀ bx, Mems P (evA st.tm) bx o x bx) : StepC P ops i c st ⟨putA st.tm o.dst x, st.bx, st.nx⟩ := by
 cases c with
 | wn n => exact absurd rfl (hc n)
 | wl l =>
   have e : (fun n => if n ∈ l then st.bx n else st.bx n) = st.bx := by funext k; split <;> rfl
   have := StepC.run (P := P) (c := .wl l) (x := x) (st := st) (fun b n => if n ∈ l then st.bx n else b n) ho hw ⟨st.bx, fun _ => rfl⟩ (fun b hb => by
     have e2 : (fun n => if n ∈ l then st.bx n else b n) = b := by funext k; split; (rename_i hk; exact (hb k hk).symm); rfl
     rw [e2]; exact h b)
   rwa [e] at this
 | _ => exact .run id ho hw (by simp [Shape]) fun bx _ => h bx
theorem StepC.ofR {i : Nat} {o : Oper} {x : AV} (ho : ops[i]? = some o) (hw : wantedA ops st.tm o = some true)
   (h : Mems P (evA st.tm) st.bx o x st.bx) : StepC P ops i .r st ⟨putA st.tm o.dst x, st.bx, st.nx⟩ :=
 .run id ho hw (by simp [Shape]) fun bx hb => by simp only [Agree] at hb; rw [hb]; exact h
theorem StepC.ofRn {i n : Nat} {o : Oper} {x : AV} (ho : ops[i]? = some o) (hw : wantedA ops st.tm o = some true)
   (h : ∀ bx, bx n = st.bx n → Mems P (evA st.tm) bx o x bx) : StepC P ops i (.rn n) st ⟨putA st.tm o.dst x, st.bx, st.nx⟩ :=
 .run id ho hw (by simp [Shape]) fun bx hb => h bx hb
theorem StepC.ofWn {i n : Nat} {o : Oper} {x : AV} {b' : Box} (ho : ops[i]? = some o) (hw : wantedA ops st.tm o = some true)
   (h : ∀ bx, bx n = st.bx n → Mems P (evA st.tm) bx o x (upd bx n b')) : StepC P ops i (.wn n) st ⟨putA st.tm o.dst x, upd st.bx n b', st.nx⟩ :=
 .run (fun b => upd b n b') ho hw ⟨b', fun _ => rfl⟩ fun bx hb => h bx hb
theorem StepC.ofW {i : Nat} {o : Oper} {x : AV} {bx' : Nat → Box} (ho : ops[i]? = some o) (hw : wantedA ops st.tm o = some true)
   (h : Mems P (evA st.tm) st.bx o x bx') : StepC P ops i .w st ⟨putA st.tm o.dst x, bx', st.nx⟩ :=
 .run (fun _ => bx') ho hw trivial fun bx hb => by simp only [Agree] at hb; rw [hb]; exact h
theorem Mems.congr {ρ ρ' : Operand → AV} {bx bx' : Nat → Box} {o : Oper} {x : AV} (h : ∀ y ∈ o.op.operands, ρ y = ρ' y) (hm : Mems P ρ bx o x bx') : Mems P ρ' bx o x bx' :=
 fun a w E G hρ hok K Q hk => hm a w E G (fun y hy => by rw [h y hy]; exact hρ y hy) hok K Q hk
theorem evA_put {tm : Nat → AV} {dst : Option Tmp} {x : AV} {o : Oper} (h : ∀ d, dst = some d → d ∉ o.looksAt ops) :
   ∀ y ∈ o.op.operands, evA tm y = evA (putA tm dst x) y := by
 intro y hy
 cases dst with
 | none => rfl
 | some d =>
   cases y with
   | tmp t =>
     have hne : t ≠ d := fun e => h d rfl (by
       subst e
       exact List.mem_append_left _ (List.mem_filterMap.2 ⟨.tmp t, by simpa using hy, rfl⟩))
     simp [evA, putA, hne]
   | _ => rfl
theorem wantedA_put {tm : Nat → AV} {dst : Option Tmp} {x : AV} {o : Oper} (h : ∀ d, dst = some d → d ∉ o.looksAt ops) :
   wantedA ops (putA tm dst x) o = wantedA ops tm o := by
 cases dst with
 | none => rfl
 | some d =>
   unfold wantedA
   cases hg : o.guard with
   | none => rfl
   | some gw =>
     obtain ⟨g, want⟩ := gw
     cases ht : (ops[g]?).bind (·.dst) with
     | none => simp [ht]
     | some t =>
       have hne : t ≠ d := fun e => h d rfl (by subst e; simp [Oper.looksAt, hg, ht])
       simp [ht, putA, hne]
theorem putA_comm {tm : Nat → AV} {d e : Option Tmp} {x y : AV} (h : ∀ t, d = some t → e ≠ some t) : putA (putA tm d x) e y = putA (putA tm e y) d x := by
 cases d with
 | none => rfl
 | some t =>
   cases e with
   | none => rfl
   | some u => exact upd_comm tm x y (fun e => h t rfl (e ▸ rfl))
theorem StepC.parts {i : Nat} {c : Cls} {s s' : St} {o : Oper} (h : StepC P ops i c s s') (ho : ops[i]? = some o) : ∃ x F, s' = ⟨putA s.tm o.dst x, F s.bx, s.nx⟩ ∧ Shape c F ∧
   ∀ t : St, (∀ y ∈ o.op.operands, evA s.tm y = evA t.tm y) → wantedA ops t.tm o = wantedA ops s.tm o → Agree c t.bx s.bx → StepC P ops i c t ⟨putA t.tm o.dst x, F t.bx, t.nx⟩ ∨
     ((∀ b, F b = b) ∧ StepC P ops i c t ⟨putA t.tm o.dst x, t.bx, t.nx⟩) := by
 cases h with
 | run F ho' hw hs h =>
   rw [ho] at ho'; simp only [Option.some.injEq] at ho'; subst ho'
   refine ⟨_, F, rfl, hs, fun t hop hw' hag => .inl (.run F ho (hw'.trans hw) hs fun bx hb => (h bx ?_).congr hop)⟩
   cases c <;> simp only [Agree] at hb hag ⊢ <;> first | trivial | exact hb.trans hag | exact fun n hn => (hb n hn).trans (hag n hn)
 | skip ho' hw =>
   rw [ho] at ho'; simp only [Option.some.injEq] at ho'; subst ho'
   cases c with
   | wn n => exact ⟨_, fun b => upd b n (s.bx n), by
       have : upd s.bx n (s.bx n) = s.bx := by funext k; unfold upd; split <;> simp_all
       show _ = (⟨_, upd s.bx n (s.bx n), _⟩ : St)
       rw [this], ⟨_, fun _ => rfl⟩, fun t hop hw' hag => .inl (by
         have h1 : upd t.bx n (s.bx n) = t.bx := by
           funext k; unfold upd; split
           · rename_i hk; subst hk; exact hag.symm
           · rfl
         have := StepC.skip (P := P) (c := .wn n) ho (hw'.trans hw)
         simpa [h1] using this)⟩
   | wl l => exact ⟨_, fun b n => if n ∈ l then s.bx n else b n, by
       have : (fun n => if n ∈ l then s.bx n else s.bx n) = s.bx := by funext k; split <;> rfl
       show _ = (⟨_, fun n => if n ∈ l then s.bx n else s.bx n, _⟩ : St)
       rw [this], ⟨s.bx, fun _ => rfl⟩, fun t hop hw' hag => .inl (by
         have h1 : (fun n => if n ∈ l then s.bx n else t.bx n) = t.bx := by
           funext k; split
           · rename_i hk; exact (hag k hk).symm
           · rfl
         have := StepC.skip (P := P) (c := .wl l) ho (hw'.trans hw)
         simpa [h1] using this)⟩
   | _ => exact ⟨_, id, rfl, by simp [Shape], fun t hop hw' hag => .inr ⟨fun _ => rfl, .skip ho (hw'.trans hw)⟩⟩
theorem StepC.swap {i j : Nat} {ci cj : Cls} {s0 s1 s2 : St} {oi oj : Oper} (hj : StepC P ops j cj s0 s1) (hi : StepC P ops i ci s1 s2) (hoj : ops[j]? = some oj) (hoi : ops[i]? = some oi)
   (hap : oj.apart ops oi = true) (hc : compat cj ci = true) : ∃ s1', StepC P ops i ci s0 s1' ∧ StepC P ops j cj s1' s2 := by
 obtain ⟨a1, a2, a3⟩ := Oper.apart_spec hap
 obtain ⟨xj, Fj, rfl, hsj, runj⟩ := hj.parts hoj
 obtain ⟨xi, Fi, rfl, hsi, runi⟩ := hi.parts hoi
 -- the three facts of the boxes
 have key : Agree ci s0.bx (Fj s0.bx) ∧ Agree cj (Fi s0.bx) s0.bx ∧ Fj (Fi s0.bx) = Fi (Fj s0.bx) := by
   cases cj <;> cases ci <;> simp only [compat, Bool.false_eq_true, Bool.not_eq_true', Shape, Agree] at hc hsj hsi ⊢
   case p.w => simp [hsj]
   case w.p => simp [hsi]
   case rn.wn n m =>
     have hne : n ≠ m := fun e => by subst e; rw [Nat.beq_refl] at hc; cases hc
     obtain ⟨c, hsi⟩ := hsi
     simp [hsj, hsi, hne]
   case wn.rn n m =>
     have hne : n ≠ m := fun e => by subst e; rw [Nat.beq_refl] at hc; cases hc
     obtain ⟨c, hsj⟩ := hsj
     simp [hsj, hsi, Ne.symm hne]
   case wn.wn n m =>
     have hne : n ≠ m := fun e => by subst e; rw [Nat.beq_refl] at hc; cases hc
     obtain ⟨c, hsj⟩ := hsj
     obtain ⟨d, hsi⟩ := hsi
     simp [hsj, hsi, hne, Ne.symm hne, upd_comm _ _ _ hne]
   case p.wn n => obtain ⟨c, hsi⟩ := hsi; simp [hsj, hsi]
   case p.wl l => obtain ⟨c, hsi⟩ := hsi; simp [hsj, hsi]
   case wl.p l => obtain ⟨c, hsj⟩ := hsj; simp [hsj, hsi]
   case rn.wl n l =>
     have hne : n ∉ l := by simpa using hc
     obtain ⟨c, hsi⟩ := hsi
     simp [hsj, hsi, hne]
   case wl.rn l n =>
     have hne : n ∉ l := by simpa using hc
     obtain ⟨c, hsj⟩ := hsj
     simp [hsj, hsi, hne]
   case wn.wl n l =>
     have hne : n ∉ l := by simpa using hc
     obtain ⟨c, hsj⟩ := hsj
     obtain ⟨d, hsi⟩ := hsi
     refine ⟨fun k hk => ?_, ?_, ?_⟩
     · rw [hsj, upd_ne _ _ _ _ (fun e => hne (by rw [← e]; exact hk))]
     · rw [hsi]; simp [hne]
     · rw [hsj, hsi, hsi, hsj]; funext k; unfold upd
       by_cases h1 : k = n
       · subst h1; simp [hne]
       · simp [h1]
   case wl.wn l n =>
     have hne : n ∉ l := by simpa using hc
     obtain ⟨c, hsj⟩ := hsj
     obtain ⟨d, hsi⟩ := hsi
     refine ⟨?_, fun k hk => ?_, ?_⟩
     · rw [hsj]; simp [hne]
     · rw [hsi, upd_ne _ _ _ _ (fun e => hne (by rw [← e]; exact hk))]
     · rw [hsj, hsi, hsi, hsj]; funext k; unfold upd
       by_cases h1 : k = n
       · subst h1; simp [hne]
       · simp [h1]
   case wl.wl l m =>
     have hne : ∀ k, k ∈ l → k ∉ m := by simpa using hc
     obtain ⟨c, hsj⟩ := hsj
     obtain ⟨d, hsi⟩ := hsi
     refine ⟨fun k hk => ?_, fun k hk => ?_, ?_⟩
     · rw [hsj]; have : k ∉ l := fun h => hne k h hk
       simp [this]
     · rw [hsi]; simp [hne k hk]
     · rw [hsj, hsi, hsi, hsj]; funext k
       by_cases h1 : k ∈ l
       · simp [h1, hne k h1]
       · simp [h1]
   case wn.p n => obtain ⟨c, hsj⟩ := hsj; simp [hsj, hsi]
   all_goals simp [hsj, hsi]
 obtain ⟨k1, k2, k3⟩ := key
 have hput : putA (putA s0.tm oi.dst xi) oj.dst xj = putA (putA s0.tm oj.dst xj) oi.dst xi := (putA_comm fun t ht => a2 t ht).symm
 have first : ∃ s1', StepC P ops i ci s0 s1' ∧ s1' = ⟨putA s0.tm oi.dst xi, Fi s0.bx, s0.nx⟩ := by
   rcases runi s0 (fun y hy => (evA_put a1 y hy).symm) (wantedA_put a1).symm k1 with h | ⟨h0, h⟩
   · exact ⟨_, h, rfl⟩
   · exact ⟨_, h, by rw [h0]⟩
 obtain ⟨s1', h1, rfl⟩ := first
 refine ⟨_, h1, ?_⟩
 rcases runj ⟨putA s0.tm oi.dst xi, Fi s0.bx, s0.nx⟩ (fun y hy => evA_put a3 y hy) (wantedA_put a3) k2 with h | ⟨h0, h⟩
 · simp only at h ⊢
   rw [hput, k3] at h
   exact h
 · simp only at h ⊢
   rw [hput] at h
   have : Fi s0.bx = Fi (Fj s0.bx) := by rw [← k3, h0]
   rw [← this]
   exact h
inductive ChainC (P : Program) (ops : Array Oper) : List (Nat × Cls) → St → St → Prop
 | nil {s : St} : ChainC P ops [] s s
 | cons {i : Nat} {c : Cls} {l : List (Nat × Cls)} {s s1 s2 : St} (h : StepC P ops i c s s1) (t : ChainC P ops l s1 s2) : ChainC P ops ((i, c) :: l) s s2
theorem ChainC.pull {i : Nat} {c : Cls} {oi : Oper} (hoi : ops[i]? = some oi) : ∀ {l1 l2 : List (Nat × Cls)} {s s' : St}, ChainC P ops (l1 ++ (i, c) :: l2) s s' →
   (∀ j cj, (j, cj) ∈ l1 → ∃ oj, ops[j]? = some oj ∧ oj.apart ops oi = true ∧ compat cj c = true) → ChainC P ops ((i, c) :: (l1 ++ l2)) s s'
 | [], l2, s, s', h, _ => h
 | (j, cj) :: l1, l2, s, s', h, hall => by
   cases h with
   | cons hj ht =>
     have ht' := ChainC.pull hoi ht fun k ck hk => hall k ck (List.mem_cons_of_mem _ hk)
     cases ht' with
     | cons hi ht2 =>
       obtain ⟨oj, hoj, hap, hc⟩ := hall j cj (by simp)
       obtain ⟨s1', h1, h2⟩ := hj.swap hi hoj hoi hap hc
       exact .cons h1 (.cons h2 ht2)
def ancs (ops : List Oper) : List (List Nat) :=
 ops.foldl (fun acc o => acc ++ [((o.after.toList.filter (Region.binds .any ·)).flatMap fun e => e.on :: acc.getD e.on []).eraseDups]) []
inductive Reach (ops : Array Oper) : Nat → Nat → Prop
 | one {i : Nat} {o : Oper} {e : Edge} (ho : ops[i]? = some o) (he : e ∈ o.after) (hb : Region.binds .any e = true) : Reach ops i e.on
 | more {i j : Nat} {o : Oper} {e : Edge} (ho : ops[i]? = some o) (he : e ∈ o.after) (hb : Region.binds .any e = true) (h : Reach ops e.on j) : Reach ops i j
theorem ancs_fold {ops : Array Oper} : ∀ (l : List Oper) (acc : List (List Nat)), (∀ (k : Nat) o, l[k]? = some o → ops[acc.length + k]? = some o) → (∀ i j, j ∈ acc.getD i [] → Reach ops i j) →
   ∀ i j, j ∈ (l.foldl (fun acc o => acc ++ [((o.after.toList.filter (Region.binds .any ·)).flatMap fun e => e.on :: acc.getD e.on []).eraseDups]) acc).getD i [] → Reach ops i j
 | [], acc, _, h, i, j, hj => h i j hj
 | o :: l, acc, hl, h, i, j, hj => by
   refine ancs_fold l _ (fun k o' hk => ?_) (fun i j hj => ?_) i j hj
   · have := hl (k + 1) o' (by simpa using hk)
     simp only [List.length_append, List.length_singleton]
     rwa [Nat.add_assoc, Nat.add_comm 1 k]
   · simp only [List.getD_eq_getElem?_getD, List.getElem?_append] at hj
     split at hj
     · exact h i j (by simpa [List.getD_eq_getElem?_getD] using hj)
     · rename_i hi
       have h0 : ops[acc.length]? = some o := by simpa using hl 0 o rfl
       by_cases hi2 : i = acc.length
       · subst hi2
         simp only [Nat.sub_self, List.getElem?_cons_zero, Option.getD_some, List.mem_eraseDups, List.mem_flatMap, List.mem_filter, Array.mem_toList_iff, List.mem_cons] at hj
         obtain ⟨e, ⟨he, hb⟩, hj | hj⟩ := hj
         · subst hj; exact .one h0 he hb
         · exact .more h0 he hb (h _ _ (by simpa [List.getD_eq_getElem?_getD] using hj))
       · have : 1 ≤ i - acc.length := by omega
         rw [List.getElem?_eq_none (by simpa using this)] at hj
         simp at hj
theorem ancs_sound {i j : Nat} (h : j ∈ (ancs ops.toList).getD i []) : Reach ops i j :=
 ancs_fold ops.toList [] (fun k o hk => by simpa using hk) (fun i j h => by simp at h) i j h
def drawOk (ops : Array Oper) (cls : List Cls) : Bool :=
 let an := ancs ops.toList
 cls.length == ops.size &&
 (List.range ops.size).all fun i => match ops[i]?, cls[i]? with
   | some oi, some ci => (oi.after.toList.all fun e => !Region.binds .any e || decide (e.on < i)) &&
     (List.range i).all fun j => (an.getD i []).contains j || match ops[j]?, cls[j]? with
       | some oj, some cj => compat cj ci && oj.apart ops oi
       | _, _ => false
   | _, _ => false
theorem drawOk_spec {cls : List Cls} (h : drawOk ops cls = true) : cls.length = ops.size ∧ ∀ i oi, ops[i]? = some oi →
   (∀ e ∈ oi.after, Region.binds .any e = true → e.on < i) ∧ ∀ ci, cls[i]? = some ci → ∀ j, j < i → Reach ops i j ∨ ∃ oj cj, ops[j]? = some oj ∧ cls[j]? = some cj ∧ compat cj ci = true ∧ oj.apart ops oi = true := by
 simp only [drawOk, Bool.and_eq_true, beq_iff_eq, List.all_eq_true, List.mem_range] at h
 refine ⟨h.1, fun i oi hoi => ?_⟩
 have hi := (Array.getElem?_eq_some_iff.1 hoi).1
 have h2 := h.2 i hi
 have hci : ∃ ci, cls[i]? = some ci := ⟨cls[i]'(by omega), List.getElem?_eq_getElem _⟩
 obtain ⟨ci, hci⟩ := hci
 simp only [hoi, hci, Bool.and_eq_true, List.all_eq_true, List.mem_range, Array.mem_toList_iff, Bool.or_eq_true, Bool.not_eq_true', decide_eq_true_eq] at h2
 refine ⟨fun e he hb => ?_, fun ci' hci' j hj => ?_⟩
 · rcases h2.1 e he with h3 | h3
   · rw [hb] at h3; cases h3
   · exact h3
 · rw [hci] at hci'; simp only [Option.some.injEq] at hci'; subst hci'
   rcases h2.2 j hj with h3 | h3
   · exact .inl (ancs_sound (by simpa using h3))
   · right
     split at h3
     · rename_i oj cj e1 e2
       simp only [Bool.and_eq_true] at h3
       exact ⟨oj, cj, e1, e2, h3.1, h3.2⟩
     · cases h3
theorem reach_listed {listed : Array Bool} (hD : ∀ i o, ops[i]? = some o → listed.getD i false = true → ∀ e ∈ o.after, Region.binds .any e = true → listed.getD e.on false = true)
   {i j : Nat} (h : Reach ops i j) : listed.getD i false = true → listed.getD j false = true := by
 induction h with
 | one ho he hb => exact fun hi => hD _ _ ho hi _ he hb
 | more ho he hb _ ih => exact fun hi => ih (hD _ _ ho hi _ he hb)
theorem wpAny_chain {ro : Option Nat} {Q : Exit → Act → World → Prop} {cls : List Cls} {s' : St} (hQo : ∀ a w, ¬ Q .outgrown a w) (hQp : ∀ ch a w, ¬ Q (.panic ch) a w) (hd : DstOk C ops) (hnd : NoDf ops) (hok : drawOk ops cls = true)
   (hq : ∀ a w E G, StRel C s' a w E G → Q .normal a w) :
   ∀ (n : Nat) (L : List (Nat × Cls)) (listed : Array Bool) (s : St) (a : Act) (w : World) (E : Env) (G : Heap), L.length = n → ChainC P ops L s s' → StRel C s a w E G →
     L.Pairwise (fun x y => x.1 < y.1) → (∀ i, (∃ c, (i, c) ∈ L) ↔ listed.getD i true = false) → (∀ i c, (i, c) ∈ L → cls[i]? = some c) → listed.size = ops.size →
     (∀ i o, ops[i]? = some o → listed.getD i false = true → ∀ e ∈ o.after, Region.binds .any e = true → listed.getD e.on false = true) →
     wpAnyIn (wideR ro) 0 P .any ops Q n listed a w := by
 obtain ⟨hlen, hspec⟩ := drawOk_spec hok
 intro n
 induction n with
 | zero =>
   intro L listed s a w E G hn hch hst hpw hL hcl hsz hD
   have : L = [] := List.eq_nil_of_length_eq_zero hn
   subst this
   cases hch
   refine ⟨?_, hq a w E G hst⟩
   rw [List.eq_nil_iff_forall_not_mem]
   intro i hi
   have := (mem_ready.1 hi).1
   obtain ⟨c, hc⟩ := (hL i).2 this
   simp at hc
 | succ n ih =>
   intro L listed s a w E G hn hch hst hpw hL hcl hsz hD
   refine ⟨fun hnil => ?_, fun i hi => ?_⟩
   · -- the first one is ready
     exfalso
     cases L with
     | nil => simp at hn
     | cons x L =>
       obtain ⟨i, c⟩ := x
       have hun : listed.getD i true = false := (hL i).1 ⟨c, by simp⟩
       have hi : i < ops.size := by
         rcases Nat.lt_or_ge i listed.size with h | h
         · omega
         · simp [Array.getD_eq_getD_getElem?, Array.getElem?_eq_none h] at hun
       have hoi : ops[i]? = some ops[i] := Array.getElem?_eq_getElem hi
       have : i ∈ Region.ready .any ops listed := mem_ready.2 ⟨hun, _, hoi, fun e he hb => by
         have hlt := (hspec i _ hoi).1 e he hb
         have h1 : e.on < listed.size := by omega
         cases hc : listed.getD e.on true with
         | true => simpa [Array.getD_eq_getD_getElem?, h1] using hc
         | false =>
           obtain ⟨c', hc'⟩ := (hL e.on).2 hc
           simp only [List.mem_cons, Prod.mk.injEq] at hc'
           rcases hc' with ⟨h2, _⟩ | h2
           · omega
           · have := (List.pairwise_cons.1 hpw).1 _ h2
             simp only at this; omega⟩
       rw [hnil] at this
       cases this
   · obtain ⟨hun, oi, hoi, hall⟩ := mem_ready.1 hi
     obtain ⟨c, hc⟩ := (hL i).2 hun
     obtain ⟨l1, l2, rfl⟩ := List.append_of_mem hc
     have hlt1 : ∀ j cj, (j, cj) ∈ l1 → j < i := fun j cj hj => by
       have := (List.pairwise_append.1 hpw).2.2 _ hj (i, c) (by simp)
       exact this
     have hch' := ChainC.pull hoi hch fun j cj hj => by
       have hji := hlt1 j cj hj
       rcases (hspec i oi hoi).2 c (hcl i c (by simp)) j hji with hr | ⟨oj, cj', e1, e2, e3, e4⟩
       · exfalso
         have hjun : listed.getD j true = false := (hL j).1 ⟨cj, by simp [hj]⟩
         have hjl : listed.getD j false = true := by
           cases hr with
           | one ho he hb =>
             rw [hoi] at ho; simp only [Option.some.injEq] at ho; subst ho
             exact hall _ he hb
           | more ho he hb hr =>
             rw [hoi] at ho; simp only [Option.some.injEq] at ho; subst ho
             exact reach_listed hD hr (hall _ he hb)
         have hjs : j < listed.size := by
           rcases Nat.lt_or_ge j listed.size with h | h
           · exact h
           · simp [Array.getD_eq_getD_getElem?, Array.getElem?_eq_none h] at hjl
         simp [Array.getD_eq_getD_getElem?, hjs] at hjl hjun
         rw [hjl] at hjun; cases hjun
       · have := hcl j cj (by simp [hj])
         rw [this] at e2; simp only [Option.some.injEq] at e2; subst e2
         exact ⟨oj, e1, e4, e3⟩
     cases hch' with
     | cons hstep hrest =>
       refine hstep.step1.sound hd hnd hst hQo hQp fun a' w' E' G' hst' => ?_
       have his : i < listed.size := by rw [hsz]; exact (Array.getElem?_eq_some_iff.1 hoi).1
       refine ih (l1 ++ l2) (listed.setIfInBounds i true) _ a' w' E' G' (by simp at hn ⊢; omega) hrest hst' ?_ (fun k => ?_) (fun k ck hk => hcl k ck (by simp at hk ⊢; rcases hk with hk | hk <;> simp [hk])) (by simp [hsz]) (fun k o hk hlk e he hb => ?_)
       · have h1 := List.pairwise_append.1 hpw
         exact List.pairwise_append.2 ⟨h1.1, (List.pairwise_cons.1 h1.2.1).2, fun x hx y hy => h1.2.2 x hx y (by simp [hy])⟩
       · by_cases hki : k = i
         · subst hki
           constructor
           · rintro ⟨ck, hk⟩
             exfalso
             simp only [List.mem_append] at hk
             rcases hk with hk | hk
             · exact Nat.lt_irrefl _ (hlt1 k ck hk)
             · have h1 := (List.pairwise_append.1 hpw).2.1
               have := (List.pairwise_cons.1 h1).1 _ hk
               simp only at this; omega
           · intro h; simp [Array.getD_eq_getD_getElem?, his] at h
         · rw [getD_set_ne true (Ne.symm hki), ← hL k]
           constructor
           · rintro ⟨ck, hk⟩
             simp only [List.mem_append] at hk
             exact ⟨ck, by rcases hk with hk | hk <;> simp [hk]⟩
           · rintro ⟨ck, hk⟩
             simp only [List.mem_append, List.mem_cons, Prod.mk.injEq, hki, false_and, false_or] at hk
             exact ⟨ck, by simpa using hk⟩
       · by_cases hki : k = i
         · subst hki
           rw [hoi] at hk; simp only [Option.some.injEq] at hk; subst hk
           exact getD_set_true (hall e he hb)
         · rw [getD_set_ne false (Ne.symm hki)] at hlk
           exact getD_set_true (hD k o hk hlk e he hb)
theorem WK.draw {id : Nat} {cls : List Cls} {k : List Item} {s' : St} (hm : P.follows .mixedOrders = true) (hd : DstOk C ops) (hnd : NoDf ops) (hok : drawOk ops cls = true)
   (hch : ChainC P ops ((List.range ops.size).zip cls) st s') (h : WK P C k ⟨s'.tm, s'.bx, s'.nx + ops.size⟩) : WK P C (.code (.region id ops true) :: k) st := by
 refine WK.of_wp fun a w E G hst => wpIn_region_any hm ?_
 have hst' : StRel C st a { w with drawn := w.drawn + 1 } E G := by
   refine ⟨hst.size, hst.tm, hst.df, ⟨hst.ok.gw, fun n => ?_, hst.ok.sep, hst.ok.off⟩, ⟨hst.ext.os, hst.ext.tape, hst.ext.output, hst.ext.fz, hst.ext.size, hst.ext.heap, hst.ext.frame, hst.ext.newb⟩, hst.keep, hst.an, hst.ms⟩
   exact BoxOk.mono (w := w) (.refl _) (.refl _) (Nat.le_refl _) (fun _ _ _ _ _ => ⟨rfl, rfl⟩) (hst.ok.box n)
 have hlen := (drawOk_spec hok).1
 refine wpAny_chain (s' := s') (fun _ _ h => by cases h.1) (fun _ _ _ h => by cases h.1) hd hnd hok (fun a w E G hs => ⟨rfl, ⟨s'.tm, s'.bx, s'.nx + ops.size⟩, E, G, ⟨hs.size, hs.tm, hs.df, hs.ok, hs.ext, hs.keep, hs.an, hs.ms⟩, h⟩) ops.size _ _ st a _ E G (by simp [hlen]) hch hst' ?_ (fun i => ?_) (fun i c hi => ?_) (by simp) (fun i o ho hl => ?_)
 · have : (List.range ops.size).Pairwise (· < ·) := List.pairwise_lt_range
   rw [List.pairwise_iff_getElem]
   intro i j hi hj hij
   simp only [List.getElem_zip, List.getElem_range]
   exact hij
 · constructor
   · rintro ⟨c, hc⟩
     have := List.of_mem_zip hc
     simp only [List.mem_range] at this
     simp [Array.getD_eq_getD_getElem?, this.1]
   · intro hl
     have hi : i < ops.size := by
       rcases Nat.lt_or_ge i ops.size with h | h
       · exact h
       · simp [Array.getD_eq_getD_getElem?, Array.getElem?_eq_none, h] at hl
     refine ⟨cls[i]'(by omega), ?_⟩
     rw [List.mem_iff_getElem]
     exact ⟨i, by simp [hlen, hi], by simp⟩
 · rw [List.mem_iff_getElem] at hi
   obtain ⟨m, hm', he⟩ := hi
   simp only [List.getElem_zip, List.getElem_range, Prod.mk.injEq] at he
   obtain ⟨rfl, rfl⟩ := he
   exact List.getElem?_eq_getElem _
 · rcases Nat.lt_or_ge i ops.size with h | h
   · simp [Array.getD_eq_getD_getElem?, h] at hl
   · simp [Array.getD_eq_getD_getElem?, Array.getElem?_eq_none, h] at hl
end
end Go.AI
end
