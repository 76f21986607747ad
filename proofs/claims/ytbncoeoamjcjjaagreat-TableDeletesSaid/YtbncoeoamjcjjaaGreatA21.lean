/- A part of our proof. -/
import Derived.Test.YtbncoeoamjcjjaaGreatAe
set_option linter.all false
set_option linter.unnecessarySimpa false
set_option linter.unusedVariables false
set_option linter.unusedSimpArgs false
namespace Go.AI
section
variable {P : Program} {E E' : Env} {G G' : Heap} {w w' : World} {ρ : Operand → AV} {a : Act} {bx : Nat → Box}

open Classical in
/-- a part of an own slice -/
theorem Mems.slOwn {o : Oper} {t e : TypeId} {xo : Operand} {lo hi : Option Operand} {n k l h s by_ : Nat} {cs : List AV} (ho : o.op = .slice t xo lo hi none) (hok : AppOk P t e s by_) (hx : ρ xo = .msl n 0 k)
    (hb : bx n = .buf s cs) (hbd : boundsA k k (lo.map ρ) (hi.map ρ) none = some (l, h, none)) (hlk : l < k ∨ l = 0) : Mems P ρ bx o (.msl n (l * s) (h - l)) bx := by
  intro a w E G hρ hheap K Q hK
  let ρ' : Operand → AV := fun y => if y ∈ o.op.operands then ρ y else .junk
  have hρ' : ∀ y, Rel E G (ρ' y) (a.eval y) := fun y => by
    by_cases hy : y ∈ o.op.operands
    · simp only [ρ', hy, if_true]; exact hρ y hy
    · simp only [ρ', hy, if_false, Rel]
  have hbd' : boundsA k k (lo.map ρ') (hi.map ρ') none = some (l, h, none) := by
    rw [← hbd]
    cases lo <;> cases hi <;> simp [ρ', ho, Op.operands]
  have hxv := hρ xo (by simp [ho, Op.operands])
  rw [hx] at hxv
  simp only [Rel] at hxv
  obtain ⟨i, z, hu, hi', hz, hsz, hby, hzs⟩ := hok.facts
  have htde := hok.tde
  have hes : sz P e = s := hok.sz
  rcases hxv with ⟨blk, cap, hev, hc1, hc2, hE⟩ | ⟨hE, _, hk0, ad, hev⟩
  · obtain ⟨hr, b1, b2, b3⟩ := bounds_sound (P := P) (w := w) (isSlice := true) (mx := none) hρ' hc1 (Nat.le_refl k) hbd'
    simp only [Option.getD_none] at hr b2
    have hbox := hheap.box n
    rw [hb] at hbox
    rcases hE with ⟨sz', tot, hE, ht⟩ | hE
    · rw [hE] at hbox
      simp only [BoxOk] at hbox
      obtain ⟨rfl, _⟩ := hbox
      have hrun : (execOp a.eval o).run P w = .ok (.value (.slice (some ⟨blk, l * sz', none⟩) (h - l) (cap - l))) w := by
        have hadd : (if cap = l then (some ⟨blk, 0, none⟩ : Option Addr) else (some ⟨blk, 0, none⟩ : Option Addr).map (·.add (l * sz P e))) = some ⟨blk, l * sz', none⟩ := by
          by_cases hcl : cap = l
          · rw [if_pos hcl]
            have : l = 0 := by rcases hlk with h0 | h0 <;> omega
            simp [this]
          · rw [if_neg hcl, hes]; simp [addr_add]
        have h1 : (Instr.sliceAt t (a.eval xo) (lo.map a.eval) (hi.map a.eval) none).run P w = .ok (.slice (some ⟨blk, l * sz', none⟩) (h - l) (cap - l)) w := by
          unfold Instr.sliceAt
          simp only [Option.map_none] at hr
          rw [← hadd]
          simp [AI.run_underlying hu, hev, Instr.slice, hr, run_sizeOf htde]
        simp [execOp, ho, h1]
      refine .inl ?_
      unfold Oper.wp
      rw [hrun]
      refine hK _ w E G ?_ hheap (.refl _ _ _ _)
      simp only [Rel]
      have hlc : l ≤ cap := by omega
      refine .inl ⟨blk, cap - l, rfl, by omega, by omega, .inl ⟨sz', tot, hE, ?_⟩⟩
      have : l * sz' + (cap - l) * sz' = cap * sz' := by rw [← Nat.add_mul]; congr 1; omega
      omega
    · rw [hE] at hbox; simp [BoxOk] at hbox
  · subst hk0
    obtain ⟨hr, b1, b2, b3⟩ := bounds_sound (P := P) (w := w) (isSlice := true) (mx := none) hρ' (Nat.le_refl 0) (Nat.le_refl 0) hbd'
    simp only [Option.getD_none, Nat.le_zero] at hr b2
    subst b2
    have hl0 : l = 0 := by omega
    subst hl0
    have hrun : (execOp a.eval o).run P w = .ok (.value (.slice ad 0 0)) w := by
      have h1 : (Instr.sliceAt t (a.eval xo) (lo.map a.eval) (hi.map a.eval) none).run P w = .ok (.slice ad 0 0) w := by
        unfold Instr.sliceAt
        simp only [Option.map_none] at hr
        simp [AI.run_underlying hu, hev, Instr.slice, hr, run_sizeOf htde]
      simp [execOp, ho, h1]
    refine .inl ?_
    unfold Oper.wp
    rw [hrun]
    refine hK _ w E G ?_ hheap (.refl _ _ _ _)
    simp only [Rel, Nat.zero_mul]
    exact .inr ⟨hE, trivial, trivial, ad, rfl⟩

theorem upd_id {α : Type} (f : Nat → α) (i : Nat) (v : α) (h : f i = v) : upd f i v = f := by
  funext j; unfold upd; split
  · rename_i e; rw [e, h]
  · rfl
/-- what an own slice has, set to nought -/
theorem Mems.clear {o : Oper} {c : Call} {t e : TypeId} {xo : Operand} {n off k s by_ : Nat} {cs : List AV} (ho : o.op = .call c) (hc : c.callee = .builtin .clear)
    (hat : c.argTypes = #[t]) (harg : c.args = #[xo]) (hok : AppOk P t e s by_) (hx : ρ xo = .msl n off k) (hb : bx n = .buf s cs) (hl : off + k * s ≤ cs.length) :
    Mems P ρ bx o (.tup []) (upd bx n (.buf s (splice cs off (List.replicate k (zr P e).cells).flatten))) := by
  intro a w E G hρ hheap K Q hK
  obtain ⟨i, z, hu, hi', hz, hsz, hby, hzs⟩ := hok.facts
  have hxv := hρ xo (by simp [ho, Op.operands, Call.operands, hc, harg])
  rw [hx] at hxv
  simp only [Rel] at hxv
  have hexec : ∀ w', (Builtin.clear_ #[t] o.type #[a.eval xo]).run P w = .ok (.tuple #[]) w' → (execOp a.eval o).run P w = .ok (.value (.tuple #[])) w' := by
    intro w' hr
    simp only [execOp, ho, resolve, hc, harg, hat, Sem.run_bind, Sem.run_pure, Result.andThen_ok, invoke, builtin, List.map_toArray, List.map_cons, List.map_nil, hr]
  have hlen0 : ((List.replicate 0 (zr P e).cells).flatten : List AV) = [] := rfl
  by_cases hk : k = 0
  · subst hk
    have hsp : splice cs off (List.replicate 0 (zr P e).cells).flatten = cs := by
      rw [hlen0]; unfold splice; simp
    rw [hsp, upd_id bx n _ hb] at hK
    have hrun : (Builtin.clear_ #[t] o.type #[a.eval xo]).run P w = .ok (.tuple #[]) w := by
      rcases hxv with ⟨blk, cap, hev, _⟩ | ⟨hE, _, _, ad, hev⟩
      · rw [hev]; simp [Builtin.clear_, AI.run_underlying hu]
      · rw [hev]; cases ad <;> simp [Builtin.clear_, AI.run_underlying hu]
    refine .inl ?_
    unfold Oper.wp
    rw [hexec _ hrun]
    exact hK _ w E G (by simp [Rel, RelL]) hheap (.refl _ _ _ _)
  · rcases hxv with ⟨blk, cap, hev, _, _, hE⟩ | ⟨_, _, hk0, _⟩
    · have hbox := hheap.box n
      rw [hb] at hbox
      rcases hE with ⟨sz', tot, hE, ht⟩ | hE
      · rw [hE] at hbox
        simp only [BoxOk] at hbox
        obtain ⟨rfl, vs, rest, T, hh, hrel, hones, hlen⟩ := hbox
        obtain ⟨zv, hz1, hz2⟩ := zr_spec (P := P) (x := zr P e) rfl hok.zr
        have hzz : zv = z := by
          have h1 := hz1 w
          have h2 := run_zero (P := P) (w := w) hi' hz
          rw [h1] at h2
          simpa using h2
        subst hzz
        obtain ⟨g1, g2⟩ := (hz2 E G).cells hok.zr
        have hvl := hrel.length
        have hzl : (List.replicate k zv.cells.toList).flatten.length = k * sz' := by
          have := (g1.rep k).length
          have hzc : (zr P e).cells.length = sz' := hok.zl
          simp at this ⊢
          rw [hzs]
        have hcyc : (Builtin.zeroCells zv.cells k).toList = (List.replicate k zv.cells.toList).flatten := by
          rw [← cyc_eq hzs k]; simp [Builtin.zeroCells, hzs]
        have hst := run_storeCells_at P blk off T (List.replicate k zv.cells.toList).flatten 0 (vs ++ rest).toArray w hh (by simp only [hzl]; simp; omega) (g2.rep k)
        simp only [Nat.add_zero] at hst
        have hsp : (vs ++ rest).take off ++ (List.replicate k zv.cells.toList).flatten ++ (vs ++ rest).drop (off + (List.replicate k zv.cells.toList).flatten.length) =
            (vs.take off ++ (List.replicate k zv.cells.toList).flatten ++ vs.drop (off + (List.replicate k zv.cells.toList).flatten.length)) ++ rest := by
          rw [List.take_append_of_le_length (by omega), List.drop_append_of_le_length (by omega)]
          simp
        rw [hsp] at hst
        have hrr := g1.rep k
        have hcl : (splice cs off (List.replicate k (zr P e).cells).flatten).length = cs.length := by
          have := hrr.length
          simp only [splice, List.length_append, List.length_take, List.length_drop]
          omega
        obtain ⟨hok', hext⟩ := hheap.write (n := n) (blk := blk) (by rw [hb]; rfl) hE rfl hh hrel (hrel.splice hrr) (((hones.take _).append (g2.rep k)).append (hones.drop _)) hcl
        rw [hb] at hok' hext
        have hrun : (Builtin.clear_ #[t] o.type #[a.eval xo]).run P w = .ok (.tuple #[]) (w.setRow blk ((vs.take off ++ (List.replicate k zv.cells.toList).flatten ++ vs.drop (off + (List.replicate k zv.cells.toList).flatten.length)) ++ rest).toArray) := by
          rw [hev]
          obtain ⟨k', rfl⟩ : ∃ k', k = k' + 1 := ⟨k - 1, by omega⟩
          simp [Builtin.clear_, AI.run_underlying hu, hz1 w, hcyc, hst]
        refine .inl ?_
        unfold Oper.wp
        rw [hexec _ hrun]
        exact hK _ _ E G (by simp [Rel, RelL]) hok' hext
      · rw [hE] at hbox; simp [BoxOk] at hbox
    · exact absurd hk0 hk
/-- a call that gives back a part of the box that it was given -/
theorem Mems.callBm {o : Oper} {c : Call} {fo : Operand} {f : FuncId} {caps args : List AV} {b b' : Box} {k : Nat} (n : Nat) (ho : o.op = .call c) (hc : c.callee = .value fo)
    (hf : ρ fo = .fn f caps) (h : FnB P f args b (.msl 0 0 k) b') (hle : wkL (fun _ => n) (upd B0 0 b) args (c.args.toList.map ρ ++ caps)) (hb : b.live = true) (hw : wkB (fun _ => n) (upd B0 0 b) bx 0 b)
    (hb' : b'.live = true) (hcb : ClB b' = true) :
    Mems P ρ bx o (.msl n 0 k) (upd bx n b') := by
  intro a w E G hρ hok K Q hk
  obtain ⟨vs, hrun, hvs⟩ := run_callFn (w := w) ho hc hf h.1 hρ
  have hln : (bx n).live = true := wkB_live hw hb
  obtain ⟨l, hE⟩ := hok.loc hln
  obtain ⟨g1, _⟩ := hok.give hE hw hb
  have hEE : ∀ m, (upd B0 0 b m).live = true → setE E0 0 l m = E ((fun _ => n) m) := fun m hm => by
    have := B0_one hm; subst this; simp [setE, hE]
  have hcalls := h.2 w G l vs g1 (wkL_rel hEE hle hvs)
  refine .inl ?_
  unfold Oper.wp
  rw [hrun, Oper.upon_enter]
  refine Calls.mono hcalls fun e w'' he => ?_
  obtain ⟨v, G', E1, rfl, hx, hg, hext⟩ := he
  obtain ⟨l', hl', g2, g3⟩ := hok.back hE hln hb' hcb hg hext
  refine hk v w'' _ G' ?_ g2 g3
  simp only [Rel, hl'] at hx ⊢
  simpa [setE] using hx
end
section
variable {P : Program} {ops : Array Oper} {cf : Oper → Cls} {l : List Oper} {i nx : Nat} {tm : Nat → AV} {bx : Nat → Box} {Q : (Nat → AV) → (Nat → Box) → Prop} {o : Oper}
theorem RunQ.slOwn {t e : TypeId} {xo : Operand} {lo hi : Option Operand} {n k a b s by_ : Nat} {cs : List AV} (hok : AppOk P t e s by_) (ho : o.op = .slice t xo lo hi none) (hw : wantedA ops tm o = some true)
    (hcf : cf o = .w) (hx : evA tm xo = .msl n 0 k) (hb : bx n = .buf s cs) (hbd : boundsA k k (lo.map (evA tm)) (hi.map (evA tm)) none = some (a, b, none)) (hlk : a < k ∨ a = 0)
    (h : RunQ P ops cf l (i + 1) (putA tm o.dst (.msl n (a * s) (b - a))) bx nx Q) : RunQ P ops cf (o :: l) i tm bx nx Q :=
  RunQ.mem hw hcf (Mems.slOwn ho hok hx hb hbd hlk) h
theorem RunQ.callBm (n : Nat) {c : Call} {fo : Operand} {f : FuncId} {caps args : List AV} {b b' : Box} {k : Nat} (hop : o.op = .call c) (hc : c.callee = .value fo) (hcf : cf o = .w) (hw : wantedA ops tm o = some true)
    (hf : evA tm fo = .fn f caps) (h : FnB P f args b (.msl 0 0 k) b') (hle : wkL (fun _ => n) (upd B0 0 b) args (c.args.toList.map (evA tm) ++ caps)) (hwb : wkB (fun _ => n) (upd B0 0 b) bx 0 b)
    (hb : b.live = true) (hb' : b'.live = true) (hcb : ClB b' = true)
    (t : RunQ P ops cf l (i + 1) (putA tm o.dst (.msl n 0 k)) (upd bx n b') nx Q) : RunQ P ops cf (o :: l) i tm bx nx Q :=
  RunQ.mem hw hcf (Mems.callBm n hop hc hf h hle hb hwb hb' hcb) t
theorem RunQ.clear {c : Call} {t e : TypeId} {xo : Operand} {n off k s by_ : Nat} {cs : List AV} (hok : AppOk P t e s by_) (ho : o.op = .call c) (hc : c.callee = .builtin .clear)
    (hat : c.argTypes = #[t]) (harg : c.args = #[xo]) (hw : wantedA ops tm o = some true) (hcf : cf o = .w) (hx : evA tm xo = .msl n off k) (hb : bx n = .buf s cs) (hl : off + k * s ≤ cs.length)
    (h : RunQ P ops cf l (i + 1) (putA tm o.dst (.tup [])) (upd bx n (.buf s (splice cs off (List.replicate k (zr P e).cells).flatten))) nx Q) : RunQ P ops cf (o :: l) i tm bx nx Q :=
  RunQ.mem hw hcf (Mems.clear ho hc hat harg hok hx hb hl) h
end
end Go.AI
