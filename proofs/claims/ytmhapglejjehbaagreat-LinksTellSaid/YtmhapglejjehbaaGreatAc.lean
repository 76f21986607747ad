/- A part of our proof. -/
import Derived.Test.YtmhapglejjehbaaGreatAb
import Derived.Laws.StructEq
import Derived.Laws.AppendOwn
set_option linter.all false
set_option linter.unnecessarySimpa false
section
namespace Go.AI
inductive All2 {α β : Type} (R : α → β → Prop) : List α → List β → Prop
 | nil : All2 R [] []
 | cons {x : α} {y : β} {xs : List α} {ys : List β} (h : R x y) (t : All2 R xs ys) : All2 R (x :: xs) (y :: ys)
def fillA (place : Nat → Option (Nat × Nat)) (cells : List AV) : List (Nat × AV) → Option (List AV)
 | [] => some cells
 | (i, x) :: rest => match place i with
   | none => none
   | some (off, size) => if x.plain = true ∧ x.cells.length = size ∧ off + size ≤ cells.length then fillA place (splice cells off x.cells) rest else none
section
variable {P : Program} {E E' : Env} {G G' : Heap} {w w' : World} {ρ : Operand → AV} {a : Act} {bx : Nat → Box}
theorem foldl_set (off : Nat) : ∀ (v : List Value) (k : Nat) (cs : Array Value), off + k + v.length ≤ cs.size →
   ((v.zipIdx k).foldl (fun cs (p : Value × Nat) => cs.setIfInBounds (off + p.2) p.1) cs).toList = cs.toList.take (off + k) ++ v ++ cs.toList.drop (off + k + v.length)
 | [], k, cs, _ => by simp
 | x :: v, k, cs, h => by
   simp only [List.zipIdx_cons, List.foldl_cons]
   rw [foldl_set off v (k + 1) _ (by simp at h ⊢; omega)]
   have := list_seg_step cs.toList (off + k) x v (by simp at h ⊢; omega)
   simpa [Nat.add_assoc] using this
theorem fill_sound {place : Nat → Option (Nat × Nat)} : ∀ (parts : List (Nat × AV)) (vals : List (Nat × Value)) (cells : List AV) (cur : Array Value) (r : List AV),
   RelL E G cells cur.toList → Ones cur.toList → All2 (fun p q => p.1 = q.1 ∧ Rel E G p.2 q.2) parts vals → fillA place cells parts = some r →
   ∃ arr, Instr.fill place cur vals = some arr ∧ RelL E G r arr.toList ∧ Ones arr.toList
 | [], vals, cells, cur, r, h1, h2, hf, h => by
   cases hf
   simp only [fillA, Option.some.injEq] at h; subst h
   exact ⟨cur, rfl, h1, h2⟩
 | (i, x) :: parts, vals, cells, cur, r, h1, h2, hf, h => by
   cases hf with
   | cons hp hf =>
     rename_i q vals
     obtain ⟨j, v⟩ := q
     simp only at hp
     obtain ⟨rfl, hx⟩ := hp
     simp only [fillA] at h
     cases hpl : place i with
     | none => simp [hpl] at h
     | some os =>
       obtain ⟨off, size⟩ := os
       simp only [hpl] at h
       split at h
       · rename_i hc
         obtain ⟨c1, c2, c3⟩ := hc
         obtain ⟨g1, g2⟩ := hx.cells c1
         have l1 := h1.length
         have l2 := g1.length
         have hset := foldl_set off v.cells.toList 0 cur (by simp at l1 l2 ⊢; omega)
         simp only [Nat.add_zero] at hset
         have e1 : (v.cells.zipIdx.foldl (fun cs (p : Value × Nat) => cs.setIfInBounds (off + p.2) p.1) cur) =
             ((v.cells.toList.zipIdx 0).foldl (fun cs (p : Value × Nat) => cs.setIfInBounds (off + p.2) p.1) cur) := by
           rw [← Array.foldl_toList]; simp
         have hr : RelL E G (splice cells off x.cells) (v.cells.zipIdx.foldl (fun cs (p : Value × Nat) => cs.setIfInBounds (off + p.2) p.1) cur).toList := by
           rw [e1, hset]; exact h1.splice g1
         have ho : Ones (v.cells.zipIdx.foldl (fun cs (p : Value × Nat) => cs.setIfInBounds (off + p.2) p.1) cur).toList := by
           rw [e1, hset]; exact ((h2.take _).append g2).append (h2.drop _)
         obtain ⟨arr, f1, f2, f3⟩ := fill_sound parts vals _ _ r hr ho hf h
         refine ⟨arr, ?_, f2, f3⟩
         simp only [Instr.fill, hpl]
         rw [if_neg]
         · exact f1
         · simp at l1 l2 ⊢
           constructor
           · omega
           · omega
       · cases h
theorem forall2_parts {ev : Operand → Value} : ∀ (ps : List (Nat × Operand)), (∀ p ∈ ps, Rel E G (ρ p.2) (ev p.2)) →
   All2 (fun (p : Nat × AV) (q : Nat × Value) => p.1 = q.1 ∧ Rel E G p.2 q.2) (ps.map fun p => (p.1, ρ p.2)) (ps.map fun p => (p.1, ev p.2))
 | [], _ => .nil
 | p :: ps, h => .cons ⟨rfl, h p (by simp)⟩ (forall2_parts ps fun q hq => h q (by simp [hq]))
def placeA (P : Program) (t : TypeId) : Option (Nat → Option (Nat × Nat)) :=
 match td P t with
 | .struct fs => if fs.all (fun f => decide (td P f.2 ≠ .none)) then some fun i => (fs[i]?).map fun f => (f.1, sz P f.2) else none
 | .array _ e => if td P e ≠ .none then some fun i => some (i * sz P e, sz P e) else none
 | _ => none
def buildA (P : Program) (ρ : Operand → AV) (t : TypeId) (parts : List (Nat × Operand)) : Option AV :=
 match placeA P t with
 | none => none
 | some place => if (zr P t).plain = true then (fillA place (zr P t).cells (parts.map fun p => (p.1, ρ p.2))).map .agg else none
theorem run_places : ∀ (fs : List Field), (∀ f ∈ fs, td P f.type ≠ .none) →
   (fs.mapM (fun f => do pure (f.offset, ← sizeOf f.type)) : Sem (List (Nat × Nat))).run P w = .ok (fs.map fun f => (f.offset, sz P f.type)) w
 | [], _ => by simp
 | f :: fs, h => by
   have := run_places fs fun g hg => h g (by simp [hg])
   simp only [List.mapM_cons, Sem.run_bind, run_sizeOf (h f (by simp)), Result.andThen_ok, Sem.run_pure, this, List.map_cons]
theorem Mems.build {o : Oper} {t : TypeId} {parts : Array (Nat × Operand)} {x : AV} (ho : o.op = .build t parts) (h : buildA P ρ t parts.toList = some x) : Mems P ρ bx o x bx := by
 intro a w E G hρ hok K Q hk
 unfold buildA at h
 cases hp : placeA P t with
 | none => simp [hp] at h
 | some place =>
   simp only [hp] at h
   split at h
   · rename_i hz
     obtain ⟨zv, hz1, hz2⟩ := zr_spec (P := P) rfl hz
     obtain ⟨g1, g2⟩ := (hz2 E G).cells hz
     cases hf : fillA place (zr P t).cells (parts.toList.map fun p => (p.1, ρ p.2)) with
     | none => simp [hf] at h
     | some r =>
       simp only [hf, Option.map_some, Option.some.injEq] at h
       subst h
       have hps := forall2_parts (E := E) (G := G) (ρ := ρ) (ev := a.eval) parts.toList fun p hpm => hρ p.2 (by
         simp only [ho, Op.operands]
         simp
         exact ⟨p.1, by simpa using hpm⟩)
       obtain ⟨arr, f1, f2, f3⟩ := fill_sound _ _ _ zv.cells r g1 g2 hps hf
       have hps' : (parts.map fun (i, x) => (i, a.eval x)).toList = parts.toList.map fun p => (p.1, a.eval p.2) := by simp
       have hrun : (execOp a.eval o).run P w = .ok (.value (.agg arr)) w := by
         have htd : td P t ≠ .none := by intro h0; simp [placeA, h0] at hp
         obtain ⟨i, d, hi, hd, hdt⟩ := td_some htd
         unfold placeA at hp
         rw [← hdt] at hp
         cases d <;> simp only [tdOf, reduceCtorEq] at hp
         case struct fs =>
           split at hp
           · rename_i hall
             simp only [Option.some.injEq] at hp
             have hpl := run_places (P := P) (w := w) fs.toList (fun f hf => by
               have := List.all_eq_true.1 hall (f.offset, f.type) (List.mem_map.2 ⟨f, hf, rfl⟩)
               simpa using this)
             have hplace : (fun x : Nat => (fs.toList.map fun f => (f.offset, sz P f.type)).toArray[x]?) = place := by
               subst hp
               funext i
               simp only [List.getElem?_toArray, List.getElem?_map]
               cases fs.toList[i]? <;> rfl
             simp only [execOp, ho, Instr.build, Sem.run_bind, hz1, Result.andThen_ok, run_underlying hd, Array.mapM_eq_mapM_toList, Sem.run_map, hpl, hplace, hps', f1, Sem.run_pure]
           · cases hp
         case array n e =>
           split at hp
           · rename_i hne
             simp only [Option.some.injEq] at hp
             subst hp
             simp only [execOp, ho, Instr.build, Sem.run_bind, hz1, Result.andThen_ok, run_underlying hd, run_sizeOf hne, hps', f1, Sem.run_pure]
           · cases hp
       refine .inl ?_
       unfold Oper.wp
       rw [hrun]
       exact hk _ w E G (by simp only [Rel]; exact ⟨arr.toList, by simp, f2, f3⟩) hok (.refl _ _ _ _)
   · cases h
end
end Go.AI
end

section
namespace Go.AI
def eqK : List Bool → List AV → List AV → Option Bool
 | [], [], [] => some true
 | k :: ks, x :: xs, y :: ys => match eqK ks xs ys with
   | none => none
   | some r => match k, x, y with
     | false, .int j a, .int j' b => if j = j' then some (a == b && r) else none
     | true, .bool a, .bool b => some (a == b && r)
     | _, _, _ => none
 | _, _, _ => none
def flatF (K : TypeId → Option (List Bool)) (P : Program) : List Field → Nat → Option (List Bool)
 | [], _ => some []
 | f :: fs, off => if f.offset = off ∧ f.name ≠ "_" then match K f.type, flatF K P fs (off + sz P f.type) with
     | some k, some ks => some (k ++ ks)
     | _, _ => none
   else none
def flatK (P : Program) : Nat → TypeId → Option (List Bool)
 | 0, _ => none
 | d + 1, t =>
   match P.underlying t with
   | some .bool => if sz P t = 1 then some [true] else none
   | some (.int _) => if sz P t = 1 then some [false] else none
   | some (.array n e) => match flatK P d e with
     | some k => if k.length = sz P e ∧ sz P t = n * sz P e then some (List.replicate n k).flatten else none
     | none => none
   | some (.struct fs) => if P.stoodInHeld t = false then match flatF (flatK P d) P fs.toList 0 with
       | some ks => if ks.length = sz P t then some ks else none
       | none => none
     else none
   | _ => none
def flatT (P : Program) (t : TypeId) : Option (List Bool) := if P.eqGuardType P.depth t then none else flatK P 9 t
def mkV (P : Program) (t : TypeId) (vs : List Value) : Value := if (td P t).agg then .agg vs.toArray else vs.headD undef
section
variable {P : Program} {E E' : Env} {G G' : Heap} {w w' : World} {ρ : Operand → AV} {a : Act} {bx : Nat → Box}
theorem eqK_length : ∀ {ks : List Bool} {xs ys : List AV} {b : Bool}, eqK ks xs ys = some b → xs.length = ks.length ∧ ys.length = ks.length
 | [], [], [], _, _ => ⟨rfl, rfl⟩
 | [], [], _ :: _, _, h => by simp [eqK] at h
 | [], _ :: _, _, _, h => by simp [eqK] at h
 | _ :: _, [], _, _, h => by simp [eqK] at h
 | _ :: _, _ :: _, [], _, h => by simp [eqK] at h
 | k :: ks, x :: xs, y :: ys, b, h => by
   simp only [eqK] at h
   cases hr : eqK ks xs ys with
   | none => simp [hr] at h
   | some r => have := eqK_length hr; simp [this.1, this.2]
theorem eqK_split : ∀ {k ks : List Bool} {xs ys : List AV} {b : Bool}, eqK (k ++ ks) xs ys = some b →
   ∃ b1 b2, eqK k (xs.take k.length) (ys.take k.length) = some b1 ∧ eqK ks (xs.drop k.length) (ys.drop k.length) = some b2 ∧ b = (b1 && b2)
 | [], ks, xs, ys, b, h => ⟨true, b, by simp [eqK], by simpa using h, by simp⟩
 | k :: kk, ks, [], ys, b, h => by simp [eqK] at h
 | k :: kk, ks, x :: xs, [], b, h => by simp [eqK] at h
 | k :: kk, ks, x :: xs, y :: ys, b, h => by
   simp only [List.cons_append, eqK] at h
   cases hr : eqK (kk ++ ks) xs ys with
   | none => simp [hr] at h
   | some r =>
     obtain ⟨b1, b2, h1, h2, h3⟩ := eqK_split hr
     simp only [hr] at h
     simp only [List.length_cons, List.take_succ_cons, List.drop_succ_cons, eqK, h1]
     split at h
     · split at h
       · rename_i hj
         simp only [Option.some.injEq] at h
         exact ⟨_, b2, if_pos hj, h2, by rw [← h, h3, Bool.and_assoc]⟩
       · cases h
     · simp only [Option.some.injEq] at h
       exact ⟨_, b2, rfl, h2, by rw [← h, h3, Bool.and_assoc]⟩
     · cases h
theorem run_partV {t : TypeId} {off : Nat} {vs : List Value} (hn : td P t ≠ .none) (hl : off + sz P t ≤ vs.length) (h1 : (td P t).agg = false → sz P t = 1) :
   (part t vs.toArray off).run P w = .ok (mkV P t ((vs.drop off).take (sz P t))) w := by
 unfold part mkV
 rw [Sem.run_bind, run_isAgg hn]
 simp only [Result.andThen_ok]
 cases hg : (td P t).agg with
 | true => simp [run_sizeOf hn, List.extract_eq_take_drop]
 | false =>
   have h2 := h1 hg
   rw [h2] at hl ⊢
   have h3 : off < vs.length := by omega
   simp only [Bool.false_eq_true, if_false, List.getElem?_toArray, List.getElem?_eq_getElem h3, Sem.run_pure]
   rw [List.drop_eq_getElem_cons h3]
   rfl
theorem td_none_of {t : TypeId} {d : TypeDesc} (h : P.underlying t = some d) : td P t = tdOf d := by unfold td; rw [h]
theorem flatK_type : ∀ {d : Nat} {t : TypeId} {k : List Bool}, flatK P d t = some k → td P t ≠ .none ∧ k.length = sz P t ∧ ((td P t).agg = false → sz P t = 1)
 | 0, t, k, h => by simp [flatK] at h
 | d + 1, t, k, h => by
   simp only [flatK] at h
   split at h
   · rename_i hu
     rw [td_none_of hu]
     split at h <;> simp only [Option.some.injEq, reduceCtorEq] at h
     subst h; simp [tdOf, *]
   · rename_i hu
     rw [td_none_of hu]
     split at h <;> simp only [Option.some.injEq, reduceCtorEq] at h
     subst h; simp [tdOf, *]
   · rename_i n e hu
     rw [td_none_of hu]
     split at h
     · split at h <;> simp only [Option.some.injEq, reduceCtorEq] at h
       rename_i hc
       subst h
       simp [tdOf, TD.agg, hc.1, hc.2]
     · cases h
   · rename_i fs hu
     rw [td_none_of hu]
     split at h
     · split at h
       · split at h <;> simp only [Option.some.injEq, reduceCtorEq] at h
         subst h; simp [tdOf, TD.agg, *]
       · cases h
     · cases h
   · cases h
def eqElems (d e n : Nat) (xs ys : Array Value) : List Nat → Sem Bool
 | [] => pure true
 | i :: is => do
   let a ← part e xs (i * n)
   let b ← part e ys (i * n)
   let r ← Op.equalIn d e a b
   if (!r) = true then pure false else eqElems d e n xs ys is
theorem run_equalIn_array (d : Nat) {t e : TypeId} {len : Nat} (xs ys : Array Value) (ht : P.underlying t = some (.array len e)) (hn : td P e ≠ .none) :
   (Op.equalIn (d + 1) t (.agg xs) (.agg ys)).run P w = (eqElems d e (sz P e) xs ys (List.range' 0 len)).run P w := by
 simp only [Op.equalIn, Sem.run_bind, run_underlying ht, Result.andThen_ok, run_sizeOf hn, Std.Legacy.Range.forIn_eq_forIn_range', Std.Legacy.Range.size]
 simp only [Nat.sub_zero, Nat.add_sub_cancel, Nat.div_one]
 generalize List.range' 0 len = is
 clear ht
 induction is generalizing w with
 | nil => simp [eqElems]
 | cons i is ih =>
   simp only [List.forIn_cons, eqElems, Sem.run_bind, Sem.run_ite]
   generalize (part e xs (i * sz P e)).run P w = r1
   cases r1 with
   | ok a w1 =>
     simp only [Result.andThen_ok]
     generalize (part e ys (i * sz P e)).run P w1 = r2
     cases r2 with
     | ok b w2 =>
       simp only [Result.andThen_ok]
       generalize (Op.equalIn d e a b).run P w2 = r3
       cases r3 with
       | ok r w3 =>
         cases r
         · simp only [Result.andThen_ok, Bool.not_false, if_true, Sem.run_pure]
         · simp only [Result.andThen_ok, Bool.not_true, Bool.false_eq_true, if_false, Sem.run_pure]
           exact ih
       | halt x w3 => simp [Result.andThen]
     | halt x w2 => simp [Result.andThen]
   | halt x w1 => simp [Result.andThen]
theorem flat_eq : ∀ (d : Nat) (t : TypeId) (k : List Bool), flatK P d t = some k → ∀ m, d ≤ m → ∀ (xs ys : List AV) (vs us : List Value) (b : Bool),
   RelL E G xs vs → RelL E G ys us → eqK k xs ys = some b → ∀ w, (Op.equalIn m t (mkV P t vs) (mkV P t us)).run P w = .ok b w
 | 0, t, k, h, _, _, _, _, _, _, _, _, _, _, _ => by simp [flatK] at h
 | d + 1, t, k, h, 0, hm, _, _, _, _, _, _, _, _, _ => by omega
 | d + 1, t, k, h, m + 1, hm, xs, ys, vs, us, b, hx, hy, he, w => by
   have hmd : d ≤ m := by omega
   simp only [flatK] at h
   split at h
   · rename_i hu
     split at h <;> simp only [Option.some.injEq, reduceCtorEq] at h
     subst h
     match xs, ys, he with
     | [x], [y], he =>
       obtain ⟨v, rfl, hv⟩ := hx.single
       obtain ⟨u, rfl, hu'⟩ := hy.single
       simp only [eqK] at he
       split at he
       · rename_i hk; cases hk
       · simp only [Option.some.injEq] at he
         simp only [Rel] at hv hu'
         subst hv hu'
         simp [mkV, td_none_of hu, tdOf, TD.agg, Op.equalIn, run_underlying hu, ← he]
       · cases he
     | [], _, he => simp [eqK] at he
     | [_], [], he => simp [eqK] at he
     | [_], _ :: _ :: _, he => simp [eqK] at he
     | _ :: _ :: _, [], he => simp [eqK] at he
     | _ :: _ :: _, _ :: _, he => simp [eqK] at he
   · rename_i kk hu
     split at h <;> simp only [Option.some.injEq, reduceCtorEq] at h
     subst h
     match xs, ys, he with
     | [x], [y], he =>
       obtain ⟨v, rfl, hv⟩ := hx.single
       obtain ⟨u, rfl, hu'⟩ := hy.single
       simp only [eqK] at he
       split at he
       · split at he
         · rename_i hj
           subst hj
           simp only [Option.some.injEq] at he
           simp only [Rel] at hv hu'
           subst hv hu'
           simp [mkV, td_none_of hu, tdOf, TD.agg, Op.equalIn, run_underlying hu, ← he]
         · cases he
       · rename_i hk; cases hk
       · cases he
     | [], _, he => simp [eqK] at he
     | [_], [], he => simp [eqK] at he
     | [_], _ :: _ :: _, he => simp [eqK] at he
     | _ :: _ :: _, [], he => simp [eqK] at he
     | _ :: _ :: _, _ :: _, he => simp [eqK] at he
   · rename_i n e hu
     split at h
     · rename_i ke hke
       split at h <;> simp only [Option.some.injEq, reduceCtorEq] at h
       rename_i hc
       subst h
       obtain ⟨t1, t2, t3⟩ := flatK_type hke
       have hagg : (td P t).agg = true := by rw [td_none_of hu]; rfl
       simp only [mkV, hagg, if_true]
       rw [run_equalIn_array m _ _ hu t1]
       have ih := flat_eq d e ke hke m hmd
       have key : ∀ (n i : Nat) (b : Bool), i * sz P e ≤ xs.length → i * sz P e ≤ ys.length → eqK (List.replicate n ke).flatten (xs.drop (i * sz P e)) (ys.drop (i * sz P e)) = some b →
           (eqElems m e (sz P e) vs.toArray us.toArray (List.range' i n)).run P w = .ok b w := by
         intro n
         induction n with
         | zero =>
           intro i b _ _ hb
           simp only [List.replicate_zero, List.flatten_nil] at hb
           have hl := eqK_length hb
           have : xs.drop (i * sz P e) = [] := List.eq_nil_of_length_eq_zero (by simpa using hl.1)
           have h2 : ys.drop (i * sz P e) = [] := List.eq_nil_of_length_eq_zero (by simpa using hl.2)
           rw [this, h2] at hb
           simp only [eqK, Option.some.injEq] at hb
           simp [eqElems, ← hb]
         | succ n ihn =>
           intro i b hix hiy hb
           simp only [List.replicate_succ, List.flatten_cons] at hb
           have hl := eqK_length hb
           obtain ⟨b1, b2, e1, e2, e3⟩ := eqK_split hb
           rw [t2] at e1 e2
           simp only [List.length_append, List.length_drop, t2] at hl
           have lx := hx.length
           have ly := hy.length
           have p1 := run_partV (P := P) (w := w) (vs := vs) (off := i * sz P e) t1 (by omega) t3
           have p2 := run_partV (P := P) (w := w) (vs := us) (off := i * sz P e) t1 (by omega) t3
           have q := ih _ _ _ _ b1 ((hx.drop (i * sz P e)).take (sz P e)) ((hy.drop (i * sz P e)).take (sz P e)) e1 w
           simp only [List.range'_succ, eqElems, Sem.run_bind, p1, p2, q, Result.andThen_ok]
           cases b1
           · simp [e3]
           · simp only [Bool.not_true, Bool.false_eq_true, if_false]
             have hi1 : (i + 1) * sz P e = i * sz P e + sz P e := by rw [Nat.add_mul, Nat.one_mul]
             rw [ihn (i + 1) b2 (by omega) (by omega) (by
               simp only [List.drop_drop] at e2
               rwa [hi1])]
             simp [e3]
       exact key n 0 b (by simp) (by simp) (by simpa using he)
     · cases h
   · rename_i fs hu
     split at h
     · rename_i hst
       split at h
       · rename_i ks hks
         split at h <;> simp only [Option.some.injEq, reduceCtorEq] at h
         subst h
         have hagg : (td P t).agg = true := by rw [td_none_of hu]; rfl
         simp only [mkV, hagg, if_true]
         have hfo : P.fieldsOf t = fs := by unfold Program.fieldsOf; rw [hu]
         rw [run_equalIn_struct w m t _ _ (by rw [hfo]; exact hu) hst, hfo]
         have key : ∀ (fl : List Field) (off : Nat) (ks : List Bool) (b : Bool), off ≤ xs.length → off ≤ ys.length → flatF (flatK P d) P fl off = some ks → eqK ks (xs.drop off) (ys.drop off) = some b →
             (Op.eqFields m vs.toArray us.toArray fl).run P w = .ok b w := by
           intro fl
           induction fl with
           | nil =>
             intro off ks b _ _ hf hb
             simp only [flatF, Option.some.injEq] at hf; subst hf
             have hl := eqK_length hb
             have : xs.drop off = [] := List.eq_nil_of_length_eq_zero (by simpa using hl.1)
             have h2 : ys.drop off = [] := List.eq_nil_of_length_eq_zero (by simpa using hl.2)
             rw [this, h2] at hb
             simp only [eqK, Option.some.injEq] at hb
             simp [Op.eqFields, ← hb]
           | cons f fl ihf =>
             intro off ks b hbig hbig2 hf hb
             simp only [flatF] at hf
             split at hf
             · rename_i hc
               obtain ⟨ho, hnm⟩ := hc
               split at hf
               · rename_i kf kr hkf hkr
                 simp only [Option.some.injEq] at hf; subst hf
                 obtain ⟨t1, t2, t3⟩ := flatK_type hkf
                 have hl := eqK_length hb
                 obtain ⟨b1, b2, e1, e2, e3⟩ := eqK_split hb
                 rw [t2] at e1 e2
                 simp only [List.length_append, List.length_drop, t2] at hl
                 have lx := hx.length
                 have ly := hy.length
                 have p1 := run_partV (P := P) (w := w) (vs := vs) (off := off) t1 (by omega) t3
                 have p2 := run_partV (P := P) (w := w) (vs := us) (off := off) t1 (by omega) t3
                 have q := flat_eq d f.type kf hkf m hmd _ _ _ _ b1 ((hx.drop off).take (sz P f.type)) ((hy.drop off).take (sz P f.type)) e1 w
                 simp only [Op.eqFields, hnm, ne_eq, not_false_eq_true, if_true, Sem.run_bind, ho, p1, p2, q, Result.andThen_ok]
                 cases b1
                 · simp [e3]
                 · simp only [Bool.not_true, Bool.false_eq_true, if_false]
                   rw [ihf (off + sz P f.type) kr b2 (by omega) (by omega) hkr (by simpa [List.drop_drop] using e2)]
                   simp [e3]
               · cases hf
             · cases hf
         exact key fs.toList 0 ks b (by simp) (by simp) hks (by simpa using he)
       · cases h
     · cases h
   · cases h
theorem Mems.eq {o : Oper} {op : BinOp} {t yt : TypeId} {y z : Operand} {neg b : Bool} {xs ys : List AV} {k : List Bool} (ho : o.op = .binOp op t y z yt) (hop : eqOf op = some neg)
   (hk : flatT P t = some k) (hagg : (td P t).agg = true) (hy : ρ y = .agg xs) (hz : ρ z = .agg ys) (he : eqK k xs ys = some b) : Mems P ρ bx o (eqA neg b) bx := by
 intro a w E G hρ hok K Q hkk
 have h1 := hρ y (by simp [ho, Op.operands])
 have h2 := hρ z (by simp [ho, Op.operands])
 rw [hy] at h1; rw [hz] at h2
 simp only [Rel] at h1 h2
 obtain ⟨vs, hv, hvs, _⟩ := h1
 obtain ⟨us, hu, hus, _⟩ := h2
 unfold flatT at hk
 split at hk
 · cases hk
 rename_i hg
 have hg' : P.eqGuardType P.depth t = false := by simpa using hg
 have hop' : (neg = false ∧ op = .eql) ∨ (neg = true ∧ op = .neq) := by
   cases op <;> simp only [eqOf, Option.some.injEq, reduceCtorEq] at hop <;> subst hop <;> simp
 have hfe := flat_eq (P := P) (E := E) (G := G) 9 t k hk Op.maxDepth (by unfold Op.maxDepth; omega) xs ys vs us b hvs hus he w
 have m1 : mkV P t vs = .agg vs.toArray := by simp [mkV, hagg]
 have m2 : mkV P t us = .agg us.toArray := by simp [mkV, hagg]
 rw [m1, m2] at hfe
 have hgd : ∀ op, (eqGuard op t y z (.agg vs.toArray) (.agg us.toArray)).run P w = .ok () w := fun op => run_eqGuard_agg w op t y z _ _ hg'
 have hrun : (execOp a.eval o).run P w = .ok (.value (.bool (if neg then !b else b))) w := by
   simp only [execOp, ho, hv, hu, Sem.run_bind, hgd, Result.andThen_ok]
   rcases hop' with ⟨rfl, rfl⟩ | ⟨rfl, rfl⟩ <;> simp only [binOp, Op.equal, Sem.run_bind, hfe, Result.andThen_ok, Sem.run_pure] <;> rfl
 refine .inl ?_
 unfold Oper.wp
 rw [hrun]
 exact hkk _ w E G (by simp [Rel, eqA]) hok (.refl _ _ _ _)
end
end Go.AI
end

section
namespace Go.AI
section
variable {P : Program} {E E' : Env} {G G' : Heap} {w w' : World} {ρ : Operand → AV} {a : Act} {bx : Nat → Box}
theorem cyc_eq {z : Array Value} {s : Nat} (hz : z.size = s) : ∀ n, ((List.range (n * s)).map fun i => z[i % z.size]!) = (List.replicate n z.toList).flatten
 | 0 => by simp
 | n + 1 => by
   rw [Nat.add_mul, Nat.one_mul, Nat.add_comm, List.range_add, List.map_append, List.map_map, List.replicate_succ, List.flatten_cons]
   congr 1
   · apply List.ext_getElem?
     intro i
     by_cases hi : i < s
     · have h2 : i < z.size := by omega
       simp [hi, hz, Nat.mod_eq_of_lt hi, h2]
     · simp [hi, hz]
   · rw [← cyc_eq hz n]
     apply List.map_congr_left
     intro i _
     simp [hz]
theorem RelL.rep {cs : List AV} {vs : List Value} (h : RelL E G cs vs) : ∀ n, RelL E G (List.replicate n cs).flatten (List.replicate n vs).flatten
 | 0 => RelL.nil
 | n + 1 => by
   simp only [List.replicate_succ, List.flatten_cons]
   exact h.append (RelL.rep h n)
theorem Ones.rep {vs : List Value} (h : Ones vs) : ∀ n, Ones (List.replicate n vs).flatten
 | 0 => fun v hv => by simp at hv
 | n + 1 => by
   simp only [List.replicate_succ, List.flatten_cons]
   exact h.append (Ones.rep h n)
def bslA (P : Program) (ρ : Operand → AV) (t : TypeId) (len : Nat) (parts : List (Nat × Operand)) : Option (List AV) :=
 match td P t with
 | .slice e => if td P e ≠ .none ∧ len ≤ 16777216 ∧ len * sz P e ≤ 16777216 ∧ (zr P e).plain = true ∧ (zr P e).cells.length = sz P e then
     fillA (fun i => some (i * sz P e, sz P e)) (List.replicate len (zr P e).cells).flatten (parts.map fun p => (p.1, ρ p.2))
   else none
 | _ => none
theorem Mems.buildSlice {o : Oper} {t : TypeId} {len : Nat} {parts : Array (Nat × Operand)} {cs : List AV} (ho : o.op = .buildSlice t len parts) (h : bslA P ρ t len parts.toList = some cs) :
   Mems P ρ bx o (.sl true len cs) bx := by
 intro a w E G hρ hok K Q hk
 have htd : td P t ≠ .none := by intro h0; simp [bslA, h0] at h
 obtain ⟨i, d, hi, hd, hdt⟩ := td_some htd
 unfold bslA at h
 rw [← hdt] at h
 cases d <;> simp only [tdOf, reduceCtorEq] at h
 rename_i e
 split at h
 · rename_i hc
   obtain ⟨hne, hlen, hbig, hz, hzl⟩ := hc
   obtain ⟨zv, hz1, hz2⟩ := zr_spec (P := P) rfl hz
   obtain ⟨g1, g2⟩ := (hz2 E G).cells hz
   have hzs : zv.cells.size = sz P e := by have := g1.length; simp at this; omega
   have hps := forall2_parts (E := E) (G := G) (ρ := ρ) (ev := a.eval) parts.toList fun p hpm => hρ p.2 (by
     simp only [ho, Op.operands]
     simp
     exact ⟨p.1, by simpa using hpm⟩)
   have hinit : ∀ zero : Array Value, (len * sz P e = 0 ∧ zero = #[]) ∨ zero = zv.cells →
       ((Array.range (len * sz P e)).map (zero[· % zero.size]!)).toList = (List.replicate len zv.cells.toList).flatten := by
     intro zero h0
     rcases h0 with ⟨h0, rfl⟩ | rfl
     · rw [h0]
       have h3 : (List.replicate len zv.cells.toList).flatten.length = 0 := by simp [hzs, h0]
       simp [List.eq_nil_of_length_eq_zero h3]
     · rw [← cyc_eq hzs len]; simp
   have hfill : ∀ zero : Array Value, (len * sz P e = 0 ∧ zero = #[]) ∨ zero = zv.cells →
       ∃ arr, Instr.fill (fun i => some (i * sz P e, sz P e)) ((Array.range (len * sz P e)).map (zero[· % zero.size]!)) (parts.toList.map fun p => (p.1, a.eval p.2)) = some arr ∧ RelL E G cs arr.toList ∧ Ones arr.toList :=
     fun zero h0 => fill_sound _ _ _ _ cs (by rw [hinit zero h0]; exact g1.rep len) (by rw [hinit zero h0]; exact g2.rep len) hps h
   have hps' : (parts.map fun (i, x) => (i, a.eval x)).toList = parts.toList.map fun p => (p.1, a.eval p.2) := by simp
   have key : ∃ arr : Array Value, (execOp a.eval o).run P w = .ok (.value (.slice (some ⟨w.heap.size, 0, none⟩) len len)) { w with heap := w.heap.push (.cells arr e) } ∧ RelL E G cs arr.toList ∧ Ones arr.toList := by
     have hbig' : ¬ (2 ^ 24 < len * sz P e) := by omega
     by_cases h0 : len * sz P e = 0
     · obtain ⟨arr, f1, f2, f3⟩ := hfill #[] (.inl ⟨h0, rfl⟩)
       refine ⟨arr, ?_, f2, f3⟩
       simp only [execOp, ho, Instr.buildSlice, Sem.run_bind, run_underlying hd, Result.andThen_ok, run_sizeOf hne, Sem.run_ite, hbig', if_false, gt_iff_lt, h0, if_true, Sem.run_pure, newRow, run_newObj]
       rw [h0] at f1
       simp only [hps', f1, Sem.run_bind, run_newObj, Result.andThen_ok, Sem.run_pure]
       simp
     · obtain ⟨arr, f1, f2, f3⟩ := hfill zv.cells (.inr rfl)
       refine ⟨arr, ?_, f2, f3⟩
       simp only [execOp, ho, Instr.buildSlice, Sem.run_bind, run_underlying hd, Result.andThen_ok, run_sizeOf hne, Sem.run_ite, hbig', if_false, gt_iff_lt, h0, Sem.run_pure, hz1, newRow, run_newObj, hps', f1]
   obtain ⟨arr, hrun, f2, f3⟩ := key
   have hcl : cs.length = len * sz P e := by
     have : ∀ (ps : List (Nat × AV)) (c r : List AV), fillA (fun i => some (i * sz P e, sz P e)) c ps = some r → r.length = c.length := by
       intro ps
       induction ps with
       | nil => intro c r hr; simp only [fillA, Option.some.injEq] at hr; rw [hr]
       | cons p ps ih =>
         intro c r hr
         obtain ⟨i, x⟩ := p
         simp only [fillA] at hr
         split at hr
         · rename_i hcc
           rw [ih _ _ hr]; simp [splice]; omega
         · cases hr
     rw [this _ _ _ h]; simp [hzl]
   obtain ⟨hok', hext⟩ := hok.pushG (w' := { w with heap := w.heap.push (.cells arr e) }) (T := e) (vs := arr.toList) (by simp) rfl rfl rfl
   refine .inl ?_
   unfold Oper.wp
   rw [hrun]
   refine hk _ _ E _ ?_ hok' hext
   simp only [Rel]
   refine .inr ⟨w.heap.size, 0, len, arr.toList, rfl, Nat.le_refl _, by omega, fun _ => rfl, RelL.mono (.refl _) hext.heap _ _ f2, fun j v hj => by simpa [addG] using hj, f3⟩
 · cases h
end
end Go.AI
end

section
namespace Go.AI
def repl {α : Type} (n : Nat) (x : α) : List α := List.replicate n x
def clsOf (o : Oper) : Cls := match o.op with
 | .load .. => .r
 | .store .. | .alloc .. | .box .. => .w
 | .call { callee := .builtin .append, .. } => .w
 | _ => .p
def lk : List (Nat × Nat) → Nat → Option Nat
 | [], _ => none
 | (a, b) :: l, k => if a = k then some b else lk l k
def clsM (m : List (Nat × Nat)) (o : Oper) : Cls := match o.op with
 | .load _ (.tmp a) => match lk m a with | some n => .rn n | none => .r
 | .store _ (.tmp a) _ => match lk m a with | some n => .wn n | none => .w
 | .store .. => .w
 | .alloc .. | .box .. => match o.dst with
   | some d => match lk m d with | some n => .wn n | none => .w
   | none => .w
 | .call { callee := .builtin .append, .. } => .w
 | _ => .p
def memF (P : Program) (n : Nat) (op : Op) (tm : Nat → AV) (bx : Nat → Box) : Option (Cls × AV × (Nat → Box)) :=
 match op with
 | .load t a => match evA tm a with
   | .ptr m off => match (bx m).cells? with
     | some cs => (sub P t cs off).map fun x => (.rn m, x, bx)
     | none => none
   | .iptr cs => (sub P t cs 0).map fun x => (.p, x, bx)
   | _ => none
 | .store t a v => match evA tm a with
   | .ptr m off => match (bx m).cells? with
     | some cs => if (evA tm v).plain = true ∧ sz P t = (evA tm v).cells.length ∧ (evA tm v).cells.length ≠ 0 ∧ off + (evA tm v).cells.length ≤ cs.length then
         some (.wn m, .junk, upd bx m ((bx m).withCells (splice cs off (evA tm v).cells)))
       else none
     | none => none
   | _ => none
 | .alloc t => match bx n with
   | .none => if (zr P t).plain = true then some (.wn n, .ptr n 0, upd bx n (.var (zr P t).cells)) else none
   | _ => none
 | .box _ v => match bx n with
   | .none => if (evA tm v).plain = true then some (.wn n, .ptr n 0, upd bx n (.var (evA tm v).cells)) else none
   | _ => none
 | .build t parts => (buildA P (evA tm) t parts.toList).map fun x => (.p, x, bx)
 | .buildSlice t len parts => (bslA P (evA tm) t len parts.toList).map fun x => (.p, .sl true len x, bx)
 | .binOp op t x y yt => match evA tm x, evA tm y with
   | .agg xs, .agg ys => match eqOf op, flatT P t with
     | some neg, some k => if (td P t).agg = true then (eqK k xs ys).map fun b => (.p, eqA neg b, bx) else none
     | _, _ => none
   | x', y' => (binA P op t y x' y').map fun x => (.p, x, bx)
 | op => (comp P (evA tm) op).map fun x => (.p, x, bx)
def stepF (P : Program) (ops : Array Oper) (n : Nat) (o : Oper) (tm : Nat → AV) (bx : Nat → Box) : Option (Cls × AV × (Nat → Box)) :=
 match wantedA ops tm o with
 | none => none
 | some false => some (.p, .tup [], bx)
 | some true => memF P n o.op tm bx
section
variable {P : Program} {ops : Array Oper} {E : Env} {G : Heap} {w : World} {a : Act} {C : Ctx} {st st' : St}
theorem memF_sound {n : Nat} {o : Oper} {tm : Nat → AV} {bx bx' : Nat → Box} {c : Cls} {x : AV} (h : memF P n o.op tm bx = some (c, x, bx')) :
   (c = .p ∧ bx' = bx ∧ ∀ b, Mems P (evA tm) b o x b) ∨ (∃ m, c = .rn m ∧ bx' = bx ∧ ∀ b, b m = bx m → Mems P (evA tm) b o x b) ∨
     (∃ m b', c = .wn m ∧ bx' = upd bx m b' ∧ ∀ b, b m = bx m → Mems P (evA tm) b o x (upd b m b')) := by
 have hcomp : ∀ y, comp P (evA tm) o.op = some y → some (Cls.p, y, bx) = some (c, x, bx') → (c = .p ∧ bx' = bx ∧ ∀ b, Mems P (evA tm) b o x b) := fun y h1 h2 => by
   simp only [Option.some.injEq, Prod.mk.injEq] at h2
   obtain ⟨rfl, rfl, rfl⟩ := h2
   exact ⟨rfl, rfl, fun b => Mems.pure h1⟩
 unfold memF at h
 split at h
 · rename_i t y hop
   split at h
   · rename_i m off hy
     split at h
     · rename_i cs hc
       cases hs : sub P t cs off with
       | none => simp [hs] at h
       | some v =>
         simp only [hs, Option.map_some, Option.some.injEq, Prod.mk.injEq] at h
         obtain ⟨rfl, rfl, rfl⟩ := h
         exact .inr (.inl ⟨m, rfl, rfl, fun b hb => Mems.load hop hy (by rw [hb]; exact hc) hs⟩)
     · cases h
   · rename_i cs hy
     cases hs : sub P t cs 0 with
     | none => simp [hs] at h
     | some v =>
       simp only [hs, Option.map_some] at h
       exact .inl (hcomp v (by rw [hop]; simp only [comp, hy, hs]) h)
   · cases h
 · rename_i t y v hop
   split at h
   · rename_i m off hy
     split at h
     · rename_i cs hc
       split at h
       · rename_i hh
         simp only [Option.some.injEq, Prod.mk.injEq] at h
         obtain ⟨rfl, rfl, rfl⟩ := h
         exact .inr (.inr ⟨m, _, rfl, rfl, fun b hb => Mems.store hop hy hb hc hh.1 hh.2.1 hh.2.2.1 hh.2.2.2⟩)
       · cases h
     · cases h
   · cases h
 · rename_i t hop
   split at h
   · rename_i hb
     split at h
     · rename_i hz
       simp only [Option.some.injEq, Prod.mk.injEq] at h
       obtain ⟨rfl, rfl, rfl⟩ := h
       exact .inr (.inr ⟨n, _, rfl, rfl, fun b hb' => Mems.alloc hop (by rw [hb']; exact hb) rfl hz⟩)
     · cases h
   · cases h
 · rename_i t v hop
   split at h
   · rename_i hb
     split at h
     · rename_i hz
       simp only [Option.some.injEq, Prod.mk.injEq] at h
       obtain ⟨rfl, rfl, rfl⟩ := h
       exact .inr (.inr ⟨n, _, rfl, rfl, fun b hb' => Mems.box hop (by rw [hb']; exact hb) hz⟩)
     · cases h
   · cases h
 · rename_i t parts hop
   cases hs : buildA P (evA tm) t parts.toList with
   | none => simp [hs] at h
   | some v =>
     simp only [hs, Option.map_some, Option.some.injEq, Prod.mk.injEq] at h
     obtain ⟨rfl, rfl, rfl⟩ := h
     exact .inl ⟨rfl, rfl, fun b => Mems.build hop hs⟩
 · rename_i t len parts hop
   cases hs : bslA P (evA tm) t len parts.toList with
   | none => simp [hs] at h
   | some v =>
     simp only [hs, Option.map_some, Option.some.injEq, Prod.mk.injEq] at h
     obtain ⟨rfl, rfl, rfl⟩ := h
     exact .inl ⟨rfl, rfl, fun b => Mems.buildSlice hop hs⟩
 · rename_i op t y z yt hop
   split at h
   · rename_i xs ys hy hz
     split at h
     · rename_i neg k hn hk
       split at h
       · rename_i hag
         cases hs : eqK k xs ys with
         | none => simp [hs] at h
         | some b =>
           simp only [hs, Option.map_some, Option.some.injEq, Prod.mk.injEq] at h
           obtain ⟨rfl, rfl, rfl⟩ := h
           exact .inl ⟨rfl, rfl, fun b' => Mems.eq hop hn hk hag hy hz hs⟩
       · cases h
     · cases h
   · cases hs : binA P op t z (evA tm y) (evA tm z) with
     | none => simp [hs] at h
     | some v =>
       simp only [hs, Option.map_some] at h
       exact .inl (hcomp v (by rw [hop]; simp only [comp]; exact hs) h)
 · cases hs : comp P (evA tm) o.op with
   | none => simp [hs] at h
   | some v =>
     simp only [hs, Option.map_some] at h
     exact .inl (hcomp v hs h)
def clsLe : Cls → Cls → Bool
 | .p, .p => true
 | .p, .r => true
 | .p, .rn _ => true
 | .p, .w => true
 | .rn n, .rn m => (n == m)
 | .rn _, .r => true
 | .rn _, .w => true
 | .wn n, .wn m => (n == m)
 | .wn _, .w => true
 | _, _ => false
theorem stepF_sound {i n : Nat} {o : Oper} {bx' : Nat → Box} {c c' : Cls} {x : AV} (ho : ops[i]? = some o) (h : stepF P ops n o st.tm st.bx = some (c, x, bx')) (hc : clsLe c c' = true) :
   StepC P ops i c' st ⟨putA st.tm o.dst x, bx', st.nx⟩ := by
 unfold stepF at h
 split at h
 · cases h
 · rename_i hw
   simp only [Option.some.injEq, Prod.mk.injEq] at h
   obtain ⟨rfl, rfl, rfl⟩ := h
   exact .skip ho hw
 · rename_i hw
   rcases memF_sound h with ⟨rfl, rfl, h'⟩ | ⟨m, rfl, rfl, h'⟩ | ⟨m, b', rfl, rfl, h'⟩
   · exact .ofP (fun n e => by subst e; simp [clsLe] at hc) ho hw h'
   · cases c' <;> simp only [clsLe, Bool.false_eq_true] at hc
     · exact .ofR ho hw (h' _ rfl)
     · exact .ofW ho hw (h' _ rfl)
     · rename_i k
       have := eq_of_beq hc; subst this
       exact .ofRn ho hw h'
   · cases c' <;> simp only [clsLe, Bool.false_eq_true] at hc
     · exact .ofW ho hw (h' _ rfl)
     · rename_i k
       have := eq_of_beq hc; subst this
       exact .ofWn ho hw h'
def RunQ (P : Program) (ops : Array Oper) (cf : Oper → Cls) (l : List Oper) (i : Nat) (tm : Nat → AV) (bx : Nat → Box) (nx : Nat) (Q : (Nat → AV) → (Nat → Box) → Prop) : Prop :=
 ops.toList.drop i = l → ∃ (L : List (Nat × Cls)) (s : St), L.map (·.1) = List.range' i l.length ∧ L.map (·.2) = l.map cf ∧ ChainC P ops L ⟨tm, bx, nx⟩ s ∧ Q s.tm s.bx
variable {cf : Oper → Cls} {l : List Oper} {i nx : Nat} {tm : Nat → AV} {bx : Nat → Box} {Q : (Nat → AV) → (Nat → Box) → Prop} {o : Oper}
theorem RunQ.nil (h : Q tm bx) : RunQ P ops cf [] i tm bx nx Q := fun _ => ⟨[], ⟨tm, bx, nx⟩, rfl, rfl, .nil, h⟩
theorem drop_head (h : ops.toList.drop i = o :: l) : ops[i]? = some o ∧ ops.toList.drop (i + 1) = l := by
 constructor
 · have := congrArg (·[0]?) h
   simpa using this
 · rw [← List.drop_drop, h]; rfl
theorem RunQ.consC {x : AV} {bx' : Nat → Box} (h : ops[i]? = some o → StepC P ops i (cf o) ⟨tm, bx, nx⟩ ⟨putA tm o.dst x, bx', nx⟩)
   (t : RunQ P ops cf l (i + 1) (putA tm o.dst x) bx' nx Q) : RunQ P ops cf (o :: l) i tm bx nx Q := by
 intro hl
 obtain ⟨h1, h2⟩ := drop_head hl
 obtain ⟨L, s, e1, e2, e3, e4⟩ := t h2
 exact ⟨(i, cf o) :: L, s, by simp [e1, List.range'_succ], by simp [e2], .cons (h h1) e3, e4⟩
def notWn : Cls → Bool | .wn _ => false | _ => true
theorem notWn_ne {c : Cls} (h : notWn c = true) : ∀ n, c ≠ .wn n := fun n e => by subst e; cases h
theorem RunQ.call {c : Call} {fo : Operand} {f : FuncId} {caps args : List AV} {r : AV} (hop : o.op = .call c) (hc : c.callee = .value fo) (hg : o.guard = none) (hcf : notWn (cf o) = true)
   (hf : evA tm fo = .fn f caps) (ha : LeL (c.args.toList.map (evA tm) ++ caps) args) (h : FnP P f args r) (hcl : ClL args = true)
   (t : RunQ P ops cf l (i + 1) (putA tm o.dst r) bx nx Q) : RunQ P ops cf (o :: l) i tm bx nx Q := by
 refine .consC (fun ho => ?_) t
 exact StepC.ofP (notWn_ne hcf) ho (by simp [wantedA, hg]) fun b => Mems.call hop hc hf ha h hcl
theorem RunQ.callG {c : Call} {fo : Operand} {f : FuncId} {caps args : List AV} {r : AV} (hop : o.op = .call c) (hc : c.callee = .value fo) (hg : wantedA ops tm o = some true) (hcf : notWn (cf o) = true)
   (hf : evA tm fo = .fn f caps) (ha : LeL (c.args.toList.map (evA tm) ++ caps) args) (h : FnP P f args r) (hcl : ClL args = true)
   (t : RunQ P ops cf l (i + 1) (putA tm o.dst r) bx nx Q) : RunQ P ops cf (o :: l) i tm bx nx Q := by
 refine .consC (fun ho => ?_) t
 exact StepC.ofP (notWn_ne hcf) ho hg fun b => Mems.call hop hc hf ha h hcl
theorem RunQ.mem {x : AV} {bx' : Nat → Box} (hw : wantedA ops tm o = some true) (hcf : cf o = .w) (h : Mems P (evA tm) bx o x bx')
   (t : RunQ P ops cf l (i + 1) (putA tm o.dst x) bx' nx Q) : RunQ P ops cf (o :: l) i tm bx nx Q :=
 .consC (fun ho => by rw [hcf]; exact .ofW ho hw h) t
theorem RunQ.pure {x : AV} (hw : wantedA ops tm o = some true) (hcf : notWn (cf o) = true) (h : ∀ b, Mems P (evA tm) b o x b)
   (t : RunQ P ops cf l (i + 1) (putA tm o.dst x) bx nx Q) : RunQ P ops cf (o :: l) i tm bx nx Q :=
 .consC (fun ho => .ofP (notWn_ne hcf) ho hw h) t
theorem ChainC.opsK {k : List Item} : ∀ {L : List (Nat × Cls)} {s s' : St}, ChainC P ops L s s' → WK P C k ⟨s'.tm, s'.bx, s'.nx + ops.size⟩ → OpsK P C ops (L.map (·.1)) k s
 | [], s, s', h, hk => by cases h; exact .nil hk
 | (i, c) :: L, s, s', h, hk => by
   cases h with
   | cons h t => exact .cons h.step1 (ChainC.opsK t hk)
def dstB (n : Nat) (ops : Array Oper) : Bool := ops.toList.all fun o => (match o.dst with | some d => Nat.blt d n | none => true) && (match o.op with | .defer _ => false | _ => true)
theorem dstB_nd {n : Nat} (h : dstB n ops = true) : NoDf ops := by
 intro i o ho c hc
 have := List.all_eq_true.1 h o (by simpa using Array.mem_of_getElem? ho)
 simp [hc] at this
theorem dstB_ok (h : dstB C.fn.ntmps ops = true) : DstOk C ops := by
 intro i o d ho hd
 have := List.all_eq_true.1 h o (by simpa using Array.mem_of_getElem? ho)
 simp only [hd, Bool.and_eq_true] at this
 simpa using this.1
def RunF (P : Program) (ops : Array Oper) (cf : Oper → Cls) (nx : Nat) (Q : (Nat → AV) → (Nat → Box) → Prop) : List Oper → Nat → (Nat → AV) → (Nat → Box) → Prop
 | [], _, tm, bx => Q tm bx
 | o :: l, i, tm, bx => match stepF P ops (nx + i) o tm bx with
   | some (c, x, bx') => clsLe c (cf o) = true ∧ RunF P ops cf nx Q l (i + 1) (putA tm o.dst x) bx'
   | none => RunQ P ops cf (o :: l) i tm bx nx Q
theorem RunQ.eval : ∀ {l : List Oper} {i : Nat} {tm : Nat → AV} {bx : Nat → Box}, RunF P ops cf nx Q l i tm bx → RunQ P ops cf l i tm bx nx Q
 | [], i, tm, bx, h => .nil h
 | o :: l, i, tm, bx, h => by
   simp only [RunF] at h
   split at h
   · rename_i c x bx' hs
     exact .consC (fun ho => stepF_sound (st := ⟨tm, bx, nx⟩) ho hs h.1) (RunQ.eval h.2)
   · exact h
theorem WK.anyNx {k : List Item} {tm : Nat → AV} {bx : Nat → Box} {n m : Nat} (h : WK P C k ⟨tm, bx, n⟩) : WK P C k ⟨tm, bx, m⟩ :=
 fun a w E G hst => h a w E G ⟨hst.size, hst.tm, hst.df, hst.ok, hst.ext, hst.keep, hst.an, hst.ms⟩
theorem WK.g (n' : Nat) {id n : Nat} {k : List Item} (hn : C.fn.ntmps = n) (hd : dstB n ops = true)
   (h : ∀ A, A = ops → ∀ Q : (Nat → AV) → (Nat → Box) → Prop, (∀ tm bx, WK P C k ⟨tm, bx, n'⟩ → Q tm bx) → RunF P A (fun _ => .w) nx Q ops.toList 0 tm bx) :
   WK P C (.code (.region id ops false) :: k) ⟨tm, bx, nx⟩ := by
 obtain ⟨L, s, e1, e2, e3, e4⟩ := RunQ.eval (h _ rfl (fun tm bx => WK P C k ⟨tm, bx, n'⟩) (fun _ _ h => h)) rfl
 refine WK.region (dstB_ok (hn ▸ hd)) (dstB_nd hd) ?_
 have := ChainC.opsK (C := C) (k := k) e3 (WK.anyNx e4)
 rw [e1] at this
 rwa [List.range_eq_range', ← Array.length_toList]
theorem WK.regD (n' : Nat) {id n : Nat} {k : List Item} (cf : Oper → Cls) (hm : P.follows .mixedOrders = true) (hn : C.fn.ntmps = n) (hd : dstB n ops = true) (hok : drawOk ops (ops.toList.map cf) = true)
   (h : ∀ A, A = ops → ∀ Q : (Nat → AV) → (Nat → Box) → Prop, (∀ tm bx, WK P C k ⟨tm, bx, n'⟩ → Q tm bx) → RunF P A cf nx Q ops.toList 0 tm bx) :
   WK P C (.code (.region id ops true) :: k) ⟨tm, bx, nx⟩ := by
 obtain ⟨L, s, e1, e2, e3, e4⟩ := RunQ.eval (h _ rfl (fun tm bx => WK P C k ⟨tm, bx, n'⟩) (fun _ _ h => h)) rfl
 refine WK.draw (cls := ops.toList.map cf) (s' := s) hm (dstB_ok (hn ▸ hd)) (dstB_nd hd) hok ?_ (WK.anyNx e4)
 have : (List.range ops.size).zip (ops.toList.map cf) = L := by
   rw [List.range_eq_range', ← Array.length_toList, ← e1, ← e2]
   clear e1 e2 e3
   induction L with
   | nil => rfl
   | cons x L ih => simp [ih]
 rw [this]
 exact e3
end
end Go.AI
end

section
namespace Go.AI
def anOk (ok : Nat → Prop) : List (Nat × Loc) → Prop
 | [] => True
 | p :: ps => ok p.1 ∧ anOk ok ps
theorem anOk_mem {ok : Nat → Prop} : ∀ {l : List (Nat × Loc)}, anOk ok l → ∀ p, p ∈ l → ok p.1
 | [], _, p, hp => by cases hp
 | q :: ps, h, p, hp => by
   rcases List.mem_cons.1 hp with rfl | hp
   · exact h.1
   · exact anOk_mem h.2 p hp
def Ghost (ok : Nat → Prop) (st st' : St) : Prop := ∀ (C : Ctx) (a : Act) (w : World) (E : Env) (G : Heap), anOk ok C.an → StRel C st a w E G → ∃ E' G', StRel C st' a w E' G'
theorem WK.ghost {P : Program} {C : Ctx} {k : List Item} {st st' : St} {ok : Nat → Prop} (hg : Ghost ok st st') (h : WK P C k st') (hA : anOk ok C.an := by first | exact trivial | exact ⟨by simp, trivial⟩) : WK P C k st := by
 intro a w E G hst b cs hf hk hr
 obtain ⟨E', G', hst'⟩ := hg C a w E G hA hst
 exact h a w E' G' hst' b cs hf hk hr
theorem Live_B0 (E : Env) (b : Nat) : ¬ Live B0 E b := by rintro ⟨n, l, h, _⟩; simp [B0, Box.live] at h
section
variable {E E' : Env} {G G' : Heap} {w w' : World} {bx bx' : Nat → Box}
theorem frz {n : Nat} {cs : List AV} (h : HeapOk bx E G w) (hc : (bx n).cells? = some cs) : ∃ G', HeapLe G G' ∧ HeapOk (upd bx n .gone) E G' w ∧
   Ext bx E G w (upd bx n .gone) E G' w ∧ (∀ off v, Rel E G (.ptr n off) v → Rel E G' (.iptr (cs.drop off)) v) ∧
   (∀ off k s v, Rel E G (.msl n off k) v → (k ≠ 0 ∨ off = 0) → Rel E G' (.sl false k ((cs.drop off).take (k * s))) v) := by
 have hlive : (bx n).live = true := by cases hbn : bx n <;> simp [hbn, Box.cells?, Box.live] at hc ⊢
 have hlv : ∀ b, Live (upd bx n .gone) E b → Live bx E b := by
   rintro b ⟨m, k, h1, h2, h3⟩
   by_cases hm : m = n
   · subst hm; simp [Box.live] at h1
   · rw [upd_ne _ _ _ _ hm] at h1; exact ⟨m, k, h1, h2, h3⟩
 have hbox := h.box n
 cases hE : E n with
 | none =>
   rw [hE] at hbox
   cases hbn : bx n <;> simp [hbn, Box.cells?] at hc <;> simp [hbn, BoxOk] at hbox
 | some l =>
   cases hb : l.blk? with
   | none =>
     rw [hE] at hbox
     have hl : l = .nil := by
       cases l <;> simp [Loc.blk?] at hb ⊢
       cases hbn : bx n <;> simp [hbn, Box.cells?] at hc <;> simp [hbn, BoxOk] at hbox
     subst hl
     have hcs : cs = [] := by
       cases hbn : bx n <;> simp [hbn, Box.cells?] at hc <;> simp [hbn, BoxOk] at hbox
       subst hc; exact hbox
     subst hcs
     refine ⟨G, .refl _, ⟨h.gw, fun m => ?_, fun m m' k k' b h1 h2 => ?_, fun b hb' => h.off b (hlv b hb')⟩, ⟨rfl, rfl, rfl, fun _ _ => rfl, Nat.le_refl _, .refl _, .refl _, fun _ _ _ => ⟨rfl, rfl⟩, fun b hb' => .inr (hlv b hb')⟩, fun off v hv => ?_, fun off k s v hv hk => ?_⟩
     · by_cases hm : m = n
       · subst hm; simp [BoxOk]
       · rw [upd_ne _ _ _ _ hm]; exact h.box m
     · by_cases hm : m = n
       · subst hm; simp [Box.live] at h1
       · by_cases hm' : m' = n
         · subst hm'; simp [Box.live] at h2
         · rw [upd_ne _ _ _ _ hm] at h1; rw [upd_ne _ _ _ _ hm'] at h2
           exact h.sep m m' k k' b h1 h2
     · simp only [Rel] at hv
       obtain ⟨l, blk, h1, h2, _⟩ := hv
       rw [hE] at h1; simp only [Option.some.injEq] at h1; subst h1; simp [Loc.blk?] at h2
     · simp only [Rel] at hv ⊢
       rcases hv with ⟨blk, cap, _, _, _, h4⟩ | ⟨_, h2, h3, a, rfl⟩
       · rcases h4 with ⟨_, _, h4, _⟩ | h4 <;> rw [hE] at h4 <;> simp at h4
       · subst h2 h3
         exact .inl ⟨a, 0, by simp⟩
   | some blk =>
     obtain ⟨vs, rest, T, h1, h2, h3⟩ := hbox.cells hc hE hb
     have hbh := Loc.has_of hb
     have hGn : ∀ o, G blk o = none := (h.off blk ⟨n, l, hlive, hE, hbh⟩).2
     have hle : HeapLe G (addG G blk vs) := fun b o v hb' => by
       unfold addG; split
       · rename_i h0; subst h0; simp [hGn] at hb'
       · exact hb'
     have hin : InG (addG G blk vs) blk 0 vs := fun j v hv => by simpa [addG] using hv
     refine ⟨addG G blk vs, hle, ⟨fun b o v hb' => ?_, fun m => ?_, fun m m' k k' b h1 h2 => ?_, fun b hb' => ?_⟩, ⟨rfl, rfl, rfl, fun _ _ => rfl, Nat.le_refl _, .refl _, hle, fun b _ hn => ⟨rfl, ?_⟩, fun b hb' => .inr (hlv b hb')⟩, fun off v hv => ?_, fun off k s v hv hk => ?_⟩
     · unfold addG at hb'; split at hb'
       · rename_i h0; subst h0
         have := cells_of_heap h1 o v hb'
         simpa using this
       · exact h.gw b o v hb'
     · by_cases hm : m = n
       · subst hm; simp [BoxOk]
       · rw [upd_ne _ _ _ _ hm]; exact (h.box m).mono (.refl _) hle (Nat.le_refl _) fun l' b hl' hb' hcl => ⟨rfl, by
           funext o; unfold addG; split
           · rename_i h0; subst h0
             exact absurd (h.sep m n l' l b hcl hlive hl' hE hb' hbh) hm
           · rfl⟩
     · by_cases hm : m = n
       · subst hm; simp [Box.live] at h1
       · by_cases hm' : m' = n
         · subst hm'; simp [Box.live] at h2
         · rw [upd_ne _ _ _ _ hm] at h1; rw [upd_ne _ _ _ _ hm'] at h2
           exact h.sep m m' k k' b h1 h2
     · have := h.off b (hlv b hb')
       refine ⟨this.1, fun o => ?_⟩
       unfold addG; split
       · rename_i h0; subst h0
         exfalso
         obtain ⟨m, k, g1, g2, g3⟩ := hb'
         by_cases hm : m = n
         · subst hm; simp [Box.live] at g1
         · rw [upd_ne _ _ _ _ hm] at g1
           exact hm (h.sep m n k l b g1 hlive g2 hE g3 hbh)
       · exact this.2 o
     · funext o; unfold addG; split
       · rename_i h0; subst h0
         exact absurd ⟨n, l, hlive, hE, hbh⟩ hn
       · rfl
     · simp only [Rel] at hv ⊢
       obtain ⟨l', blk', g1, g2, rfl⟩ := hv
       rw [hE] at g1; simp only [Option.some.injEq] at g1; subst g1
       rw [hb] at g2; simp only [Option.some.injEq] at g2; subst g2
       exact ⟨blk, off, vs.drop off, rfl, RelL.mono (.refl _) hle _ _ (h2.drop off), by simpa using hin.drop off, h3.drop off⟩
     · simp only [Rel] at hv ⊢
       rcases hv with ⟨blk', cap, rfl, g2, g3, g4⟩ | ⟨g1, _⟩
       · have hbb : blk' = blk := by
           rcases g4 with ⟨s', tot, g4, _⟩ | g4
           · rw [hE] at g4; simp only [Option.some.injEq] at g4; subst g4; simpa [Loc.blk?] using hb
           · rw [hE] at g4; simp only [Option.some.injEq] at g4; subst g4; simpa [Loc.blk?] using hb
         subst hbb
         refine .inr ⟨blk', off, cap, (vs.drop off).take (k * s), rfl, g2, g3, by simp, ?_, ?_, ?_⟩
         · exact RelL.mono (.refl _) hle _ _ ((h2.drop off).take _)
         · have := (hin.drop off).take (k * s); simpa using this
         · exact (h3.drop off).take _
       · rw [hE] at g1; simp only [Option.some.injEq] at g1; subst g1; simp [Loc.blk?] at hb
theorem Ghost.frzVar {tm : Nat → AV} {nx n off : Nat} {cs : List AV} (t : Nat) (ht : tm t = .ptr n off) (hc : (bx n).cells? = some cs) :
   Ghost (· ≠ n) ⟨tm, bx, nx⟩ ⟨upd tm t (.iptr (cs.drop off)), upd bx n .gone, nx⟩ := by
 intro C a w E G _ h
 obtain ⟨G', h1, h2, h3, h4, _⟩ := frz h.ok hc
 have htm : ∀ t, Rel E G (tm t) (a.tmps.getD t undef) := h.tm
 refine ⟨E, G', h.size, fun j => ?_, h.df, h2, h.ext.trans h3, keep_ext h.keep h3, fun p hp hf => h3.env _ _ (h.an p hp hf) hf, h.ms⟩
 show Rel E G' (upd tm t _ j) _
 by_cases hj : j = t
 · subst hj; simp only [upd_same]
   exact h4 off _ (by have := htm j; rw [ht] at this; exact this)
 · rw [upd_ne _ _ _ _ hj]; exact (htm j).mono (.refl _) h1
theorem Ghost.frzSl {tm : Nat → AV} {nx n k : Nat} {cs : List AV} (t s : Nat) (ht : tm t = .msl n 0 k) (hc : (bx n).cells? = some cs) :
   Ghost (· ≠ n) ⟨tm, bx, nx⟩ ⟨upd tm t (.sl false k (cs.take (k * s))), upd bx n .gone, nx⟩ := by
 intro C a w E G _ h
 obtain ⟨G', h1, h2, h3, _, h4⟩ := frz h.ok hc
 have htm : ∀ t, Rel E G (tm t) (a.tmps.getD t undef) := h.tm
 refine ⟨E, G', h.size, fun j => ?_, h.df, h2, h.ext.trans h3, keep_ext h.keep h3, fun p hp hf => h3.env _ _ (h.an p hp hf) hf, h.ms⟩
 show Rel E G' (upd tm t _ j) _
 by_cases hj : j = t
 · subst hj; simp only [upd_same]
   have := h4 0 k s _ (by have := htm j; rw [ht] at this; exact this) (.inr rfl)
   simpa using this
 · rw [upd_ne _ _ _ _ hj]; exact (htm j).mono (.refl _) h1
theorem Ghost.own {tm : Nat → AV} {nx : Nat} (t n s : Nat) (ht : tm t = .sl true 0 []) (hn : bx n = .none) :
   Ghost (fun _ => True) ⟨tm, bx, nx⟩ ⟨upd tm t (.msl n 0 0), upd bx n (.buf s []), nx⟩ := by
 intro C a w E G _ h
 have hEn : E n = none := by have := h.ok.box n; simp only [hn] at this; simpa [BoxOk] using this
 have he : EnvLe E (setE E n .nil) := fun m k hm _ => by
   unfold setE; split
   · rename_i h0; subst h0; simp [hEn] at hm
   · exact hm
 have hlv : ∀ b, Live (upd bx n (.buf s [])) (setE E n .nil) b → Live bx E b := by
   rintro b ⟨m, k, h1, h2, h3⟩
   by_cases hm : m = n
   · subst hm; simp only [setE, if_true, Option.some.injEq] at h2; subst h2; simp [Loc.has] at h3
   · rw [upd_ne _ _ _ _ hm] at h1; simp only [setE, hm, if_false] at h2; exact ⟨m, k, h1, h2, h3⟩
 refine ⟨setE E n .nil, G, h.size, fun j => ?_, h.df, ⟨h.ok.gw, fun m => ?_, fun m m' k k' b h1 h2 h3 h4 h5 h6 => ?_, fun b hb => h.ok.off b (hlv b hb)⟩, h.ext.less hlv, keep_less h.keep hlv, fun p hp hf => he _ _ (h.an p hp hf) hf, h.ms⟩
 · have htm : Rel E G (tm j) (a.tmps.getD j undef) := h.tm j
   show Rel _ G (upd tm t _ j) _
   by_cases hj : j = t
   · subst hj; simp only [upd_same]
     rw [ht] at htm
     simp only [Rel] at htm ⊢
     refine .inr ⟨by simp [setE], trivial, trivial, ?_⟩
     rcases htm with ⟨ad, cap, hv, _, h0, _⟩ | ⟨blk, off, cap, vs, hv, _, _, h0, _⟩
     · have := h0 trivial; subst this; exact ⟨ad, hv⟩
     · have := h0 trivial; subst this; exact ⟨_, hv⟩
   · rw [upd_ne _ _ _ _ hj]; exact htm.mono he (.refl _)
 · show BoxOk _ G w (upd bx n _ m) _
   by_cases hm : m = n
   · subst hm; simp [setE, BoxOk]
   · rw [upd_ne _ _ _ _ hm]; simp only [setE, hm, if_false]
     exact (h.ok.box m).mono he (.refl _) (Nat.le_refl _) fun _ _ _ _ _ => ⟨rfl, rfl⟩
 · dsimp only at h1 h2
   by_cases hm : m = n
   · subst hm; simp only [setE, if_true, Option.some.injEq] at h3; subst h3; simp [Loc.has] at h5
   · by_cases hm' : m' = n
     · subst hm'; simp only [setE, if_true, Option.some.injEq] at h4; subst h4; simp [Loc.has] at h6
     · simp only [setE, hm, hm', if_false] at h3 h4
       rw [upd_ne _ _ _ _ hm] at h1; rw [upd_ne _ _ _ _ hm'] at h2
       exact h.ok.sep m m' k k' b h1 h2 h3 h4 h5 h6
mutual
def Ren (σ : Nat → Nat) : AV → AV
 | .ptr n off => .ptr (σ n) off
 | .mv n => .mv (σ n)
 | .msl n off k => .msl (σ n) off k
 | .fn f cs => .fn f (RenL σ cs)
 | .agg cs => .agg (RenL σ cs)
 | .tup cs => .tup (RenL σ cs)
 | .sl b n cs => .sl b n (RenL σ cs)
 | .iptr cs => .iptr (RenL σ cs)
 | .iface t x => .iface t (Ren σ x)
 | x => x
def RenL (σ : Nat → Nat) : List AV → List AV
 | [] => []
 | c :: cs => Ren σ c :: RenL σ cs
end
mutual
def Nm (bx' : Nat → Box) : AV → Bool
 | .ptr n _ | .msl n _ _ | .mv n => (bx' n).live
 | .fn _ cs | .agg cs | .tup cs | .sl _ _ cs | .iptr cs => NmL bx' cs
 | .iface _ x => Nm bx' x
 | _ => true
def NmL (bx' : Nat → Box) : List AV → Bool
 | [] => true
 | c :: cs => Nm bx' c && NmL bx' cs
end
mutual
theorem Rel.ren {σ : Nat → Nat} (hE : ∀ n, (bx' n).live = true → E' n = E (σ n)) : ∀ (c : AV) (v : Value), Nm bx' c = true → Rel E G (Ren σ c) v → Rel E' G c v
 | .junk, v, _, h => by simp only [Rel]
 | .anyb, v, _, h => by simpa only [Rel, Ren] using h
 | .bool b, v, _, h => by simpa only [Rel, Ren] using h
 | .int k n, v, _, h => by simpa only [Rel, Ren] using h
 | .str s, v, _, h => by simpa only [Rel, Ren] using h
 | .nilf, v, _, h => by simpa only [Rel, Ren] using h
 | .nilp, v, _, h => by simpa only [Rel, Ren] using h
 | .niface, v, _, h => by simpa only [Rel, Ren] using h
 | .yv l, v, _, h => by simpa only [Rel, Ren] using h
 | .mv b, v, hc, h => by
   simp only [Nm] at hc
   simp only [Rel, Ren] at h ⊢
   rw [hE b hc]; exact h
 | .fn f cs, v, hc, h => by
   simp only [Nm] at hc
   simp only [Rel, Ren] at h ⊢
   obtain ⟨vs, hv, hr⟩ := h
   exact ⟨vs, hv, RelL.ren hE cs vs hc hr⟩
 | .agg cs, v, hc, h => by
   simp only [Nm] at hc
   simp only [Rel, Ren] at h ⊢
   obtain ⟨vs, hv, hr, ho⟩ := h
   exact ⟨vs, hv, RelL.ren hE cs vs hc hr, ho⟩
 | .tup cs, v, hc, h => by
   simp only [Nm] at hc
   simp only [Rel, Ren] at h ⊢
   obtain ⟨vs, hv, hr⟩ := h
   exact ⟨vs, hv, RelL.ren hE cs vs hc hr⟩
 | .sl full n cs, v, hc, h => by
   simp only [Nm] at hc
   simp only [Rel, Ren] at h ⊢
   rcases h with ⟨a, cap, h1, h2, h3, h4⟩ | ⟨blk, off, cap, vs, h1, h2, h3, h4, h5, h6, h7⟩
   · refine .inl ⟨a, cap, h1, h2, h3, ?_⟩
     cases cs
     · rfl
     · simp [RenL] at h4
   · exact .inr ⟨blk, off, cap, vs, h1, h2, h3, h4, RelL.ren hE cs vs hc h5, h6, h7⟩
 | .iptr cs, v, hc, h => by
   simp only [Nm] at hc
   simp only [Rel, Ren] at h ⊢
   obtain ⟨blk, off, vs, h1, h5, h6, h7⟩ := h
   exact ⟨blk, off, vs, h1, RelL.ren hE cs vs hc h5, h6, h7⟩
 | .ptr b off, v, hc, h => by
   simp only [Nm] at hc
   simp only [Rel, Ren] at h ⊢
   rw [hE b hc]; exact h
 | .msl b off n, v, hc, h => by
   simp only [Nm] at hc
   simp only [Rel, Ren] at h ⊢
   rw [hE b hc]; exact h
 | .iface t x, v, hc, h => by
   simp only [Nm] at hc
   simp only [Rel, Ren] at h ⊢
   obtain ⟨y, h1, h2⟩ := h
   exact ⟨y, h1, Rel.ren hE x y hc h2⟩
theorem RelL.ren {σ : Nat → Nat} (hE : ∀ n, (bx' n).live = true → E' n = E (σ n)) : ∀ (cs : List AV) (vs : List Value), NmL bx' cs = true → RelL E G (RenL σ cs) vs → RelL E' G cs vs
 | [], vs, _, h => by simpa only [RelL, RenL] using h
 | c :: cs, vs, hc, h => by
   simp only [NmL, Bool.and_eq_true] at hc
   simp only [RelL, RenL] at h ⊢
   obtain ⟨v, vs', h1, h2, h3⟩ := h
   exact ⟨v, vs', h1, Rel.ren hE c v hc.1 h2, RelL.ren hE cs vs' hc.2 h3⟩
end
mutual
theorem Ren.closed (σ : Nat → Nat) : ∀ (c : AV), Cl c = true → Ren σ c = c
 | .ptr .., h => by simp [Cl] at h
 | .mv _, h => by simp [Cl] at h
 | .msl .., h => by simp [Cl] at h
 | .fn f cs, h => by simp only [Ren, RenL.closed σ cs (by simpa [Cl] using h)]
 | .agg cs, h => by simp only [Ren, RenL.closed σ cs (by simpa [Cl] using h)]
 | .tup cs, h => by simp only [Ren, RenL.closed σ cs (by simpa [Cl] using h)]
 | .sl b n cs, h => by simp only [Ren, RenL.closed σ cs (by simpa [Cl] using h)]
 | .iptr cs, h => by simp only [Ren, RenL.closed σ cs (by simpa [Cl] using h)]
 | .iface t x, h => by simp only [Ren, Ren.closed σ x (by simpa [Cl] using h)]
 | .junk, _ | .anyb, _ | .bool _, _ | .int .., _ | .str _, _ | .nilf, _ | .nilp, _ | .niface, _ | .yv _, _ => rfl
theorem RenL.closed (σ : Nat → Nat) : ∀ (cs : List AV), ClL cs = true → RenL σ cs = cs
 | [], _ => rfl
 | c :: cs, h => by
   simp only [ClL, Bool.and_eq_true] at h
   simp only [RenL, Ren.closed σ c h.1, RenL.closed σ cs h.2]
end
mutual
theorem Nm.closed (bx : Nat → Box) : ∀ (c : AV), Cl c = true → Nm bx c = true
 | .ptr .., h => by simp [Cl] at h
 | .mv _, h => by simp [Cl] at h
 | .msl .., h => by simp [Cl] at h
 | .fn f cs, h => by simp only [Nm, NmL.closed bx cs (by simpa [Cl] using h)]
 | .agg cs, h => by simp only [Nm, NmL.closed bx cs (by simpa [Cl] using h)]
 | .tup cs, h => by simp only [Nm, NmL.closed bx cs (by simpa [Cl] using h)]
 | .sl b n cs, h => by simp only [Nm, NmL.closed bx cs (by simpa [Cl] using h)]
 | .iptr cs, h => by simp only [Nm, NmL.closed bx cs (by simpa [Cl] using h)]
 | .iface t x, h => by simp only [Nm, Nm.closed bx x (by simpa [Cl] using h)]
 | .junk, _ | .anyb, _ | .bool _, _ | .int .., _ | .str _, _ | .nilf, _ | .nilp, _ | .niface, _ | .yv _, _ => rfl
theorem NmL.closed (bx : Nat → Box) : ∀ (cs : List AV), ClL cs = true → NmL bx cs = true
 | [], _ => rfl
 | c :: cs, h => by
   simp only [ClL, Bool.and_eq_true] at h
   simp only [NmL, Nm.closed bx c h.1, NmL.closed bx cs h.2, Bool.and_self]
end
def wkA (σ : Nat → Nat) (bx' : Nat → Box) (x y : AV) : Prop := (Cl x = true ∧ Le y x) ∨ (Cl x = false ∧ Nm bx' x = true ∧ Le y (Ren σ x))
def wkL (σ : Nat → Nat) (bx' : Nat → Box) (x y : List AV) : Prop := (ClL x = true ∧ LeL y x) ∨ (ClL x = false ∧ NmL bx' x = true ∧ LeL y (RenL σ x))
theorem wkA_rel {σ : Nat → Nat} (hE : ∀ n, (bx' n).live = true → E' n = E (σ n)) {x y : AV} (h : wkA σ bx' x y) {v : Value} (hv : Rel E G y v) : Rel E' G x v := by
 rcases h with ⟨h1, h2⟩ | ⟨_, h1, h2⟩
 · exact (h2 _ _ _ hv).closed _ _ h1
 · exact Rel.ren hE _ _ h1 (h2 _ _ _ hv)
theorem wkL_rel {σ : Nat → Nat} (hE : ∀ n, (bx' n).live = true → E' n = E (σ n)) {x y : List AV} (h : wkL σ bx' x y) {v : List Value} (hv : RelL E G y v) : RelL E' G x v := by
 rcases h with ⟨h1, h2⟩ | ⟨_, h1, h2⟩
 · exact (h2 _ _ _ hv).closed _ _ h1
 · exact RelL.ren hE _ _ h1 (h2 _ _ _ hv)
def wkT (σ : Nat → Nat) (bx' : Nat → Box) (x y : AV) : Prop :=
 match x with
 | .junk => True
 | .ptr n off => y = .ptr (σ n) off ∧ (bx' n).live = true
 | .mv n => y = .mv (σ n) ∧ (bx' n).live = true
 | .msl n off k => y = .msl (σ n) off k ∧ (bx' n).live = true
 | x => wkA σ bx' x y
def TmW (σ : Nat → Nat) (bx' : Nat → Box) (f g : Nat → AV) : Prop := ∀ t, wkT σ bx' (f t) (g t)
def J : Nat → AV := fun _ => .junk
theorem TmW.nil {σ : Nat → Nat} {g : Nat → AV} : TmW σ bx' J g := fun _ => trivial
theorem TmW.upd {σ : Nat → Nat} {f g : Nat → AV} {t : Nat} {x : AV} (h : TmW σ bx' f g) (hx : wkT σ bx' x (g t)) : TmW σ bx' (upd f t x) g := fun j => by
 by_cases hj : j = t
 · subst hj; simpa using hx
 · rw [upd_ne _ _ _ _ hj]; exact h j
def wkB (σ : Nat → Nat) (bx' bx : Nat → Box) (n : Nat) (b : Box) : Prop :=
 match b with
 | .none => True
 | .gone => False
 | .var cs => match bx (σ n) with | .var c0 => wkL σ bx' cs c0 | _ => False
 | .buf s cs => match bx (σ n) with | .buf s0 c0 => s0 = s ∧ wkL σ bx' cs c0 | _ => False
 | .frn Y i => match bx (σ n) with | .frn Y0 i0 => Y0 = Y ∧ i0 = i | _ => False
 | .obj o => match bx (σ n) with | .obj o0 => o0 = o | _ => False
theorem wkB_live {σ : Nat → Nat} {bx' bx : Nat → Box} {n : Nat} {b : Box} (h : wkB σ bx' bx n b) (hl : b.live = true) : (bx (σ n)).live = true := by
 cases b <;> simp [Box.live] at hl <;> simp only [wkB] at h <;> split at h <;> first | exact h.elim | (rename_i hb; rw [hb]; rfl)
def BxW (σ : Nat → Nat) (bx' f bx : Nat → Box) : Prop := ∀ n, wkB σ bx' bx n (f n)
theorem BxW.nil {σ : Nat → Nat} : BxW σ bx' B0 bx := fun _ => trivial
theorem BxW.upd {σ : Nat → Nat} {f : Nat → Box} {n : Nat} {b : Box} (h : BxW σ bx' f bx) (hb : wkB σ bx' bx n b) : BxW σ bx' (upd f n b) bx := fun j => by
 by_cases hj : j = n
 · subst hj; simpa using hb
 · rw [upd_ne _ _ _ _ hj]; exact h j
def InjW (σ : Nat → Nat) (f : Nat → Box) : Prop := ∀ n m, (f n).live = true → (f m).live = true → σ n = σ m → n = m
theorem InjW.nil {σ : Nat → Nat} : InjW σ B0 := fun n m h => by simp [B0, Box.live] at h
theorem InjW.one {σ : Nat → Nat} {a : Nat} {b : Box} : InjW σ (AI.upd B0 a b) := fun n m h1 h2 _ => by
 have e : ∀ k, (AI.upd B0 a b k).live = true → k = a := fun k hk => by
   by_cases h : k = a
   · exact h
   · rw [upd_ne _ _ _ _ h] at hk; simp [B0, Box.live] at hk
 rw [e n h1, e m h2]
theorem InjW.id {f : Nat → Box} : InjW (fun n => n) f := fun _ _ _ _ h => h
theorem Ghost.weak {st : St} {tm' : Nat → AV} {nx' : Nat} (σ : Nat → Nat) (ht : TmW σ bx' tm' st.tm) (hb : BxW σ bx' bx' st.bx) (hi : InjW σ bx') : Ghost (fun n => σ n = n ∧ (bx' n).live = true) st ⟨tm', bx', nx'⟩ := by
 intro C a w E G hA h
 let E' : Env := fun n => if (bx' n).live = true then E (σ n) else none
 have hEE : ∀ n, (bx' n).live = true → E' n = E (σ n) := fun n hn => by simp only [E', hn, if_true]
 have hlv : ∀ b, Live bx' E' b → Live st.bx E b := by
   rintro b ⟨n, l, h1, h2, h3⟩
   simp only [E', h1, if_true] at h2
   have := hb n
   refine ⟨σ n, l, ?_, h2, h3⟩
   exact wkB_live this h1
 refine ⟨E', G, h.size, fun t => ?_, h.df, ⟨h.ok.gw, fun n => ?_, fun n m l k b h1 h2 h3 h4 h5 h6 => ?_, fun b hb' => h.ok.off b (hlv b hb')⟩, h.ext.less hlv, keep_less h.keep hlv, fun p hp hf => ?_, h.ms⟩
 · have h1 := ht t
   have h2 := h.tm t
   show Rel E' G (tm' t) _
   revert h1
   generalize tm' t = x
   intro h1
   cases x <;> simp only [wkT] at h1
   case junk => simp only [Rel]
   case ptr n off =>
     rw [h1.1] at h2
     simp only [Rel, E', h1.2, if_true] at h2 ⊢
     exact h2
   case msl n off k =>
     rw [h1.1] at h2
     simp only [Rel, E', h1.2, if_true] at h2 ⊢
     exact h2
   case mv n =>
     rw [h1.1] at h2
     simp only [Rel, E', h1.2, if_true] at h2 ⊢
     exact h2
   all_goals exact wkA_rel hEE h1 h2
 · have h1 := hb n
   have h2 := h.ok.box (σ n)
   cases hbn : bx' n <;> simp only [hbn, wkB] at h1
   · simp [BoxOk, E', hbn, Box.live]
   · split at h1
     · rename_i c0 hc0
       rw [hc0] at h2
       simp only [E', hbn, Box.live, if_true]
       cases hEn : E (σ n) with
       | none => simp [hEn, BoxOk] at h2
       | some l =>
         rw [hEn] at h2
         cases l <;> simp only [BoxOk] at h2 ⊢
         obtain ⟨vs, T, g1, g2, g3⟩ := h2
         exact ⟨vs, T, g1, wkL_rel hEE h1 g2, g3⟩
     · exact h1.elim
   · split at h1
     · rename_i s0 c0 hc0
       obtain ⟨rfl, h1⟩ := h1
       rw [hc0] at h2
       simp only [E', hbn, Box.live, if_true]
       cases hEn : E (σ n) with
       | none => simp [hEn, BoxOk] at h2
       | some l =>
         rw [hEn] at h2
         cases l <;> simp only [BoxOk] at h2 ⊢
         · obtain ⟨g0, vs, rest, T, g1, g2, g3⟩ := h2
           exact ⟨g0, vs, rest, T, g1, wkL_rel hEE h1 g2, g3⟩
         · subst h2
           have := (wkL_rel (G := G) hEE h1 RelL.nil).length
           exact List.eq_nil_of_length_eq_zero this.symm
     · exact h1.elim
   · split at h1
     · rename_i Y0 i0 hc0
       obtain ⟨rfl, rfl⟩ := h1
       rw [hc0] at h2
       simp only [E', hbn, Box.live, if_true]
       cases hEn : E (σ n) with
       | none => simp [hEn, BoxOk] at h2
       | some l =>
         rw [hEn] at h2
         cases l <;> simp only [BoxOk] at h2 ⊢
         exact h2
     · exact h1.elim
   · split at h1
     · rename_i o0 hc0
       subst h1
       rw [hc0] at h2
       simp only [E', hbn, Box.live, if_true]
       cases hEn : E (σ n) with
       | none => simp [hEn, BoxOk] at h2
       | some l =>
         rw [hEn] at h2
         cases l <;> simp only [BoxOk] at h2 ⊢
         exact h2
     · exact h1.elim
 · simp only [E', h1, h2, if_true] at h3 h4
   have e1 : (st.bx (σ n)).live = true := by
     have := hb n
     exact wkB_live this h1
   have e2 : (st.bx (σ m)).live = true := by
     have := hb m
     exact wkB_live this h2
   exact hi n m h1 h2 (h.ok.sep _ _ l k b e1 e2 h3 h4 h5 h6)
 · obtain ⟨h1, h2⟩ := anOk_mem hA p hp
   show E' p.1 = _
   rw [hEE _ h2, h1]
   exact h.an p hp hf
end
theorem WK.roundsI {P : Program} {C : Ctx} {ι : Type} {c : Code} {k : List Item} (I : ι → Prop) (S : ι → St) (μ : ι → Nat)
   (round : ∀ i, I i → (∀ j, I j → μ j < μ i → WK P C (.inLoop c :: k) (S j)) → WK P C (.code c :: .inLoop c :: k) (S i)) (i : ι) (hi : I i) : WK P C (.code c :: .inLoop c :: k) (S i) :=
 WK.rounds (ι := {i // I i}) (fun i => S i.1) (fun i => μ i.1) (fun i h => round i.1 i.2 fun j hj hlt => h ⟨j, hj⟩ hlt) ⟨i, hi⟩
theorem WK.lI {P : Program} {C : Ctx} {ι : Type} {c : Code} {k : List Item} {tm : Nat → AV} {bx : Nat → Box} {nx : Nat} (σ : Nat → Nat) (S : ι → St) (I : ι → Prop) (μ : ι → Nat) (i0 : ι)
   (ht : TmW σ (S i0).bx (S i0).tm tm) (hb : BxW σ (S i0).bx (S i0).bx bx) (hi : InjW σ (S i0).bx) (h0 : I i0)
   (round : ∀ i, I i → (∀ j, I j → μ j < μ i → WK P C (.inLoop c :: k) (S j)) → WK P C (.code c :: .inLoop c :: k) (S i))
   (hA : anOk (fun n => σ n = n ∧ ((S i0).bx n).live = true) C.an := by first | exact trivial | exact ⟨by simp, trivial⟩) : WK P C (.code (.loop c) :: k) ⟨tm, bx, nx⟩ :=
 WK.loop (WK.ghost (Ghost.weak (nx' := (S i0).nx) σ ht hb hi) (WK.roundsI I S μ round i0 h0) hA)
theorem WK.next {P : Program} {C : Ctx} {k : List Item} {tm : Nat → AV} {bx : Nat → Box} {nx : Nat} {st' : St} (σ : Nat → Nat) (h : WK P C k st')
   (ht : TmW σ st'.bx st'.tm tm) (hb : BxW σ st'.bx st'.bx bx) (hi : InjW σ st'.bx)
   (hA : anOk (fun n => σ n = n ∧ (st'.bx n).live = true) C.an := by first | exact trivial | exact ⟨by simp, trivial⟩) : WK P C k ⟨tm, bx, nx⟩ :=
 WK.ghost (Ghost.weak (nx' := st'.nx) σ ht hb hi) h hA
theorem B0_two {a c m : Nat} {b d : Box} (h : (upd (upd B0 a b) c d m).live = true) : m = a ∨ m = c := by
 by_cases h0 : m = c
 · exact .inr h0
 · rw [upd_ne _ _ _ _ h0] at h
   by_cases h1 : m = a
   · exact .inl h1
   · rw [upd_ne _ _ _ _ h1] at h; simp [B0, Box.live] at h
theorem InjW.two {σ : Nat → Nat} {a c : Nat} {b d : Box} (h : σ a ≠ σ c) : InjW σ (upd (upd B0 a b) c d) := fun n m h1 h2 e => by
 rcases B0_two h1 with rfl | rfl <;> rcases B0_two h2 with rfl | rfl <;> first | rfl | exact absurd e h | exact absurd e.symm h
theorem InjW.three {σ : Nat → Nat} {a c x : Nat} {b d y : Box} (h : σ a ≠ σ c) (h' : σ a ≠ σ x) (h'' : σ c ≠ σ x) : InjW σ (upd (upd (upd B0 a b) c d) x y) := fun n m h1 h2 e => by
 have key : ∀ m, (upd (upd (upd B0 a b) c d) x y m).live = true → m = a ∨ m = c ∨ m = x := fun m h => by
   by_cases h0 : m = x
   · exact .inr (.inr h0)
   · rw [upd_ne _ _ _ _ h0] at h
     rcases B0_two h with h | h
     · exact .inl h
     · exact .inr (.inl h)
 rcases key n h1 with rfl | rfl | rfl <;> rcases key m h2 with rfl | rfl | rfl <;> first | rfl | exact absurd e h | exact absurd e.symm h | exact absurd e h' | exact absurd e.symm h' | exact absurd e h'' | exact absurd e.symm h''
end Go.AI
end
