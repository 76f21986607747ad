/- How the arguments of the laws are read: each type of the program as the structure that it is. -/
import Derived.Test.YtbncoeoamjcjjaaGreatTT
import Derived.Test.YtbncoeoamjcjjaaGreatDa
set_option linter.all false
set_option linter.unnecessarySimpa false
set_option linter.unusedVariables false
set_option linter.unusedSimpArgs false
set_option maxRecDepth 4000
namespace Go.Proofs.YtbncoeoamjcjjaaGreat
open Go Go.AI Go.Proofs

theorem cellsOf_sz (t : TypeId) : Tryz.prog.cellsOf t = sz Tryz.prog t := rfl
section
variable {H : Type} {enc : TypeId × Value → H} {w : World} {sp : Nat → Bool} {held : Bool}
theorem rdWide : Rd enc Tryz.prog w sp held 65 Wide.enc := by
  intro fuel cs x h
  obtain ⟨hl, fuel', hf⟩ := trod_struct Tryz.underlying65 h
  simp only [cellsOf_sz, sz65] at hl
  simp only [List.mem_cons, List.not_mem_nil, or_false, forall_eq_or_imp, forall_eq, cellsOf_sz, sz27] at hf
  match cs, hl, hf with
  | [c0, c1], _, ⟨⟨y0, h0⟩, ⟨y1, h1⟩⟩ =>
    obtain ⟨b0, e0⟩ := rd_u64 Tryz.underlying27 h0
    obtain ⟨b1, e1⟩ := rd_u64 Tryz.underlying27 h1
    simp at e0 e1
    subst e0 e1
    exact ⟨⟨b0, b1⟩, by simp [Wide.enc, RelL, Rel], by simp [Ones, Value.oneCell']⟩
theorem rdTern : Rd enc Tryz.prog w sp held 70 Tern.enc := by
  intro fuel cs x h
  obtain ⟨hl, fuel', hf⟩ := trod_struct Tryz.underlying70 h
  simp only [cellsOf_sz, sz70] at hl
  simp only [List.mem_cons, List.not_mem_nil, or_false, forall_eq_or_imp, forall_eq, cellsOf_sz, sz65] at hf
  match cs, hl, hf with
  | [c0, c1, c2, c3], _, ⟨⟨y0, h0⟩, ⟨y1, h1⟩⟩ =>
    obtain ⟨a, r0, o0⟩ := rdWide fuel' _ y0 h0
    obtain ⟨b, r1, o1⟩ := rdWide fuel' _ y1 h1
    refine ⟨⟨a, b⟩, r0.append r1, o0.append o1⟩
theorem rdCube : Rd enc Tryz.prog w sp held 72 encC := fun fuel cs x h =>
  rd_array (s := 4) Tryz.underlying72 (by kernel_rfl) (by kernel_rfl) Tern.len rdTern h
theorem rdOxm : Rd enc Tryz.prog w sp held 67 Oxm.enc := by
  intro fuel cs x h
  obtain ⟨hl, fuel', hf⟩ := trod_struct Tryz.underlying67 h
  simp only [cellsOf_sz, sz67] at hl
  simp only [List.mem_cons, List.not_mem_nil, or_false, forall_eq_or_imp, forall_eq, cellsOf_sz, sz65, sz3, sz4] at hf
  match cs, hl, hf with
  | [c0, c1, c2, c3, c4, c5], _, ⟨⟨y0, h0⟩, ⟨y1, h1⟩, ⟨y2, h2⟩, ⟨y3, h3⟩⟩ =>
    obtain ⟨n, e0⟩ := rd_int Tryz.underlying3 h0
    obtain ⟨b, e1⟩ := trod_bool Tryz.underlying4 h1
    obtain ⟨v, r2, o2⟩ := rdWide fuel' _ y2 h2
    obtain ⟨m, r3, o3⟩ := rdWide fuel' _ y3 h3
    simp at e0 e1
    subst e0 e1
    exact ⟨⟨n, b, v, m⟩, RelL.cons (by simp [Rel]) (RelL.cons (by simp [Rel]) (r2.append r3)), (Ones.append (vs := [_, _]) (by simp [Ones, Value.oneCell']) (o2.append o3))⟩
theorem rdAction : Rd enc Tryz.prog w sp held 99 Action.enc := by
  intro fuel cs x h
  obtain ⟨hl, fuel', hf⟩ := trod_struct Tryz.underlying99 h
  simp only [cellsOf_sz, sz99] at hl
  simp only [List.mem_cons, List.not_mem_nil, or_false, forall_eq_or_imp, forall_eq, cellsOf_sz, sz67, sz3] at hf
  match cs, hl, hf with
  | [c0, c1, c2, c3, c4, c5, c6, c7, c8, c9, c10], _, ⟨⟨y0, h0⟩, ⟨y1, h1⟩, ⟨y2, h2⟩, ⟨y3, h3⟩, ⟨y4, h4⟩, ⟨y5, h5⟩⟩ =>
    obtain ⟨n0, e0⟩ := rd_int Tryz.underlying3 h0
    obtain ⟨n1, e1⟩ := rd_int Tryz.underlying3 h1
    obtain ⟨n2, e2⟩ := rd_int Tryz.underlying3 h2
    obtain ⟨n3, e3⟩ := rd_int Tryz.underlying3 h3
    obtain ⟨n4, e4⟩ := rd_int Tryz.underlying3 h4
    obtain ⟨o, r5, o5⟩ := rdOxm fuel' _ y5 h5
    simp at e0 e1 e2 e3 e4
    subst e0 e1 e2 e3 e4
    exact ⟨⟨n0, n1, n2, n3, n4, o⟩, RelL.cons (by simp [Rel]) (RelL.cons (by simp [Rel]) (RelL.cons (by simp [Rel]) (RelL.cons (by simp [Rel]) (RelL.cons (by simp [Rel]) r5)))), (Ones.append (vs := [_, _, _, _, _]) (by simp [Ones, Value.oneCell']) o5)⟩
theorem one_of_sl {f : Bool} {n : Nat} {cs : List AV} {E : Env} {G : Heap} {v : Value} (h : Rel E G (.sl f n cs) v) : v.oneCell' = true := by
  simp only [Rel] at h
  rcases h with ⟨a, cap, rfl, _⟩ | ⟨_, _, _, _, rfl, _⟩ <;> rfl
theorem rdInst : Rd enc Tryz.prog w sp held 94 Inst.enc := by
  intro fuel cs x h
  obtain ⟨hl, fuel', hf⟩ := trod_struct Tryz.underlying94 h
  simp only [cellsOf_sz, sz94] at hl
  simp only [List.mem_cons, List.not_mem_nil, or_false, forall_eq_or_imp, forall_eq, cellsOf_sz, sz65, sz3, sz92] at hf
  match cs, hl, hf with
  | [c0, c1, c2, c3, c4, c5, c6], _, ⟨⟨y0, h0⟩, ⟨y1, h1⟩, ⟨y2, h2⟩, ⟨y3, h3⟩, ⟨y4, h4⟩⟩ =>
    obtain ⟨n0, e0⟩ := rd_int Tryz.underlying3 h0
    obtain ⟨n1, e1⟩ := rd_int Tryz.underlying3 h1
    obtain ⟨v, r2, o2⟩ := rdWide fuel' _ y2 h2
    obtain ⟨m, r3, o3⟩ := rdWide fuel' _ y3 h3
    obtain ⟨l, u, e4, r4⟩ := rd_slice (s := 11) (f := Action.enc) Tryz.underlying92 (by kernel_rfl) (by omega) Action.len rdAction h4
    simp at e0 e1 e4
    subst e0 e1 e4
    exact ⟨⟨n0, n1, v, m, l⟩, RelL.cons (by simp [Rel]) (RelL.cons (by simp [Rel]) (r2.append (r3.append (RelL.cons r4 RelL.nil)))),
      (Ones.append (vs := [_, _]) (by simp [Ones, Value.oneCell']) (o2.append (o3.append (Ones.single (one_of_sl r4)))))⟩
theorem rdFlow : Rd enc Tryz.prog w sp held 41 Flow.enc := by
  intro fuel cs x h
  obtain ⟨hl, fuel', hf⟩ := trod_struct Tryz.underlying41 h
  simp only [cellsOf_sz, sz41] at hl
  simp only [List.mem_cons, List.not_mem_nil, or_false, forall_eq_or_imp, forall_eq, cellsOf_sz, sz27, sz3, sz28, sz29] at hf
  match cs, hl, hf with
  | [c0, c1, c2, c3, c4, c5, c6], _, ⟨⟨y0, h0⟩, ⟨y1, h1⟩, ⟨y2, h2⟩, ⟨y3, h3⟩, ⟨y4, h4⟩, ⟨y5, h5⟩, ⟨y6, h6⟩⟩ =>
    obtain ⟨b0, e0⟩ := rd_u64 Tryz.underlying27 h0
    obtain ⟨n1, e1⟩ := rd_int Tryz.underlying3 h1
    obtain ⟨n2, e2⟩ := rd_int Tryz.underlying3 h2
    obtain ⟨n3, e3⟩ := rd_int Tryz.underlying3 h3
    obtain ⟨n4, e4⟩ := rd_int Tryz.underlying3 h4
    obtain ⟨l, u, e5, r5⟩ := rd_slice (s := 6) (f := Oxm.enc) Tryz.underlying28 (by kernel_rfl) (by omega) Oxm.len rdOxm h5
    obtain ⟨k, u', e6, r6⟩ := rd_slice (s := 7) (f := Inst.enc) Tryz.underlying29 (by kernel_rfl) (by omega) Inst.len rdInst h6
    simp at e0 e1 e2 e3 e4 e5 e6
    subst e0 e1 e2 e3 e4 e5 e6
    exact ⟨⟨b0, n1, n2, n3, n4, l, k⟩, RelL.cons (by simp [Rel]) (RelL.cons (by simp [Rel]) (RelL.cons (by simp [Rel]) (RelL.cons (by simp [Rel]) (RelL.cons (by simp [Rel]) (RelL.cons r5 (RelL.cons r6 RelL.nil)))))),
      (Ones.append (vs := [_, _, _, _, _]) (by simp [Ones, Value.oneCell']) (Ones.append (vs := [_]) (Ones.single (one_of_sl r5)) (Ones.single (one_of_sl r6))))⟩
theorem rdFlowMod : Rd enc Tryz.prog w sp held 31 FlowMod.enc := by
  intro fuel cs x h
  obtain ⟨hl, fuel', hf⟩ := trod_struct Tryz.underlying31 h
  simp only [cellsOf_sz, sz31] at hl
  simp only [List.mem_cons, List.not_mem_nil, or_false, forall_eq_or_imp, forall_eq, cellsOf_sz, sz27, sz3, sz28, sz29] at hf
  match cs, hl, hf with
  | [c0, c1, c2, c3, c4, c5, c6, c7, c8, c9, c10, c11, c12], _, ⟨⟨y0, h0⟩, ⟨y1, h1⟩, ⟨y2, h2⟩, ⟨y3, h3⟩, ⟨y4, h4⟩, ⟨y5, h5⟩, ⟨y6, h6⟩, ⟨y7, h7⟩, ⟨y8, h8⟩, ⟨y9, h9⟩, ⟨y10, h10⟩, ⟨y11, h11⟩, ⟨y12, h12⟩⟩ =>
    obtain ⟨b0, e0⟩ := rd_u64 Tryz.underlying27 h0
    obtain ⟨b1, e1⟩ := rd_u64 Tryz.underlying27 h1
    obtain ⟨n2, e2⟩ := rd_int Tryz.underlying3 h2
    obtain ⟨n3, e3⟩ := rd_int Tryz.underlying3 h3
    obtain ⟨n4, e4⟩ := rd_int Tryz.underlying3 h4
    obtain ⟨n5, e5⟩ := rd_int Tryz.underlying3 h5
    obtain ⟨n6, e6⟩ := rd_int Tryz.underlying3 h6
    obtain ⟨n7, e7⟩ := rd_int Tryz.underlying3 h7
    obtain ⟨n8, e8⟩ := rd_int Tryz.underlying3 h8
    obtain ⟨n9, e9⟩ := rd_int Tryz.underlying3 h9
    obtain ⟨n10, e10⟩ := rd_int Tryz.underlying3 h10
    obtain ⟨l, u, e11, r11⟩ := rd_slice (s := 6) (f := Oxm.enc) Tryz.underlying28 (by kernel_rfl) (by omega) Oxm.len rdOxm h11
    obtain ⟨k, u', e12, r12⟩ := rd_slice (s := 7) (f := Inst.enc) Tryz.underlying29 (by kernel_rfl) (by omega) Inst.len rdInst h12
    simp at e0 e1 e2 e3 e4 e5 e6 e7 e8 e9 e10 e11 e12
    subst e0 e1 e2 e3 e4 e5 e6 e7 e8 e9 e10 e11 e12
    have hh : RelL E0 (GWh w) [.int .u64 (uI b0), .int .u64 (uI b1), .int .i64 n2, .int .i64 n3, .int .i64 n4, .int .i64 n5, .int .i64 n6, .int .i64 n7, .int .i64 n8, .int .i64 n9, .int .i64 n10]
        [.int .u64 (uI b0), .int .u64 (uI b1), .int .i64 n2, .int .i64 n3, .int .i64 n4, .int .i64 n5, .int .i64 n6, .int .i64 n7, .int .i64 n8, .int .i64 n9, .int .i64 n10] := by simp [RelL, Rel]
    exact ⟨⟨b0, b1, n2, n3, n4, n5, n6, n7, n8, n9, n10, l, k⟩, hh.append (RelL.cons r11 (RelL.cons r12 RelL.nil)),
      (Ones.append (vs := [_, _, _, _, _, _, _, _, _, _, _]) (by simp [Ones, Value.oneCell']) (Ones.append (vs := [_]) (Ones.single (one_of_sl r11)) (Ones.single (one_of_sl r12))))⟩
end
end Go.Proofs.YtbncoeoamjcjjaaGreat
