/- The facts of the types of the program that the claim is about: how many cells and bytes a value has, which parts, which zero value, and which values are compared cell by cell. -/
import Derived.Test.YtcccfbjkcahgfaaGreatProg
import Derived.Test.YtcccfbjkcahgfaaGreatDa
import Derived.Test.YtcccfbjkcahgfaaGreatRows
set_option linter.all false
set_option linter.unnecessarySimpa false
namespace Go.Proofs.YtcccfbjkcahgfaaGreat
open Go Go.AI Go.Proofs
@[simp] theorem td3 : td Tryz.prog 3 = .int .i64 := by kernel_rfl
@[simp] theorem sz3 : sz Tryz.prog 3 = 1 := by kernel_rfl
@[simp] theorem td4 : td Tryz.prog 4 = .bool := by kernel_rfl
@[simp] theorem sz4 : sz Tryz.prog 4 = 1 := by kernel_rfl
@[simp] theorem td5 : td Tryz.prog 5 = .int .u8 := by kernel_rfl
@[simp] theorem sz5 : sz Tryz.prog 5 = 1 := by kernel_rfl
@[simp] theorem byt5 : byt Tryz.prog 5 = 1 := by kernel_rfl
@[simp] theorem zr5 : zr Tryz.prog 5 = .int .u8 0 := by kernel_rfl
@[simp] theorem td9 : td Tryz.prog 9 = .string := by kernel_rfl
@[simp] theorem sz9 : sz Tryz.prog 9 = 1 := by kernel_rfl
@[simp] theorem td22 : td Tryz.prog 22 = .int .u64 := by kernel_rfl
@[simp] theorem sz22 : sz Tryz.prog 22 = 1 := by kernel_rfl
@[simp] theorem zr22 : zr Tryz.prog 22 = .int .u64 0 := by kernel_rfl
@[simp] theorem td23 : td Tryz.prog 23 = .slice 138 := by kernel_rfl
@[simp] theorem sz23 : sz Tryz.prog 23 = 1 := by kernel_rfl
@[simp] theorem td24 : td Tryz.prog 24 = .slice 130 := by kernel_rfl
@[simp] theorem sz24 : sz Tryz.prog 24 = 1 := by kernel_rfl
@[simp] theorem td26 : td Tryz.prog 26 = .struct [(0, 22), (1, 22), (2, 3), (3, 3), (4, 3), (5, 3), (6, 3), (7, 3), (8, 3), (9, 3), (10, 3), (11, 23), (12, 24)] := by kernel_rfl
@[simp] theorem sz26 : sz Tryz.prog 26 = 13 := by kernel_rfl
@[simp] theorem zr26 : zr Tryz.prog 26 = .agg ([.int .u64 0, .int .u64 0, .int .i64 0, .int .i64 0, .int .i64 0, .int .i64 0, .int .i64 0, .int .i64 0, .int .i64 0, .int .i64 0, .int .i64 0, .sl true 0 [], .sl true 0 []]) := by kernel_rfl
@[simp] theorem td27 : td Tryz.prog 27 = .slice 83 := by kernel_rfl
@[simp] theorem sz27 : sz Tryz.prog 27 = 1 := by kernel_rfl
@[simp] theorem td29 : td Tryz.prog 29 = .struct [(0, 3), (1, 3), (2, 3), (3, 27)] := by kernel_rfl
@[simp] theorem sz29 : sz Tryz.prog 29 = 4 := by kernel_rfl
@[simp] theorem zr29 : zr Tryz.prog 29 = .agg ([.int .i64 0, .int .i64 0, .int .i64 0, .sl true 0 []]) := by kernel_rfl
@[simp] theorem td31 : td Tryz.prog 31 = .struct [(0, 4), (1, 3), (2, 3)] := by kernel_rfl
@[simp] theorem sz31 : sz Tryz.prog 31 = 3 := by kernel_rfl
@[simp] theorem zr31 : zr Tryz.prog 31 = .agg ([.bool false, .int .i64 0, .int .i64 0]) := by kernel_rfl
@[simp] theorem fl31 : flatT Tryz.prog 31 = some ([true, false, false]) := by kernel_rfl
@[simp] theorem td32 : td Tryz.prog 32 = .slice 5 := by kernel_rfl
@[simp] theorem sz32 : sz Tryz.prog 32 = 1 := by kernel_rfl
@[simp] theorem td34 : td Tryz.prog 34 = .struct [(0, 3), (1, 3), (2, 26), (15, 29), (19, 31), (22, 32)] := by kernel_rfl
@[simp] theorem sz34 : sz Tryz.prog 34 = 23 := by kernel_rfl
@[simp] theorem zr34 : zr Tryz.prog 34 = .agg ([.int .i64 0, .int .i64 0, .int .u64 0, .int .u64 0, .int .i64 0, .int .i64 0, .int .i64 0, .int .i64 0, .int .i64 0, .int .i64 0, .int .i64 0, .int .i64 0, .int .i64 0, .sl true 0 [], .sl true 0 [], .int .i64 0, .int .i64 0, .int .i64 0, .sl true 0 [], .bool false, .int .i64 0, .int .i64 0, .sl true 0 []]) := by kernel_rfl
@[simp] theorem td37 : td Tryz.prog 37 = .int .i64 := by kernel_rfl
@[simp] theorem td52 : td Tryz.prog 52 = .iface false := by kernel_rfl
@[simp] theorem td81 : td Tryz.prog 81 = .slice 143 := by kernel_rfl
@[simp] theorem sz81 : sz Tryz.prog 81 = 1 := by kernel_rfl
@[simp] theorem td83 : td Tryz.prog 83 = .struct [(0, 3), (1, 3), (2, 3), (3, 81)] := by kernel_rfl
@[simp] theorem sz83 : sz Tryz.prog 83 = 4 := by kernel_rfl
@[simp] theorem byt83 : byt Tryz.prog 83 = 48 := by kernel_rfl
@[simp] theorem zr83 : zr Tryz.prog 83 = .agg ([.int .i64 0, .int .i64 0, .int .i64 0, .sl true 0 []]) := by kernel_rfl
@[simp] theorem td87 : td Tryz.prog 87 = .struct [(0, 32)] := by kernel_rfl
@[simp] theorem sz87 : sz Tryz.prog 87 = 1 := by kernel_rfl
@[simp] theorem zr87 : zr Tryz.prog 87 = .agg ([.sl true 0 []]) := by kernel_rfl
@[simp] theorem td89 : td Tryz.prog 89 = .struct [(0, 87), (1, 31)] := by kernel_rfl
@[simp] theorem zr89 : zr Tryz.prog 89 = .agg ([.sl true 0 [], .bool false, .int .i64 0, .int .i64 0]) := by kernel_rfl
@[simp] theorem td91 : td Tryz.prog 91 = .struct [(0, 26)] := by kernel_rfl
@[simp] theorem zr91 : zr Tryz.prog 91 = .agg ([.int .u64 0, .int .u64 0, .int .i64 0, .int .i64 0, .int .i64 0, .int .i64 0, .int .i64 0, .int .i64 0, .int .i64 0, .int .i64 0, .int .i64 0, .sl true 0 [], .sl true 0 []]) := by kernel_rfl
@[simp] theorem td93 : td Tryz.prog 93 = .struct [(0, 29)] := by kernel_rfl
@[simp] theorem zr93 : zr Tryz.prog 93 = .agg ([.int .i64 0, .int .i64 0, .int .i64 0, .sl true 0 []]) := by kernel_rfl
@[simp] theorem td96 : td Tryz.prog 96 = .struct [(0, 22), (1, 22)] := by kernel_rfl
@[simp] theorem sz96 : sz Tryz.prog 96 = 2 := by kernel_rfl
@[simp] theorem byt96 : byt Tryz.prog 96 = 16 := by kernel_rfl
@[simp] theorem zr96 : zr Tryz.prog 96 = .agg ([.int .u64 0, .int .u64 0]) := by kernel_rfl
@[simp] theorem fl96 : flatT Tryz.prog 96 = some ([false, false]) := by kernel_rfl
@[simp] theorem td104 : td Tryz.prog 104 = .struct [(0, 26)] := by kernel_rfl
@[simp] theorem zr104 : zr Tryz.prog 104 = .agg ([.int .u64 0, .int .u64 0, .int .i64 0, .int .i64 0, .int .i64 0, .int .i64 0, .int .i64 0, .int .i64 0, .int .i64 0, .int .i64 0, .int .i64 0, .sl true 0 [], .sl true 0 []]) := by kernel_rfl
@[simp] theorem td105 : td Tryz.prog 105 = .array 9 3 := by kernel_rfl
@[simp] theorem sz105 : sz Tryz.prog 105 = 9 := by kernel_rfl
@[simp] theorem zr105 : zr Tryz.prog 105 = .agg ([.int .i64 0, .int .i64 0, .int .i64 0, .int .i64 0, .int .i64 0, .int .i64 0, .int .i64 0, .int .i64 0, .int .i64 0]) := by kernel_rfl
@[simp] theorem fl105 : flatT Tryz.prog 105 = some ([false, false, false, false, false, false, false, false, false]) := by kernel_rfl
@[simp] theorem td109 : td Tryz.prog 109 = .array 3 3 := by kernel_rfl
@[simp] theorem zr109 : zr Tryz.prog 109 = .agg ([.int .i64 0, .int .i64 0, .int .i64 0]) := by kernel_rfl
@[simp] theorem fl109 : flatT Tryz.prog 109 = some ([false, false, false]) := by kernel_rfl
@[simp] theorem td112 : td Tryz.prog 112 = .int .u64 := by kernel_rfl
@[simp] theorem td130 : td Tryz.prog 130 = .struct [(0, 3), (1, 3), (2, 96), (4, 96), (6, 81)] := by kernel_rfl
@[simp] theorem sz130 : sz Tryz.prog 130 = 7 := by kernel_rfl
@[simp] theorem byt130 : byt Tryz.prog 130 = 72 := by kernel_rfl
@[simp] theorem zr130 : zr Tryz.prog 130 = .agg ([.int .i64 0, .int .i64 0, .int .u64 0, .int .u64 0, .int .u64 0, .int .u64 0, .sl true 0 []]) := by kernel_rfl
@[simp] theorem td133 : td Tryz.prog 133 = .array 4 5 := by kernel_rfl
@[simp] theorem zr133 : zr Tryz.prog 133 = .agg ([.int .u8 0, .int .u8 0, .int .u8 0, .int .u8 0]) := by kernel_rfl
@[simp] theorem td138 : td Tryz.prog 138 = .struct [(0, 3), (1, 4), (2, 96), (4, 96)] := by kernel_rfl
@[simp] theorem sz138 : sz Tryz.prog 138 = 6 := by kernel_rfl
@[simp] theorem byt138 : byt Tryz.prog 138 = 48 := by kernel_rfl
@[simp] theorem zr138 : zr Tryz.prog 138 = .agg ([.int .i64 0, .bool false, .int .u64 0, .int .u64 0, .int .u64 0, .int .u64 0]) := by kernel_rfl
@[simp] theorem fl138 : flatT Tryz.prog 138 = some ([false, true, false, false, false, false]) := by kernel_rfl
@[simp] theorem td143 : td Tryz.prog 143 = .struct [(0, 3), (1, 3), (2, 3), (3, 3), (4, 3), (5, 138)] := by kernel_rfl
@[simp] theorem sz143 : sz Tryz.prog 143 = 11 := by kernel_rfl
@[simp] theorem byt143 : byt Tryz.prog 143 = 88 := by kernel_rfl
@[simp] theorem zr143 : zr Tryz.prog 143 = .agg ([.int .i64 0, .int .i64 0, .int .i64 0, .int .i64 0, .int .i64 0, .int .i64 0, .bool false, .int .u64 0, .int .u64 0, .int .u64 0, .int .u64 0]) := by kernel_rfl
@[simp] theorem fl143 : flatT Tryz.prog 143 = some ([false, false, false, false, false, false, true, false, false, false, false]) := by kernel_rfl
@[simp] theorem td165 : td Tryz.prog 165 = .slice 169 := by kernel_rfl
@[simp] theorem td167 : td Tryz.prog 167 = .slice 96 := by kernel_rfl
@[simp] theorem sz167 : sz Tryz.prog 167 = 1 := by kernel_rfl
@[simp] theorem td169 : td Tryz.prog 169 = .struct [(0, 3), (1, 167)] := by kernel_rfl
@[simp] theorem sz169 : sz Tryz.prog 169 = 2 := by kernel_rfl
@[simp] theorem byt169 : byt Tryz.prog 169 = 32 := by kernel_rfl
@[simp] theorem zr169 : zr Tryz.prog 169 = .agg ([.int .i64 0, .sl true 0 []]) := by kernel_rfl
@[simp] theorem td199 : td Tryz.prog 199 = .slice 22 := by kernel_rfl
@[simp] theorem td201 : td Tryz.prog 201 = .struct [(0, 9), (1, 3), (2, 3), (3, 4)] := by kernel_rfl
@[simp] theorem sz201 : sz Tryz.prog 201 = 4 := by kernel_rfl
@[simp] theorem zr201 : zr Tryz.prog 201 = .agg ([.str ByteArray.empty, .int .i64 0, .int .i64 0, .bool false]) := by kernel_rfl
@[simp] theorem td205 : td Tryz.prog 205 = .array 24 201 := by kernel_rfl
@[simp] theorem sz205 : sz Tryz.prog 205 = 96 := by kernel_rfl
@[simp] theorem zr205 : zr Tryz.prog 205 = .agg ([.str ByteArray.empty, .int .i64 0, .int .i64 0, .bool false, .str ByteArray.empty, .int .i64 0, .int .i64 0, .bool false, .str ByteArray.empty, .int .i64 0, .int .i64 0, .bool false, .str ByteArray.empty, .int .i64 0, .int .i64 0, .bool false, .str ByteArray.empty, .int .i64 0, .int .i64 0, .bool false, .str ByteArray.empty, .int .i64 0, .int .i64 0, .bool false, .str ByteArray.empty, .int .i64 0, .int .i64 0, .bool false, .str ByteArray.empty, .int .i64 0, .int .i64 0, .bool false, .str ByteArray.empty, .int .i64 0, .int .i64 0, .bool false, .str ByteArray.empty, .int .i64 0, .int .i64 0, .bool false, .str ByteArray.empty, .int .i64 0, .int .i64 0, .bool false, .str ByteArray.empty, .int .i64 0, .int .i64 0, .bool false, .str ByteArray.empty, .int .i64 0, .int .i64 0, .bool false, .str ByteArray.empty, .int .i64 0, .int .i64 0, .bool false, .str ByteArray.empty, .int .i64 0, .int .i64 0, .bool false, .str ByteArray.empty, .int .i64 0, .int .i64 0, .bool false, .str ByteArray.empty, .int .i64 0, .int .i64 0, .bool false, .str ByteArray.empty, .int .i64 0, .int .i64 0, .bool false, .str ByteArray.empty, .int .i64 0, .int .i64 0, .bool false, .str ByteArray.empty, .int .i64 0, .int .i64 0, .bool false, .str ByteArray.empty, .int .i64 0, .int .i64 0, .bool false, .str ByteArray.empty, .int .i64 0, .int .i64 0, .bool false, .str ByteArray.empty, .int .i64 0, .int .i64 0, .bool false, .str ByteArray.empty, .int .i64 0, .int .i64 0, .bool false]) := by kernel_rfl
@[simp] theorem td232 : td Tryz.prog 232 = .array 16 5 := by kernel_rfl
@[simp] theorem zr232 : zr Tryz.prog 232 = .agg ([.int .u8 0, .int .u8 0, .int .u8 0, .int .u8 0, .int .u8 0, .int .u8 0, .int .u8 0, .int .u8 0, .int .u8 0, .int .u8 0, .int .u8 0, .int .u8 0, .int .u8 0, .int .u8 0, .int .u8 0, .int .u8 0]) := by kernel_rfl
@[simp] theorem td236 : td Tryz.prog 236 = .array 2 3 := by kernel_rfl
@[simp] theorem sz236 : sz Tryz.prog 236 = 2 := by kernel_rfl
@[simp] theorem zr236 : zr Tryz.prog 236 = .agg ([.int .i64 0, .int .i64 0]) := by kernel_rfl
@[simp] theorem td237 : td Tryz.prog 237 = .slice 236 := by kernel_rfl
end Go.Proofs.YtcccfbjkcahgfaaGreat

section
set_option maxRecDepth 4000
namespace Go.Proofs.YtcccfbjkcahgfaaGreat
open Go Go.AI Go.Proofs
theorem cellsOf_sz (t : TypeId) : Tryz.prog.cellsOf t = sz Tryz.prog t := rfl
section
variable {H : Type} {enc : TypeId × Value → H} {w : World} {sp : Nat → Bool} {held : Bool}
theorem rdWide : Rd enc Tryz.prog w sp held 96 Wide.enc := by
 intro fuel cs x h
 obtain ⟨hl, fuel', hf⟩ := trod_struct Tryz.underlying96 h
 simp only [cellsOf_sz, sz96] at hl
 simp only [List.mem_cons, List.not_mem_nil, or_false, forall_eq_or_imp, forall_eq, cellsOf_sz, sz22] at hf
 match cs, hl, hf with
 | [c0, c1], _, ⟨⟨y0, h0⟩, ⟨y1, h1⟩⟩ =>
   obtain ⟨b0, e0⟩ := rd_u64 Tryz.underlying22 h0
   obtain ⟨b1, e1⟩ := rd_u64 Tryz.underlying22 h1
   simp at e0 e1
   subst e0 e1
   exact ⟨⟨b0, b1⟩, by simp [Wide.enc, RelL, Rel], by simp [Ones, Value.oneCell']⟩
theorem rdOxm : Rd enc Tryz.prog w sp held 138 Oxm.enc := by
 intro fuel cs x h
 obtain ⟨hl, fuel', hf⟩ := trod_struct Tryz.underlying138 h
 simp only [cellsOf_sz, sz138] at hl
 simp only [List.mem_cons, List.not_mem_nil, or_false, forall_eq_or_imp, forall_eq, cellsOf_sz, sz96, sz3, sz4] at hf
 match cs, hl, hf with
 | [c0, c1, c2, c3, c4, c5], _, ⟨⟨y0, h0⟩, ⟨y1, h1⟩, ⟨y2, h2⟩, ⟨y3, h3⟩⟩ =>
   obtain ⟨n, e0⟩ := rd_int Tryz.underlying3 h0
   obtain ⟨b, e1⟩ := trod_bool Tryz.underlying4 h1
   obtain ⟨v, r2, o2⟩ := rdWide fuel' _ y2 h2
   obtain ⟨m, r3, o3⟩ := rdWide fuel' _ y3 h3
   simp at e0 e1
   subst e0 e1
   exact ⟨⟨n, b, v, m⟩, RelL.cons (by simp [Rel]) (RelL.cons (by simp [Rel]) (r2.append r3)), (Ones.append (vs := [_, _]) (by simp [Ones, Value.oneCell']) (o2.append o3))⟩
theorem rdAction : Rd enc Tryz.prog w sp held 143 Action.enc := by
 intro fuel cs x h
 obtain ⟨hl, fuel', hf⟩ := trod_struct Tryz.underlying143 h
 simp only [cellsOf_sz, sz143] at hl
 simp only [List.mem_cons, List.not_mem_nil, or_false, forall_eq_or_imp, forall_eq, cellsOf_sz, sz138, sz3] at hf
 match cs, hl, hf with
 | [c0, c1, c2, c3, c4, c5, c6, c7, c8, c9, c10], _, ⟨⟨y0, h0⟩, ⟨y1, h1⟩, ⟨y2, h2⟩, ⟨y3, h3⟩, ⟨y4, h4⟩, ⟨y5, h5⟩⟩ =>
   obtain ⟨n0, e0⟩ := rd_int Tryz.underlying3 h0
   obtain ⟨n1, e1⟩ := rd_int Tryz.underlying3 h1
   obtain ⟨n2, e2⟩ := rd_int Tryz.underlying3 h2
   obtain ⟨n3, e3⟩ := rd_int Tryz.underlying3 h3
   obtain ⟨n4, e4⟩ := rd_int Tryz.underlying3 h4
   obtain ⟨o, r5, o5⟩ := rdOxm fuel' _ y5 h5
   simp at e0 e1 e2 e3 e4
   subst e0 e1 e2 e3 e4
   exact ⟨⟨n0, n1, n2, n3, n4, o⟩, RelL.cons (by simp [Rel]) (RelL.cons (by simp [Rel]) (RelL.cons (by simp [Rel]) (RelL.cons (by simp [Rel]) (RelL.cons (by simp [Rel]) r5)))), (Ones.append (vs := [_, _, _, _, _]) (by simp [Ones, Value.oneCell']) o5)⟩
theorem one_of_sl {f : Bool} {n : Nat} {cs : List AV} {E : Env} {G : Heap} {v : Value} (h : Rel E G (.sl f n cs) v) : v.oneCell' = true := by
 simp only [Rel] at h
 rcases h with ⟨a, cap, rfl, _⟩ | ⟨_, _, _, _, rfl, _⟩ <;> rfl
theorem rdInst : Rd enc Tryz.prog w sp held 130 Inst.enc := by
 intro fuel cs x h
 obtain ⟨hl, fuel', hf⟩ := trod_struct Tryz.underlying130 h
 simp only [cellsOf_sz, sz130] at hl
 simp only [List.mem_cons, List.not_mem_nil, or_false, forall_eq_or_imp, forall_eq, cellsOf_sz, sz96, sz3, sz81] at hf
 match cs, hl, hf with
 | [c0, c1, c2, c3, c4, c5, c6], _, ⟨⟨y0, h0⟩, ⟨y1, h1⟩, ⟨y2, h2⟩, ⟨y3, h3⟩, ⟨y4, h4⟩⟩ =>
   obtain ⟨n0, e0⟩ := rd_int Tryz.underlying3 h0
   obtain ⟨n1, e1⟩ := rd_int Tryz.underlying3 h1
   obtain ⟨v, r2, o2⟩ := rdWide fuel' _ y2 h2
   obtain ⟨m, r3, o3⟩ := rdWide fuel' _ y3 h3
   obtain ⟨l, u, e4, r4⟩ := rd_slice (s := 11) (f := Action.enc) Tryz.underlying81 (by kernel_rfl) (by omega) Action.len rdAction h4
   simp at e0 e1 e4
   subst e0 e1 e4
   exact ⟨⟨n0, n1, v, m, l⟩, RelL.cons (by simp [Rel]) (RelL.cons (by simp [Rel]) (r2.append (r3.append (RelL.cons r4 RelL.nil)))),
     (Ones.append (vs := [_, _]) (by simp [Ones, Value.oneCell']) (o2.append (o3.append (Ones.single (one_of_sl r4)))))⟩
theorem rdFlowMod : Rd enc Tryz.prog w sp held 26 FlowMod.enc := by
 intro fuel cs x h
 obtain ⟨hl, fuel', hf⟩ := trod_struct Tryz.underlying26 h
 simp only [cellsOf_sz, sz26] at hl
 simp only [List.mem_cons, List.not_mem_nil, or_false, forall_eq_or_imp, forall_eq, cellsOf_sz, sz22, sz3, sz23, sz24] at hf
 match cs, hl, hf with
 | [c0, c1, c2, c3, c4, c5, c6, c7, c8, c9, c10, c11, c12], _, ⟨⟨y0, h0⟩, ⟨y1, h1⟩, ⟨y2, h2⟩, ⟨y3, h3⟩, ⟨y4, h4⟩, ⟨y5, h5⟩, ⟨y6, h6⟩, ⟨y7, h7⟩, ⟨y8, h8⟩, ⟨y9, h9⟩, ⟨y10, h10⟩, ⟨y11, h11⟩, ⟨y12, h12⟩⟩ =>
   obtain ⟨b0, e0⟩ := rd_u64 Tryz.underlying22 h0
   obtain ⟨b1, e1⟩ := rd_u64 Tryz.underlying22 h1
   obtain ⟨n2, e2⟩ := rd_int Tryz.underlying3 h2
   obtain ⟨n3, e3⟩ := rd_int Tryz.underlying3 h3
   obtain ⟨n4, e4⟩ := rd_int Tryz.underlying3 h4
   obtain ⟨n5, e5⟩ := rd_int Tryz.underlying3 h5
   obtain ⟨n6, e6⟩ := rd_int Tryz.underlying3 h6
   obtain ⟨n7, e7⟩ := rd_int Tryz.underlying3 h7
   obtain ⟨n8, e8⟩ := rd_int Tryz.underlying3 h8
   obtain ⟨n9, e9⟩ := rd_int Tryz.underlying3 h9
   obtain ⟨n10, e10⟩ := rd_int Tryz.underlying3 h10
   obtain ⟨l, u, e11, r11⟩ := rd_slice (s := 6) (f := Oxm.enc) Tryz.underlying23 (by kernel_rfl) (by omega) Oxm.len rdOxm h11
   obtain ⟨k, u', e12, r12⟩ := rd_slice (s := 7) (f := Inst.enc) Tryz.underlying24 (by kernel_rfl) (by omega) Inst.len rdInst h12
   simp at e0 e1 e2 e3 e4 e5 e6 e7 e8 e9 e10 e11 e12
   subst e0 e1 e2 e3 e4 e5 e6 e7 e8 e9 e10 e11 e12
   have hh : RelL E0 (GWh w) [.int .u64 (uI b0), .int .u64 (uI b1), .int .i64 n2, .int .i64 n3, .int .i64 n4, .int .i64 n5, .int .i64 n6, .int .i64 n7, .int .i64 n8, .int .i64 n9, .int .i64 n10]
       [.int .u64 (uI b0), .int .u64 (uI b1), .int .i64 n2, .int .i64 n3, .int .i64 n4, .int .i64 n5, .int .i64 n6, .int .i64 n7, .int .i64 n8, .int .i64 n9, .int .i64 n10] := by simp [RelL, Rel]
   exact ⟨⟨b0, b1, n2, n3, n4, n5, n6, n7, n8, n9, n10, l, k⟩, hh.append (RelL.cons r11 (RelL.cons r12 RelL.nil)),
     (Ones.append (vs := [_, _, _, _, _, _, _, _, _, _, _]) (by simp [Ones, Value.oneCell']) (Ones.append (vs := [_]) (Ones.single (one_of_sl r11)) (Ones.single (one_of_sl r12))))⟩
end
end Go.Proofs.YtcccfbjkcahgfaaGreat
end

namespace Go.Proofs.YtcccfbjkcahgfaaGreat
open Go Go.AI Go.Proofs Go.Proofs.YtcccfbjkcahgfaaGreat
theorem law_own : ownKnob Tryz.prog.godebug = none := by kernel_rfl
theorem law_laid : laidOutB Tryz.prog = true := by kernel_rfl
def zeroCells (n : Nat) : Array Value := (List.replicate n (Value.int .u64 0)).toArray
end Go.Proofs.YtcccfbjkcahgfaaGreat

namespace Go.Proofs.YtcccfbjkcahgfaaGreat
open Go Go.AI Go.Proofs
theorem less_c (a b : Wide) : FnP Tryz.prog 186 [.agg a.enc, .agg b.enc] (.agg (a.less b).enc) := by
 refine FnP.intro Tryz.func186 rfl rfl fun G w => ?_
 repeat (apply WK.seq)
 refine WK.reg 100 Tryz.ntmps186 (by kernel_rfl) ?_
 intro A hA Q hQ
 simp
 refine hQ _ _ ?_
 clear hQ hA
 repeat (apply WK.seq)
 refine WK.reg 200 Tryz.ntmps186 (by kernel_rfl) ?_
 intro A hA Q hQ
 simp [Wide.enc]
 refine hQ _ _ ?_
 clear hQ hA
 refine WK.ret Tryz.func186 (by simp (maxDischargeDepth := 120) [Tryz.results186, Wide.enc, Wide.less]) (by simp [Wide.enc, Wide.less])
theorem zero_c (a : Wide) : FnP Tryz.prog 185 [.agg a.enc] (.bool a.zero) := by
 refine FnP.intro Tryz.func185 rfl rfl fun G w => ?_
 repeat (apply WK.seq)
 refine WK.reg 100 Tryz.ntmps185 (by kernel_rfl) ?_
 intro A hA Q hQ
 simp
 refine hQ _ _ ?_
 clear hQ hA
 repeat (apply WK.seq)
 refine WK.reg 200 Tryz.ntmps185 (by kernel_rfl) ?_
 intro A hA Q hQ
 simp [Wide.enc]
 refine hQ _ _ ?_
 clear hQ hA
 refine WK.ret Tryz.func185 (by simp (maxDischargeDepth := 120) [Tryz.results185, Wide.zero]) (by simp [Wide.zero])
theorem ror_c (a b : Wide) : FnP Tryz.prog 170 [.agg a.enc, .agg b.enc] (.agg (a.or b).enc) := by
 refine FnP.intro Tryz.func170 rfl rfl fun G w => ?_
 repeat (apply WK.seq)
 refine WK.reg 100 Tryz.ntmps170 (by kernel_rfl) ?_
 intro A hA Q hQ
 simp
 refine hQ _ _ ?_
 clear hQ hA
 repeat (apply WK.seq)
 refine WK.reg 200 Tryz.ntmps170 (by kernel_rfl) ?_
 intro A hA Q hQ
 simp [Wide.enc]
 refine hQ _ _ ?_
 clear hQ hA
 refine WK.ret Tryz.func170 (by simp (maxDischargeDepth := 120) [Tryz.results170, Wide.enc, Wide.or]) (by simp [Wide.enc, Wide.or])
theorem rless_c (a b : Wide) : FnP Tryz.prog 148 [.agg a.enc, .agg b.enc] (.agg (a.less b).enc) := by
 refine FnP.intro Tryz.func148 rfl rfl fun G w => ?_
 repeat (apply WK.seq)
 refine WK.reg 100 Tryz.ntmps148 (by kernel_rfl) ?_
 intro A hA Q hQ
 simp
 refine hQ _ _ ?_
 clear hQ hA
 repeat (apply WK.seq)
 refine WK.reg 200 Tryz.ntmps148 (by kernel_rfl) ?_
 intro A hA Q hQ
 simp [Wide.enc]
 refine hQ _ _ ?_
 clear hQ hA
 refine WK.ret Tryz.func148 (by simp (maxDischargeDepth := 120) [Tryz.results148, Wide.enc, Wide.less]) (by simp [Wide.enc, Wide.less])
theorem rzero_c (a : Wide) : FnP Tryz.prog 147 [.agg a.enc] (.bool a.zero) := by
 rw [Wide.zero_eq]
 cases hz : (a.hi == 0#64)
 all_goals
   refine FnP.intro Tryz.func147 rfl rfl fun G w => ?_
   repeat (apply WK.seq)
   refine WK.reg 100 Tryz.ntmps147 (by kernel_rfl) ?_
   intro A hA Q hQ
   simp
   refine hQ _ _ ?_
   clear hQ hA
   repeat (apply WK.seq)
   refine WK.reg 200 Tryz.ntmps147 (by kernel_rfl) ?_
   intro A hA Q hQ
   have hg3 : (A[3]?).bind (·.dst) = some 6 := by rw [hA]; rfl
   simp [Wide.enc, hz, hg3]
   refine hQ _ _ ?_
   clear hQ hA
   refine WK.ret Tryz.func147 (by simp (maxDischargeDepth := 120) [Tryz.results147]) (by simp)

theorem fright_c (f : Int) : FnP Tryz.prog 195 [.int .i64 f] (.bool (fRight f)) := by
 cases h : decide (f ≥ 0)
 all_goals
   refine FnP.intro Tryz.func195 rfl rfl fun G w => ?_
   repeat (apply WK.seq)
   refine WK.reg 100 Tryz.ntmps195 (by kernel_rfl) ?_
   intro A hA Q hQ
   simp
   refine hQ _ _ ?_
   clear hQ hA
   repeat (apply WK.seq)
   refine WK.reg 200 Tryz.ntmps195 (by kernel_rfl) ?_
   intro A hA Q hQ
   have hg2 : (A[2]?).bind (·.dst) = some 5 := by rw [hA]; rfl
   simp [h, hg2]
   refine hQ _ _ ?_
   clear hQ hA
   refine WK.ret Tryz.func195 (by simp (maxDischargeDepth := 120) [Tryz.results195, fRight, h]) (by simp [fRight, h])
theorem rfright_c (f : Int) : FnP Tryz.prog 151 [.int .i64 f] (.bool (fRight f)) := by
 cases h : decide (f ≥ 0)
 all_goals
   refine FnP.intro Tryz.func151 rfl rfl fun G w => ?_
   repeat (apply WK.seq)
   refine WK.reg 100 Tryz.ntmps151 (by kernel_rfl) ?_
   intro A hA Q hQ
   simp
   refine hQ _ _ ?_
   clear hQ hA
   repeat (apply WK.seq)
   refine WK.reg 200 Tryz.ntmps151 (by kernel_rfl) ?_
   intro A hA Q hQ
   have hg2 : (A[2]?).bind (·.dst) = some 5 := by rw [hA]; rfl
   simp [h, hg2]
   refine hQ _ _ ?_
   clear hQ hA
   refine WK.ret Tryz.func151 (by simp (maxDischargeDepth := 120) [Tryz.results151, fRight, h]) (by simp [fRight, h])
def rowsC : List AV := fRows.flatMap rowEnc
@[simp] theorem rowsC_len : rowsC.length = 96 := rfl
theorem rows_c : FnP Tryz.prog 194 [] (.agg rowsC) := by
 refine FnP.intro Tryz.func194 rfl rfl fun G w => ?_
 repeat (apply WK.seq)
 refine WK.reg 100 Tryz.ntmps194 (by kernel_rfl) ?_
 intro A hA Q hQ
 simp
 refine hQ _ _ ?_
 clear hQ hA
 repeat (apply WK.seq)
 refine WK.reg 200 Tryz.ntmps194 (by kernel_rfl) ?_
 intro A hA Q hQ
 simp
 refine hQ _ _ ?_
 clear hQ hA
 refine WK.ret Tryz.func194 (by simp (maxDischargeDepth := 120) [Tryz.results194, rowsC, fRows, rowEnc]) (by simp [rowsC, fRows, rowEnc])
theorem rowEnc_len (r : Int × Int × Bool) : (rowEnc r).length = 4 := rfl
theorem rowEnc_cl (r : Int × Int × Bool) : ClL (rowEnc r) = true := by simp [rowEnc, ClL, Cl]
theorem row_sub (f : Int) (h : 0 ≤ f ∧ f < 24) : (rowsC.drop (f.toNat * 4)).take 4 = rowEnc (fRow f) := by
 unfold rowsC
 rw [fm_nth rowEnc_len _ _ (by show f.toNat < 24; omega)]
 unfold fRow; rw [if_pos h]
theorem fat_c (f : Int) : FnP Tryz.prog 183 [.int .i64 f] (.agg (rowEnc (fRow f))) := by
 refine FnP.intro Tryz.func183 rfl rfl fun G w => ?_
 repeat (apply WK.seq)
 refine WK.reg 100 Tryz.ntmps183 (by kernel_rfl) ?_
 intro A hA Q hQ
 simp
 refine hQ _ _ ?_
 clear hQ hA
 repeat (apply WK.seq)
 refine WK.reg 200 Tryz.ntmps183 (by kernel_rfl) ?_
 intro A hA Q hQ
 simp
 refine RunQ.call rfl rfl rfl rfl (by rfl) (by simp (maxDischargeDepth := 120)) (fright_c f) (by simp) ?_
 refine RunQ.eval ?_
 simp
 refine hQ _ _ ?_
 clear hQ hA
 refine WK.c2 rfl (fun h => ?_) (fun h => ?_)
 · simp [fRight] at h
   have h2 : fRow f = (-1, 0, false) := by unfold fRow; rw [if_neg (by omega)]
   repeat (apply WK.seq)
   refine WK.reg 300 Tryz.ntmps183 (by kernel_rfl) ?_
   intro A hA Q hQ
   simp
   refine hQ _ _ ?_
   clear hQ hA
   refine WK.ret Tryz.func183 (by simp (maxDischargeDepth := 120) [Tryz.results183, h2, rowEnc]) (by simp [h2, rowEnc])
 · simp [fRight] at h
   have h3 : f.toNat * 4 + 4 ≤ 96 := by omega
   repeat (first | apply WK.seq | apply WK.skip)
   refine WK.reg 400 Tryz.ntmps183 (by kernel_rfl) ?_
   intro A hA Q hQ
   simp
   refine RunQ.call rfl rfl rfl rfl (by rfl) (by simp (maxDischargeDepth := 120) [h, h3, row_sub f h, rowEnc_len]) (rows_c) (by simp [h, h3, row_sub f h, rowEnc_len]) ?_
   refine RunQ.eval ?_
   simp [h, h3, row_sub f h, rowEnc_len]
   refine hQ _ _ ?_
   clear hQ hA
   refine WK.ret Tryz.func183 (by simp (maxDischargeDepth := 120) [Tryz.results183, rowEnc]) (by simp [rowEnc])
theorem fbits_c (f : Int) : FnP Tryz.prog 188 [.int .i64 f] (.int .i64 (fBits f)) := by
 refine FnP.intro Tryz.func188 rfl rfl fun G w => ?_
 repeat (apply WK.seq)
 refine WK.reg 100 Tryz.ntmps188 (by kernel_rfl) ?_
 intro A hA Q hQ
 simp
 refine hQ _ _ ?_
 clear hQ hA
 repeat (apply WK.seq)
 refine WK.reg 200 Tryz.ntmps188 (by kernel_rfl) ?_
 intro A hA Q hQ
 simp
 refine RunQ.call rfl rfl rfl rfl (by rfl) (by simp (maxDischargeDepth := 120) [rowEnc]) (fat_c f) (by simp [rowEnc]) ?_
 refine RunQ.eval ?_
 simp [rowEnc]
 refine hQ _ _ ?_
 clear hQ hA
 refine WK.ret Tryz.func188 (by simp (maxDischargeDepth := 120) [Tryz.results188, fBits]) (by simp [fBits])
theorem rup_c (f : Int) : FnP Tryz.prog 178 [.int .i64 f] (.tup [.junk, .int .i64 (rowUp f).1, .int .i64 (rowUp f).2.1, .bool (rowUp f).2.2]) := by
 unfold rowUp
 refine FnP.intro Tryz.func178 rfl rfl fun G w => ?_
 repeat (apply WK.seq)
 refine WK.reg 100 Tryz.ntmps178 (by kernel_rfl) ?_
 intro A hA Q hQ
 simp
 refine hQ _ _ ?_
 clear hQ hA
 repeat (apply WK.seq)
 refine WK.reg 200 Tryz.ntmps178 (by kernel_rfl) ?_
 intro A hA Q hQ
 simp
 refine hQ _ _ ?_
 clear hQ hA
 iterate 12
   repeat (first | apply WK.seq | apply WK.block)
   refine WK.reg 300 Tryz.ntmps178 (by kernel_rfl) ?_
   intro A hA Q hQ
   simp
   refine hQ _ _ ?_
   clear hQ hA
   refine WK.c2 rfl (fun h => ?_) (fun h => ?_)
   · simp at h
     repeat (apply WK.seq)
     refine WK.reg 400 Tryz.ntmps178 (by kernel_rfl) ?_
     intro A hA Q hQ
     simp
     refine hQ _ _ ?_
     clear hQ hA
     refine WK.ret Tryz.func178 (by simp (maxDischargeDepth := 120) [Tryz.results178, h]) (by simp [h])
   simp at h
 repeat (first | apply WK.seq | apply WK.inBlock | apply WK.skip)
 refine WK.reg 500 Tryz.ntmps178 (by kernel_rfl) ?_
 intro A hA Q hQ
 simp
 refine hQ _ _ ?_
 clear hQ hA
 refine WK.ret Tryz.func178 (by simp (maxDischargeDepth := 120) [Tryz.results178, *]) (by simp [*])
theorem rlow_c (f : Int) : FnP Tryz.prog 152 [.int .i64 f] (.tup [.junk, .int .i64 (fRow f).1, .int .i64 (fRow f).2.1, .bool (fRow f).2.2]) := by
 rw [← rowLow_eq]
 unfold rowLow
 refine FnP.intro Tryz.func152 rfl rfl fun G w => ?_
 repeat (apply WK.seq)
 refine WK.reg 100 Tryz.ntmps152 (by kernel_rfl) ?_
 intro A hA Q hQ
 simp
 refine hQ _ _ ?_
 clear hQ hA
 repeat (apply WK.seq)
 refine WK.reg 200 Tryz.ntmps152 (by kernel_rfl) ?_
 intro A hA Q hQ
 simp
 refine hQ _ _ ?_
 clear hQ hA
 iterate 12
   repeat (first | apply WK.seq | apply WK.block)
   refine WK.reg 300 Tryz.ntmps152 (by kernel_rfl) ?_
   intro A hA Q hQ
   simp
   refine hQ _ _ ?_
   clear hQ hA
   refine WK.c2 rfl (fun h => ?_) (fun h => ?_)
   · simp at h
     repeat (apply WK.seq)
     refine WK.reg 400 Tryz.ntmps152 (by kernel_rfl) ?_
     intro A hA Q hQ
     simp
     refine hQ _ _ ?_
     clear hQ hA
     refine WK.ret Tryz.func152 (by simp (maxDischargeDepth := 120) [Tryz.results152, h]) (by simp [h])
   simp at h
 repeat (first | apply WK.seq | apply WK.inBlock | apply WK.skip)
 refine WK.reg 500 Tryz.ntmps152 (by kernel_rfl) ?_
 intro A hA Q hQ
 simp
 refine RunQ.call rfl rfl rfl rfl (by rfl) (by simp (maxDischargeDepth := 120)) (rup_c f) (by simp) ?_
 refine RunQ.eval ?_
 simp
 refine hQ _ _ ?_
 clear hQ hA
 refine WK.ret Tryz.func152 (by simp (maxDischargeDepth := 120) [Tryz.results152, *]) (by simp [*])
theorem rfbits_c (f : Int) : FnP Tryz.prog 146 [.int .i64 f] (.int .i64 (fBits f)) := by
 refine FnP.intro Tryz.func146 rfl rfl fun G w => ?_
 repeat (apply WK.seq)
 refine WK.reg 100 Tryz.ntmps146 (by kernel_rfl) ?_
 intro A hA Q hQ
 simp
 refine hQ _ _ ?_
 clear hQ hA
 repeat (apply WK.seq)
 refine WK.reg 200 Tryz.ntmps146 (by kernel_rfl) ?_
 intro A hA Q hQ
 simp
 refine RunQ.call rfl rfl rfl rfl (by rfl) (by simp (maxDischargeDepth := 120)) (rlow_c f) (by simp) ?_
 refine RunQ.eval ?_
 simp
 refine hQ _ _ ?_
 clear hQ hA
 repeat (apply WK.seq)
 refine WK.reg 300 Tryz.ntmps146 (by kernel_rfl) ?_
 intro A hA Q hQ
 simp
 refine hQ _ _ ?_
 clear hQ hA
 refine WK.ret Tryz.func146 (by simp (maxDischargeDepth := 120) [Tryz.results146, fBits]) (by simp [fBits])
theorem low1_c (n : Int) : FnP Tryz.prog 196 [.int .i64 n] (.int .u64 (uI (low64 n))) := by
 refine FnP.intro Tryz.func196 rfl rfl fun G w => ?_
 repeat (apply WK.seq)
 refine WK.reg 100 Tryz.ntmps196 (by kernel_rfl) ?_
 intro A hA Q hQ
 simp
 refine hQ _ _ ?_
 clear hQ hA
 repeat (apply WK.seq)
 refine WK.reg 200 Tryz.ntmps196 (by kernel_rfl) ?_
 intro A hA Q hQ
 simp
 refine hQ _ _ ?_
 clear hQ hA
 refine WK.c2 rfl (fun h => ?_) (fun h => ?_)
 · simp at h
   have e : uI (low64 n) = 18446744073709551615 := by rw [low64_ge h]; exact low64_big
   repeat (apply WK.seq)
   refine WK.reg 300 Tryz.ntmps196 (by kernel_rfl) ?_
   intro A hA Q hQ
   simp
   refine hQ _ _ ?_
   clear hQ hA
   refine WK.ret Tryz.func196 (by simp (maxDischargeDepth := 120) [Tryz.results196, e]) (by simp [e])
 · simp at h
   by_cases hn : n < 0
   · have e := low64_small (n := 0) (by omega) (by omega)
     have e2 := low64_neg hn
     repeat (first | apply WK.seq | apply WK.skip)
     refine WK.reg 400 Tryz.ntmps196 (by kernel_rfl) ?_
     intro A hA Q hQ
     simp [hn, e]
     refine hQ _ _ ?_
     clear hQ hA
     refine WK.ret Tryz.func196 (by simp (maxDischargeDepth := 120) [Tryz.results196, e2]) (by simp [e2])
   · have e := low64_small (n := n) (by omega) h
     repeat (first | apply WK.seq | apply WK.skip)
     refine WK.reg 500 Tryz.ntmps196 (by kernel_rfl) ?_
     intro A hA Q hQ
     simp [hn, e]
     refine hQ _ _ ?_
     clear hQ hA
     refine WK.ret Tryz.func196 (by simp (maxDischargeDepth := 120) [Tryz.results196]) (by simp)
theorem low_c (n : Int) : FnP Tryz.prog 187 [.int .i64 n] (.agg (lowW n).enc) := by
 have hc := clamp_le n
 have e : IntKind.i64.wrap (clamp n - 64) = clamp n - 64 := wrap_i64 (by omega) (by omega)
 refine FnP.intro Tryz.func187 rfl rfl fun G w => ?_
 repeat (apply WK.seq)
 refine WK.reg 100 Tryz.ntmps187 (by kernel_rfl) ?_
 intro A hA Q hQ
 simp
 refine hQ _ _ ?_
 clear hQ hA
 repeat (apply WK.seq)
 refine WK.reg 200 Tryz.ntmps187 (by kernel_rfl) ?_
 intro A hA Q hQ
 simp [clamp_eq]
 refine hQ _ _ ?_
 clear hQ hA
 repeat (apply WK.seq)
 refine WK.reg 300 Tryz.ntmps187 (by kernel_rfl) ?_
 intro A hA Q hQ
 simp [e]
 refine RunQ.call rfl rfl rfl rfl (by rfl) (by simp (maxDischargeDepth := 120)) (low1_c (clamp n - 64)) (by simp) ?_
 refine RunQ.eval ?_
 simp
 refine RunQ.call rfl rfl rfl rfl (by rfl) (by simp (maxDischargeDepth := 120)) (low1_c (clamp n)) (by simp) ?_
 refine RunQ.eval ?_
 simp
 refine hQ _ _ ?_
 clear hQ hA
 refine WK.ret Tryz.func187 (by simp (maxDischargeDepth := 120) [Tryz.results187, lowW, Wide.enc]) (by simp [lowW, Wide.enc])
theorem rbit_c (i : Nat) (h : i < 128) : FnP Tryz.prog 171 [.int .i64 i] (.agg (bitW i).enc) := by
 have h0 : ¬ ((i : Int) < 0) := by omega
 have h1 : ¬ (127 < (i : Int)) := by omega
 have h2 : decide ((i : Int) < 0) = false := decide_eq_false h0
 refine FnP.intro Tryz.func171 rfl rfl fun G w => ?_
 repeat (apply WK.seq)
 refine WK.reg 100 Tryz.ntmps171 (by kernel_rfl) ?_
 intro A hA Q hQ
 simp
 refine hQ _ _ ?_
 clear hQ hA
 repeat (first | apply WK.seq | apply WK.block)
 refine WK.reg 200 Tryz.ntmps171 (by kernel_rfl) ?_
 intro A hA Q hQ
 have hg2 : (A[2]?).bind (·.dst) = some 6 := by rw [hA]; rfl
 simp [h0, h1, hg2]
 refine hQ _ _ ?_
 clear hQ hA
 refine WK.c2 rfl (fun h3 => ?_) (fun h3 => ?_)
 · simp [h0, h1] at h3
 repeat (apply WK.seq)
 refine WK.reg 300 Tryz.ntmps171 (by kernel_rfl) ?_
 intro A hA Q hQ
 simp
 refine hQ _ _ ?_
 clear hQ hA
 refine WK.c2 rfl (fun h4 => ?_) (fun h4 => ?_)
 · simp at h4
   have h5 : i < 64 := by omega
   have e1 : IntKind.u64.wrap (i : Int) = i := by
     have := wrap_u64 (BitVec.ofNat 64 i)
     simp [uI] at this
     rw [show (i : Int) % 18446744073709551616 = i by omega] at this
     exact this
   have e2 := bit64 h5
   repeat (apply WK.seq)
   refine WK.reg 400 Tryz.ntmps171 (by kernel_rfl) ?_
   intro A hA Q hQ
   simp [e1, h0, e2]
   refine hQ _ _ ?_
   clear hQ hA
   refine WK.ret Tryz.func171 (by simp (maxDischargeDepth := 120) [Tryz.results171, bitW, h5, Wide.enc, uZ_]) (by simp [bitW, h5, Wide.enc, uZ_])
 · simp at h4
   have h5 : ¬ i < 64 := by omega
   obtain ⟨m, rfl⟩ : ∃ m, i = m + 64 := ⟨i - 64, by omega⟩
   have h6 : m < 64 := by omega
   have e0 : IntKind.i64.wrap (m : Int) = m := wrap_i64 (by omega) (by omega)
   have e1 : IntKind.u64.wrap (m : Int) = m := by
     have := wrap_u64 (BitVec.ofNat 64 m)
     simp [uI] at this
     rw [show (m : Int) % 18446744073709551616 = m by omega] at this
     exact this
   have e2 := bit64 h6
   have h7 : ¬ ((m : Int) < 0) := by omega
   repeat (first | apply WK.seq | apply WK.inBlock | apply WK.skip)
   refine WK.reg 500 Tryz.ntmps171 (by kernel_rfl) ?_
   intro A hA Q hQ
   simp [e0, e1, h7, e2]
   refine hQ _ _ ?_
   clear hQ hA
   refine WK.ret Tryz.func171 (by simp (maxDischargeDepth := 120) [Tryz.results171, bitW, h, h5, h6, Wide.enc, uZ_]) (by simp [bitW, h, h5, h6, Wide.enc, uZ_])

theorem rlow2_c (n : Int) (hn : -10000 ≤ n ∧ n ≤ 10000) : FnP Tryz.prog 145 [.int .i64 n] (.agg (lowW n).enc) := by
 refine FnP.intro Tryz.func145 rfl rfl fun G w => ?_
 repeat (apply WK.seq)
 refine WK.reg 100 Tryz.ntmps145 (by kernel_rfl) ?_
 intro A hA Q hQ
 simp
 refine hQ _ _ ?_
 clear hQ hA
 repeat (apply WK.seq)
 refine WK.reg 200 Tryz.ntmps145 (by kernel_rfl) ?_
 intro A hA Q hQ
 simp
 refine hQ _ _ ?_
 clear hQ hA
 repeat (apply WK.seq)
 refine WK.reg 300 Tryz.ntmps145 (by kernel_rfl) ?_
 intro A hA Q hQ
 simp
 refine hQ _ _ ?_
 clear hQ hA
 repeat (apply WK.block)
 refine WK.lI (fun n => n) (fun i : Nat => (⟨(upd (upd (upd (upd J 0 (.int .i64 n)) 2 (.ptr 0 0)) 3 (.ptr 101 0)) 4 (.int .i64 i)), (upd (upd B0 0 (.var wideZ.enc)) 101 (.var (lowW i).enc)), 0⟩ : St)) (fun i => i ≤ 128 ∧ ((i : Int) ≤ n ∨ i = 0)) (fun i => 128 - i) (0) (by repeat (first | exact TmW.nil | refine TmW.upd ?_ (by simp (maxDischargeDepth := 120) [Wide.enc, wideZ, uZ_, lowW_zero']))) (by repeat (first | exact BxW.nil | refine BxW.upd ?_ (by simp (maxDischargeDepth := 120) [Wide.enc, wideZ, uZ_, lowW_zero']))) InjW.id (⟨by omega, .inr rfl⟩) (fun i hi IH => ?_)
 by_cases h0 : (i : Int) < n
 · repeat (apply WK.seq)
   refine WK.reg 400 Tryz.ntmps145 (by kernel_rfl) ?_
   intro A hA Q hQ
   have hg3 : (A[3]?).bind (·.dst) = some 9 := by rw [hA]; rfl
   simp [h0, hg3]
   refine hQ _ _ ?_
   clear hQ hA
   refine WK.c2 rfl (fun h1 => ?_) (fun h1 => ?_)
   · simp at h1
     have h2 : i < 128 := by omega
     have h6 : IntKind.i64.wrap ((i : Int) + 1) = i + 1 := wrap_i64 (by omega) (by omega)
     repeat (first | apply WK.seq | apply WK.block | apply WK.skip)
     refine WK.regD 500 clsOf (by kernel_rfl) Tryz.ntmps145 (by kernel_rfl) (by kernel_rfl) ?_
     intro A hA Q hQ
     simp
     refine RunQ.call rfl rfl rfl rfl (by rfl) (by simp (maxDischargeDepth := 120)) (rbit_c i h2) (by simp) ?_
     refine RunQ.eval ?_
     simp
     refine RunQ.call rfl rfl rfl rfl (by rfl) (by simp (maxDischargeDepth := 120)) (ror_c (lowW i) (bitW i)) (by simp) ?_
     refine RunQ.eval ?_
     simp
     refine hQ _ _ ?_
     clear hQ hA
     repeat (apply WK.inBlock)
     refine WK.reg 600 Tryz.ntmps145 (by kernel_rfl) ?_
     intro A hA Q hQ
     simp [h6]
     refine hQ _ _ ?_
     clear hQ hA
     refine WK.next (fun n => n) (IH (i + 1) (⟨by omega, .inl (by omega)⟩) (by first | omega | (dsimp only; omega))) (by repeat (first | exact TmW.nil | refine TmW.upd ?_ (by simp (maxDischargeDepth := 120) [lowW_step h2]))) (by repeat (first | exact BxW.nil | refine BxW.upd ?_ (by simp (maxDischargeDepth := 120) [lowW_step h2]))) InjW.id
   · simp at h1
     have e : lowW n = lowW i := by
       unfold lowW; rw [show clamp n = clamp i by rw [clamp_id (n := i) (by omega) (by omega)]; unfold clamp; rw [if_neg (show ¬ n < 0 by omega)]; split <;> omega]
     repeat (first | apply WK.seq | refine WK.exit rfl ?_)
     refine WK.reg 700 Tryz.ntmps145 (by kernel_rfl) ?_
     intro A hA Q hQ
     simp
     refine hQ _ _ ?_
     clear hQ hA
     refine WK.ret Tryz.func145 (by simp (maxDischargeDepth := 120) [Tryz.results145, e]) (by simp [e])
 · repeat (apply WK.seq)
   refine WK.reg 800 Tryz.ntmps145 (by kernel_rfl) ?_
   intro A hA Q hQ
   have hg3 : (A[3]?).bind (·.dst) = some 9 := by rw [hA]; rfl
   simp [h0, hg3]
   refine hQ _ _ ?_
   clear hQ hA
   refine WK.c2 rfl (fun h1 => ?_) (fun h1 => ?_)
   · simp at h1
   have e : lowW n = lowW i := by
     unfold lowW; rw [show clamp n = clamp i by rw [clamp_id (n := i) (by omega) (by omega)]; unfold clamp; split <;> (try split) <;> omega]
   repeat (first | apply WK.seq | refine WK.exit rfl ?_)
   refine WK.reg 900 Tryz.ntmps145 (by kernel_rfl) ?_
   intro A hA Q hQ
   simp
   refine hQ _ _ ?_
   clear hQ hA
   refine WK.ret Tryz.func145 (by simp (maxDischargeDepth := 120) [Tryz.results145, e]) (by simp [e])

def eqBy {α : Type} [Inhabited α] (p : α → α → Bool) (l m : List α) : Bool := l.length == m.length && (List.range l.length).all fun i => p (nth l i) (nth m i)
theorem eqf_oxm (fid : Nat) (caps : List AV) (p : Oxm → Oxm → Bool) (l m : List Oxm) (hcl : ClL caps = true) (hl : l.length ≤ 1000000)
   (hf : ∀ x, x ∈ l → ∀ y, y ∈ m → FnP Tryz.prog fid (.agg x.enc :: .agg y.enc :: caps) (.bool (p x y))) :
   FnP Tryz.prog 92 [oxmS l, oxmS m, .fn fid caps] (.bool (eqBy p l m)) := by
 unfold oxmS
 refine FnP.intro Tryz.func92 rfl rfl fun G w => ?_
 repeat (first | apply WK.seq | apply WK.block | apply WK.inBlock | apply WK.skip | apply WK.label | apply WK.scope | apply WK.inScope | refine WK.exit rfl ?_)
 first | refine WK.reg 100 Tryz.ntmps92 (by kernel_rfl) ?_ | refine WK.regD 100 clsOf (by kernel_rfl) Tryz.ntmps92 (by kernel_rfl) (by kernel_rfl) ?_
 intro A hA Q hQ
 simp
 refine hQ _ _ ?_
 clear hQ hA
 repeat (first | apply WK.seq | apply WK.block | apply WK.inBlock | apply WK.skip | apply WK.label | apply WK.scope | apply WK.inScope | refine WK.exit rfl ?_)
 first | refine WK.reg 200 Tryz.ntmps92 (by kernel_rfl) ?_ | refine WK.regD 200 clsOf (by kernel_rfl) Tryz.ntmps92 (by kernel_rfl) (by kernel_rfl) ?_
 intro A hA Q hQ
 simp
 refine hQ _ _ ?_
 clear hQ hA
 repeat (first | apply WK.seq | apply WK.block | apply WK.inBlock | apply WK.skip | apply WK.label | apply WK.scope | apply WK.inScope | refine WK.exit rfl ?_)
 refine WK.c2 rfl (fun h => ?_) (fun h => ?_)
 · simp at h
   have e : eqBy p l m = false := by unfold eqBy; simp; intro e; omega
   repeat (first | apply WK.seq | apply WK.block | apply WK.inBlock | apply WK.skip | apply WK.label | apply WK.scope | apply WK.inScope | refine WK.exit rfl ?_)
   first | refine WK.reg 300 Tryz.ntmps92 (by kernel_rfl) ?_ | refine WK.regD 300 clsOf (by kernel_rfl) Tryz.ntmps92 (by kernel_rfl) (by kernel_rfl) ?_
   intro A hA Q hQ
   simp
   refine hQ _ _ ?_
   clear hQ hA
   repeat (first | apply WK.seq | apply WK.block | apply WK.inBlock | apply WK.skip | apply WK.label | apply WK.scope | apply WK.inScope | refine WK.exit rfl ?_)
   refine WK.ret Tryz.func92 (by simp (maxDischargeDepth := 120) [Tryz.results92, e]) (by simp [e])
 · simp at h
   have hlm : l.length = m.length := by omega
   repeat (first | apply WK.seq | apply WK.block | apply WK.inBlock | apply WK.skip | apply WK.label | apply WK.scope | apply WK.inScope | refine WK.exit rfl ?_)
   first | refine WK.reg 400 Tryz.ntmps92 (by kernel_rfl) ?_ | refine WK.regD 400 clsOf (by kernel_rfl) Tryz.ntmps92 (by kernel_rfl) (by kernel_rfl) ?_
   intro A hA Q hQ
   simp
   refine hQ _ _ ?_
   clear hQ hA
   repeat (first | apply WK.seq | apply WK.block | apply WK.inBlock | apply WK.skip | apply WK.label | apply WK.scope | apply WK.inScope | refine WK.exit rfl ?_)
   refine WK.lI (fun n => n) (fun i : Nat => (⟨(upd (upd (upd (upd (upd (upd J 0 (.sl false l.length (oxmL l))) 1 (.sl false m.length (oxmL m))) 2 (.fn fid caps)) 15 (.sl false l.length (oxmL l))) 16 (.int .i64 l.length)) 17 (.int .i64 i)), B0, 0⟩ : St)) (fun i => i ≤ l.length ∧ ∀ j, j < i → p (nth l j) (nth m j) = true) (fun i => l.length - i) (0) (by repeat (first | exact TmW.nil | refine TmW.upd ?_ (by simp (maxDischargeDepth := 120) [hcl]))) (by repeat (first | exact BxW.nil | refine BxW.upd ?_ (by simp (maxDischargeDepth := 120) [hcl]))) InjW.id (⟨by omega, by simp⟩) (fun i hi IH => ?_)
   repeat (first | apply WK.seq | apply WK.block | apply WK.inBlock | apply WK.skip | apply WK.label | apply WK.scope | apply WK.inScope | refine WK.exit rfl ?_)
   first | refine WK.reg 500 Tryz.ntmps92 (by kernel_rfl) ?_ | refine WK.regD 500 clsOf (by kernel_rfl) Tryz.ntmps92 (by kernel_rfl) (by kernel_rfl) ?_
   intro A hA Q hQ
   simp
   refine hQ _ _ ?_
   clear hQ hA
   repeat (first | apply WK.seq | apply WK.block | apply WK.inBlock | apply WK.skip | apply WK.label | apply WK.scope | apply WK.inScope | refine WK.exit rfl ?_)
   refine WK.c2 rfl (fun h1 => ?_) (fun h1 => ?_)
   · simp at h1
     have h2 : i < l.length := by omega
     have h2' : i < m.length := by omega
     have h3 : 6 ≤ l.length * 6 - i * 6 := by omega
     have h3' : 6 ≤ m.length * 6 - i * 6 := by omega
     have h4 := oxm_sub l i h2
     have h4' := oxm_sub m i h2'
     have h6 : IntKind.i64.wrap ((i : Int) + 1) = i + 1 := wrap_i64 (by omega) (by omega)
     repeat (first | apply WK.seq | apply WK.block | apply WK.inBlock | apply WK.skip | apply WK.label | apply WK.scope | apply WK.inScope | refine WK.exit rfl ?_)
     first | refine WK.reg 600 Tryz.ntmps92 (by kernel_rfl) ?_ | refine WK.regD 600 clsOf (by kernel_rfl) Tryz.ntmps92 (by kernel_rfl) (by kernel_rfl) ?_
     intro A hA Q hQ
     simp [h2, h3, h4]
     refine hQ _ _ ?_
     clear hQ hA
     repeat (first | apply WK.seq | apply WK.block | apply WK.inBlock | apply WK.skip | apply WK.label | apply WK.scope | apply WK.inScope | refine WK.exit rfl ?_)
     first | refine WK.reg 700 Tryz.ntmps92 (by kernel_rfl) ?_ | refine WK.regD 700 clsOf (by kernel_rfl) Tryz.ntmps92 (by kernel_rfl) (by kernel_rfl) ?_
     intro A hA Q hQ
     simp [h2', h3', h4']
     refine hQ _ _ ?_
     clear hQ hA
     repeat (first | apply WK.seq | apply WK.block | apply WK.inBlock | apply WK.skip | apply WK.label | apply WK.scope | apply WK.inScope | refine WK.exit rfl ?_)
     first | refine WK.reg 800 Tryz.ntmps92 (by kernel_rfl) ?_ | refine WK.regD 800 clsOf (by kernel_rfl) Tryz.ntmps92 (by kernel_rfl) (by kernel_rfl) ?_
     intro A hA Q hQ
     simp
     refine RunQ.call rfl rfl rfl rfl (by rfl) (by simp (maxDischargeDepth := 120) [hcl]) (hf (nth l i) (nth_mem h2) (nth m i) (nth_mem h2')) (by simp [hcl]) ?_
     refine RunQ.eval ?_
     simp [hcl]
     refine hQ _ _ ?_
     clear hQ hA
     repeat (first | apply WK.seq | apply WK.block | apply WK.inBlock | apply WK.skip | apply WK.label | apply WK.scope | apply WK.inScope | refine WK.exit rfl ?_)
     refine WK.c2 rfl (fun h5 => ?_) (fun h5 => ?_)
     · simp at h5
       have e : eqBy p l m = false := by unfold eqBy; rw [all_range_false (p := fun i => p (nth l i) (nth m i)) h2 h5]; simp
       repeat (first | apply WK.seq | apply WK.block | apply WK.inBlock | apply WK.skip | apply WK.label | apply WK.scope | apply WK.inScope | refine WK.exit rfl ?_)
       first | refine WK.reg 900 Tryz.ntmps92 (by kernel_rfl) ?_ | refine WK.regD 900 clsOf (by kernel_rfl) Tryz.ntmps92 (by kernel_rfl) (by kernel_rfl) ?_
       intro A hA Q hQ
       simp
       refine hQ _ _ ?_
       clear hQ hA
       repeat (first | apply WK.seq | apply WK.block | apply WK.inBlock | apply WK.skip | apply WK.label | apply WK.scope | apply WK.inScope | refine WK.exit rfl ?_)
       refine WK.ret Tryz.func92 (by simp (maxDischargeDepth := 120) [Tryz.results92, e]) (by simp [e])
     · simp at h5
       repeat (first | apply WK.seq | apply WK.block | apply WK.inBlock | apply WK.skip | apply WK.label | apply WK.scope | apply WK.inScope | refine WK.exit rfl ?_)
       first | refine WK.reg 1000 Tryz.ntmps92 (by kernel_rfl) ?_ | refine WK.regD 1000 clsOf (by kernel_rfl) Tryz.ntmps92 (by kernel_rfl) (by kernel_rfl) ?_
       intro A hA Q hQ
       simp [h6]
       refine hQ _ _ ?_
       clear hQ hA
       repeat (first | apply WK.seq | apply WK.block | apply WK.inBlock | apply WK.skip | apply WK.label | apply WK.scope | apply WK.inScope | refine WK.exit rfl ?_)
       refine WK.next (fun n => n) (IH (i + 1) (⟨by omega, fun j hj => by by_cases h7 : j = i; (subst h7; exact h5); exact hi.2 j (by omega)⟩) (by first | omega | (dsimp only; omega))) (by repeat (first | exact TmW.nil | refine TmW.upd ?_ (by simp (maxDischargeDepth := 120) [hcl]))) (by repeat (first | exact BxW.nil | refine BxW.upd ?_ (by simp (maxDischargeDepth := 120) [hcl]))) InjW.id
   · simp at h1
     have e : eqBy p l m = true := by unfold eqBy; rw [all_range_true (p := fun i => p (nth l i) (nth m i)) (fun j hj => hi.2 j (by omega))]; simp [hlm]
     repeat (first | apply WK.seq | apply WK.block | apply WK.inBlock | apply WK.skip | apply WK.label | apply WK.scope | apply WK.inScope | refine WK.exit rfl ?_)
     first | refine WK.reg 1100 Tryz.ntmps92 (by kernel_rfl) ?_ | refine WK.regD 1100 clsOf (by kernel_rfl) Tryz.ntmps92 (by kernel_rfl) (by kernel_rfl) ?_
     intro A hA Q hQ
     simp
     refine hQ _ _ ?_
     clear hQ hA
     repeat (first | apply WK.seq | apply WK.block | apply WK.inBlock | apply WK.skip | apply WK.label | apply WK.scope | apply WK.inScope | refine WK.exit rfl ?_)
     refine WK.ret Tryz.func92 (by simp (maxDischargeDepth := 120) [Tryz.results92, e]) (by simp [e])
theorem eqf_inst (fid : Nat) (caps : List AV) (p : Inst → Inst → Bool) (l m : List Inst) (hcl : ClL caps = true) (hl : l.length ≤ 1000000)
   (hf : ∀ x, x ∈ l → ∀ y, y ∈ m → FnP Tryz.prog fid (.agg x.enc :: .agg y.enc :: caps) (.bool (p x y))) :
   FnP Tryz.prog 94 [instS l, instS m, .fn fid caps] (.bool (eqBy p l m)) := by
 unfold instS
 refine FnP.intro Tryz.func94 rfl rfl fun G w => ?_
 repeat (apply WK.seq)
 refine WK.reg 100 Tryz.ntmps94 (by kernel_rfl) ?_
 intro A hA Q hQ
 simp
 refine hQ _ _ ?_
 clear hQ hA
 repeat (apply WK.seq)
 refine WK.reg 200 Tryz.ntmps94 (by kernel_rfl) ?_
 intro A hA Q hQ
 simp
 refine hQ _ _ ?_
 clear hQ hA
 refine WK.c2 rfl (fun h => ?_) (fun h => ?_)
 · simp at h
   have e : eqBy p l m = false := by unfold eqBy; simp; intro e; omega
   repeat (apply WK.seq)
   refine WK.reg 300 Tryz.ntmps94 (by kernel_rfl) ?_
   intro A hA Q hQ
   simp
   refine hQ _ _ ?_
   clear hQ hA
   refine WK.ret Tryz.func94 (by simp (maxDischargeDepth := 120) [Tryz.results94, e]) (by simp [e])
 · simp at h
   have hlm : l.length = m.length := by omega
   repeat (first | apply WK.seq | apply WK.skip)
   refine WK.reg 400 Tryz.ntmps94 (by kernel_rfl) ?_
   intro A hA Q hQ
   simp
   refine hQ _ _ ?_
   clear hQ hA
   repeat (apply WK.block)
   refine WK.lI (fun n => n) (fun i : Nat => (⟨(upd (upd (upd (upd (upd (upd J 0 (.sl false l.length (instL l))) 1 (.sl false m.length (instL m))) 2 (.fn fid caps)) 15 (.sl false l.length (instL l))) 16 (.int .i64 l.length)) 17 (.int .i64 i)), B0, 0⟩ : St)) (fun i => i ≤ l.length ∧ ∀ j, j < i → p (nth l j) (nth m j) = true) (fun i => l.length - i) (0) (by repeat (first | exact TmW.nil | refine TmW.upd ?_ (by simp (maxDischargeDepth := 120) [hcl]))) (by repeat (first | exact BxW.nil | refine BxW.upd ?_ (by simp (maxDischargeDepth := 120) [hcl]))) InjW.id (⟨by omega, by simp⟩) (fun i hi IH => ?_)
   repeat (apply WK.seq)
   refine WK.reg 500 Tryz.ntmps94 (by kernel_rfl) ?_
   intro A hA Q hQ
   simp
   refine hQ _ _ ?_
   clear hQ hA
   repeat (apply WK.seq)
   refine WK.c2 rfl (fun h1 => ?_) (fun h1 => ?_)
   · simp at h1
     have h2 : i < l.length := by omega
     have h2' : i < m.length := by omega
     have h3 : 7 ≤ l.length * 7 - i * 7 := by omega
     have h3' : 7 ≤ m.length * 7 - i * 7 := by omega
     have h4 := inst_sub l i h2
     have h4' := inst_sub m i h2'
     have h6 : IntKind.i64.wrap ((i : Int) + 1) = i + 1 := wrap_i64 (by omega) (by omega)
     repeat (first | apply WK.seq | apply WK.block | apply WK.skip)
     refine WK.reg 600 Tryz.ntmps94 (by kernel_rfl) ?_
     intro A hA Q hQ
     simp [h2, h3, h4]
     refine hQ _ _ ?_
     clear hQ hA
     repeat (apply WK.seq)
     refine WK.reg 700 Tryz.ntmps94 (by kernel_rfl) ?_
     intro A hA Q hQ
     simp [h2', h3', h4']
     refine hQ _ _ ?_
     clear hQ hA
     repeat (apply WK.seq)
     refine WK.reg 800 Tryz.ntmps94 (by kernel_rfl) ?_
     intro A hA Q hQ
     simp
     refine RunQ.call rfl rfl rfl rfl (by rfl) (by simp (maxDischargeDepth := 120) [hcl]) (hf (nth l i) (nth_mem h2) (nth m i) (nth_mem h2')) (by simp [hcl]) ?_
     refine RunQ.eval ?_
     simp [hcl]
     refine hQ _ _ ?_
     clear hQ hA
     refine WK.c2 rfl (fun h5 => ?_) (fun h5 => ?_)
     · simp at h5
       have e : eqBy p l m = false := by unfold eqBy; rw [all_range_false (p := fun i => p (nth l i) (nth m i)) h2 h5]; simp
       repeat (apply WK.seq)
       refine WK.reg 900 Tryz.ntmps94 (by kernel_rfl) ?_
       intro A hA Q hQ
       simp
       refine hQ _ _ ?_
       clear hQ hA
       refine WK.ret Tryz.func94 (by simp (maxDischargeDepth := 120) [Tryz.results94, e]) (by simp [e])
     · simp at h5
       repeat (first | apply WK.inBlock | apply WK.skip)
       refine WK.reg 1000 Tryz.ntmps94 (by kernel_rfl) ?_
       intro A hA Q hQ
       simp [h6]
       refine hQ _ _ ?_
       clear hQ hA
       refine WK.next (fun n => n) (IH (i + 1) (⟨by omega, fun j hj => by by_cases h7 : j = i; (subst h7; exact h5); exact hi.2 j (by omega)⟩) (by first | omega | (dsimp only; omega))) (by repeat (first | exact TmW.nil | refine TmW.upd ?_ (by simp (maxDischargeDepth := 120) [hcl]))) (by repeat (first | exact BxW.nil | refine BxW.upd ?_ (by simp (maxDischargeDepth := 120) [hcl]))) InjW.id
   · simp at h1
     have e : eqBy p l m = true := by unfold eqBy; rw [all_range_true (p := fun i => p (nth l i) (nth m i)) (fun j hj => hi.2 j (by omega))]; simp [hlm]
     repeat (first | apply WK.seq | refine WK.exit rfl ?_)
     refine WK.reg 1100 Tryz.ntmps94 (by kernel_rfl) ?_
     intro A hA Q hQ
     simp
     refine hQ _ _ ?_
     clear hQ hA
     refine WK.ret Tryz.func94 (by simp (maxDischargeDepth := 120) [Tryz.results94, e]) (by simp [e])
theorem eqf_act (fid : Nat) (caps : List AV) (p : Action → Action → Bool) (l m : List Action) (hcl : ClL caps = true) (hl : l.length ≤ 1000000)
   (hf : ∀ x, x ∈ l → ∀ y, y ∈ m → FnP Tryz.prog fid (.agg x.enc :: .agg y.enc :: caps) (.bool (p x y))) :
   FnP Tryz.prog 156 [actS l, actS m, .fn fid caps] (.bool (eqBy p l m)) := by
 unfold actS
 refine FnP.intro Tryz.func156 rfl rfl fun G w => ?_
 repeat (apply WK.seq)
 refine WK.reg 100 Tryz.ntmps156 (by kernel_rfl) ?_
 intro A hA Q hQ
 simp
 refine hQ _ _ ?_
 clear hQ hA
 repeat (apply WK.seq)
 refine WK.reg 200 Tryz.ntmps156 (by kernel_rfl) ?_
 intro A hA Q hQ
 simp
 refine hQ _ _ ?_
 clear hQ hA
 refine WK.c2 rfl (fun h => ?_) (fun h => ?_)
 · simp at h
   have e : eqBy p l m = false := by unfold eqBy; simp; intro e; omega
   repeat (apply WK.seq)
   refine WK.reg 300 Tryz.ntmps156 (by kernel_rfl) ?_
   intro A hA Q hQ
   simp
   refine hQ _ _ ?_
   clear hQ hA
   refine WK.ret Tryz.func156 (by simp (maxDischargeDepth := 120) [Tryz.results156, e]) (by simp [e])
 · simp at h
   have hlm : l.length = m.length := by omega
   repeat (first | apply WK.seq | apply WK.skip)
   refine WK.reg 400 Tryz.ntmps156 (by kernel_rfl) ?_
   intro A hA Q hQ
   simp
   refine hQ _ _ ?_
   clear hQ hA
   repeat (apply WK.block)
   refine WK.lI (fun n => n) (fun i : Nat => (⟨(upd (upd (upd (upd (upd (upd J 0 (.sl false l.length (actL l))) 1 (.sl false m.length (actL m))) 2 (.fn fid caps)) 15 (.sl false l.length (actL l))) 16 (.int .i64 l.length)) 17 (.int .i64 i)), B0, 0⟩ : St)) (fun i => i ≤ l.length ∧ ∀ j, j < i → p (nth l j) (nth m j) = true) (fun i => l.length - i) (0) (by repeat (first | exact TmW.nil | refine TmW.upd ?_ (by simp (maxDischargeDepth := 120) [hcl]))) (by repeat (first | exact BxW.nil | refine BxW.upd ?_ (by simp (maxDischargeDepth := 120) [hcl]))) InjW.id (⟨by omega, by simp⟩) (fun i hi IH => ?_)
   repeat (apply WK.seq)
   refine WK.reg 500 Tryz.ntmps156 (by kernel_rfl) ?_
   intro A hA Q hQ
   simp
   refine hQ _ _ ?_
   clear hQ hA
   repeat (apply WK.seq)
   refine WK.c2 rfl (fun h1 => ?_) (fun h1 => ?_)
   · simp at h1
     have h2 : i < l.length := by omega
     have h2' : i < m.length := by omega
     have h3 : 11 ≤ l.length * 11 - i * 11 := by omega
     have h3' : 11 ≤ m.length * 11 - i * 11 := by omega
     have h4 := act_sub l i h2
     have h4' := act_sub m i h2'
     have h6 : IntKind.i64.wrap ((i : Int) + 1) = i + 1 := wrap_i64 (by omega) (by omega)
     repeat (first | apply WK.seq | apply WK.block | apply WK.skip)
     refine WK.reg 600 Tryz.ntmps156 (by kernel_rfl) ?_
     intro A hA Q hQ
     simp [h2, h3, h4]
     refine hQ _ _ ?_
     clear hQ hA
     repeat (apply WK.seq)
     refine WK.reg 700 Tryz.ntmps156 (by kernel_rfl) ?_
     intro A hA Q hQ
     simp [h2', h3', h4']
     refine hQ _ _ ?_
     clear hQ hA
     repeat (apply WK.seq)
     refine WK.reg 800 Tryz.ntmps156 (by kernel_rfl) ?_
     intro A hA Q hQ
     simp
     refine RunQ.call rfl rfl rfl rfl (by rfl) (by simp (maxDischargeDepth := 120) [hcl]) (hf (nth l i) (nth_mem h2) (nth m i) (nth_mem h2')) (by simp [hcl]) ?_
     refine RunQ.eval ?_
     simp [hcl]
     refine hQ _ _ ?_
     clear hQ hA
     refine WK.c2 rfl (fun h5 => ?_) (fun h5 => ?_)
     · simp at h5
       have e : eqBy p l m = false := by unfold eqBy; rw [all_range_false (p := fun i => p (nth l i) (nth m i)) h2 h5]; simp
       repeat (apply WK.seq)
       refine WK.reg 900 Tryz.ntmps156 (by kernel_rfl) ?_
       intro A hA Q hQ
       simp
       refine hQ _ _ ?_
       clear hQ hA
       refine WK.ret Tryz.func156 (by simp (maxDischargeDepth := 120) [Tryz.results156, e]) (by simp [e])
     · simp at h5
       repeat (first | apply WK.inBlock | apply WK.skip)
       refine WK.reg 1000 Tryz.ntmps156 (by kernel_rfl) ?_
       intro A hA Q hQ
       simp [h6]
       refine hQ _ _ ?_
       clear hQ hA
       refine WK.next (fun n => n) (IH (i + 1) (⟨by omega, fun j hj => by by_cases h7 : j = i; (subst h7; exact h5); exact hi.2 j (by omega)⟩) (by first | omega | (dsimp only; omega))) (by repeat (first | exact TmW.nil | refine TmW.upd ?_ (by simp (maxDischargeDepth := 120) [hcl]))) (by repeat (first | exact BxW.nil | refine BxW.upd ?_ (by simp (maxDischargeDepth := 120) [hcl]))) InjW.id
   · simp at h1
     have e : eqBy p l m = true := by unfold eqBy; rw [all_range_true (p := fun i => p (nth l i) (nth m i)) (fun j hj => hi.2 j (by omega))]; simp [hlm]
     repeat (first | apply WK.seq | refine WK.exit rfl ?_)
     refine WK.reg 1100 Tryz.ntmps156 (by kernel_rfl) ?_
     intro A hA Q hQ
     simp
     refine hQ _ _ ?_
     clear hQ hA
     refine WK.ret Tryz.func156 (by simp (maxDischargeDepth := 120) [Tryz.results156, e]) (by simp [e])
theorem osame_c (a b : Oxm) : FnP Tryz.prog 93 [.agg a.enc, .agg b.enc] (.bool (a == b)) := by
 refine FnP.intro Tryz.func93 rfl rfl fun G w => ?_
 repeat (first | apply WK.seq | apply WK.block | apply WK.inBlock | apply WK.skip | apply WK.label | apply WK.scope | apply WK.inScope | refine WK.exit rfl ?_)
 first | refine WK.reg 100 Tryz.ntmps93 (by kernel_rfl) ?_ | refine WK.regD 100 clsOf (by kernel_rfl) Tryz.ntmps93 (by kernel_rfl) (by kernel_rfl) ?_
 intro A hA Q hQ
 simp
 refine hQ _ _ ?_
 clear hQ hA
 repeat (first | apply WK.seq | apply WK.block | apply WK.inBlock | apply WK.skip | apply WK.label | apply WK.scope | apply WK.inScope | refine WK.exit rfl ?_)
 first | refine WK.reg 200 Tryz.ntmps93 (by kernel_rfl) ?_ | refine WK.regD 200 clsOf (by kernel_rfl) Tryz.ntmps93 (by kernel_rfl) (by kernel_rfl) ?_
 intro A hA Q hQ
 simp
 refine hQ _ _ ?_
 clear hQ hA
 repeat (first | apply WK.seq | apply WK.block | apply WK.inBlock | apply WK.skip | apply WK.label | apply WK.scope | apply WK.inScope | refine WK.exit rfl ?_)
 refine WK.ret Tryz.func93 (by simp (maxDischargeDepth := 120) [Tryz.results93]) (by simp)
theorem asame_c (a b : Action) : FnP Tryz.prog 157 [.agg a.enc, .agg b.enc] (.bool (a == b)) := by
 refine FnP.intro Tryz.func157 rfl rfl fun G w => ?_
 repeat (apply WK.seq)
 refine WK.reg 100 Tryz.ntmps157 (by kernel_rfl) ?_
 intro A hA Q hQ
 simp
 refine hQ _ _ ?_
 clear hQ hA
 repeat (apply WK.seq)
 refine WK.reg 200 Tryz.ntmps157 (by kernel_rfl) ?_
 intro A hA Q hQ
 simp
 refine hQ _ _ ?_
 clear hQ hA
 refine WK.ret Tryz.func157 (by simp (maxDischargeDepth := 120) [Tryz.results157]) (by simp)
theorem msame_c (l m : List Oxm) (hl : l.length ≤ 1000000) : FnP Tryz.prog 60 [oxmS l, oxmS m] (.bool (eqBy (· == ·) l m)) := by
 refine FnP.intro Tryz.func60 rfl rfl fun G w => ?_
 repeat (first | apply WK.seq | apply WK.block | apply WK.inBlock | apply WK.skip | apply WK.label | apply WK.scope | apply WK.inScope | refine WK.exit rfl ?_)
 first | refine WK.reg 100 Tryz.ntmps60 (by kernel_rfl) ?_ | refine WK.regD 100 clsOf (by kernel_rfl) Tryz.ntmps60 (by kernel_rfl) (by kernel_rfl) ?_
 intro A hA Q hQ
 simp
 refine hQ _ _ ?_
 clear hQ hA
 repeat (first | apply WK.seq | apply WK.block | apply WK.inBlock | apply WK.skip | apply WK.label | apply WK.scope | apply WK.inScope | refine WK.exit rfl ?_)
 first | refine WK.reg 200 Tryz.ntmps60 (by kernel_rfl) ?_ | refine WK.regD 200 clsOf (by kernel_rfl) Tryz.ntmps60 (by kernel_rfl) (by kernel_rfl) ?_
 intro A hA Q hQ
 simp
 refine RunQ.call rfl rfl rfl rfl (by rfl) (by simp (maxDischargeDepth := 120) [oxmS]) (eqf_oxm 93 [] (· == ·) l m rfl hl (fun x _ y _ => osame_c x y)) (by simp [oxmS]) ?_
 refine RunQ.eval ?_
 simp [oxmS]
 refine hQ _ _ ?_
 clear hQ hA
 repeat (first | apply WK.seq | apply WK.block | apply WK.inBlock | apply WK.skip | apply WK.label | apply WK.scope | apply WK.inScope | refine WK.exit rfl ?_)
 refine WK.ret Tryz.func60 (by simp (maxDischargeDepth := 120) [Tryz.results60]) (by simp)
theorem acsame_c (l m : List Action) (hl : l.length ≤ 1000000) : FnP Tryz.prog 126 [actS l, actS m] (.bool (eqBy (· == ·) l m)) := by
 refine FnP.intro Tryz.func126 rfl rfl fun G w => ?_
 repeat (apply WK.seq)
 refine WK.reg 100 Tryz.ntmps126 (by kernel_rfl) ?_
 intro A hA Q hQ
 simp
 refine hQ _ _ ?_
 clear hQ hA
 repeat (apply WK.seq)
 refine WK.reg 200 Tryz.ntmps126 (by kernel_rfl) ?_
 intro A hA Q hQ
 simp
 refine RunQ.call rfl rfl rfl rfl (by rfl) (by simp (maxDischargeDepth := 120) [actS]) (eqf_act 157 [] (· == ·) l m rfl hl (fun x _ y _ => asame_c x y)) (by simp [actS]) ?_
 refine RunQ.eval ?_
 simp [actS]
 refine hQ _ _ ?_
 clear hQ hA
 refine WK.ret Tryz.func126 (by simp (maxDischargeDepth := 120) [Tryz.results126]) (by simp)
def Inst.same (a b : Inst) : Bool := a.kind == b.kind && a.table == b.table && a.value == b.value && a.mask == b.mask && eqBy (· == ·) a.acts b.acts
theorem isame_c (a b : Inst) (hl : a.acts.length ≤ 1000000) : FnP Tryz.prog 95 [.agg a.enc, .agg b.enc] (.bool (Inst.same a b)) := by
 have w1 := Wide.beq a.value b.value
 have w2 := Wide.beq a.mask b.mask
 cases k1 : a.kind == b.kind
 · refine FnP.intro Tryz.func95 rfl rfl fun G w => ?_
   repeat (apply WK.seq)
   refine WK.reg 100 Tryz.ntmps95 (by kernel_rfl) ?_
   intro A hA Q hQ
   simp
   refine hQ _ _ ?_
   clear hQ hA
   repeat (apply WK.seq)
   refine WK.reg 200 Tryz.ntmps95 (by kernel_rfl) ?_
   intro A hA Q hQ
   have hg5 : (A[5]?).bind (·.dst) = some 10 := by rw [hA]; rfl
   have hg12 : (A[12]?).bind (·.dst) = some 17 := by rw [hA]; rfl
   have hg19 : (A[19]?).bind (·.dst) = some 24 := by rw [hA]; rfl
   have hg26 : (A[26]?).bind (·.dst) = some 31 := by rw [hA]; rfl
   simp [Inst.enc, k1, hg5, hg12, hg19, hg26]
   refine hQ _ _ ?_
   clear hQ hA
   refine WK.ret Tryz.func95 (by simp (maxDischargeDepth := 120) [Tryz.results95, Inst.same, k1]) (by simp [Inst.same, k1])
 cases k2 : a.table == b.table
 · refine FnP.intro Tryz.func95 rfl rfl fun G w => ?_
   repeat (apply WK.seq)
   refine WK.reg 100 Tryz.ntmps95 (by kernel_rfl) ?_
   intro A hA Q hQ
   simp
   refine hQ _ _ ?_
   clear hQ hA
   repeat (apply WK.seq)
   refine WK.reg 200 Tryz.ntmps95 (by kernel_rfl) ?_
   intro A hA Q hQ
   have hg5 : (A[5]?).bind (·.dst) = some 10 := by rw [hA]; rfl
   have hg12 : (A[12]?).bind (·.dst) = some 17 := by rw [hA]; rfl
   have hg19 : (A[19]?).bind (·.dst) = some 24 := by rw [hA]; rfl
   have hg26 : (A[26]?).bind (·.dst) = some 31 := by rw [hA]; rfl
   simp [Inst.enc, k1, k2, hg5, hg12, hg19, hg26]
   refine hQ _ _ ?_
   clear hQ hA
   refine WK.ret Tryz.func95 (by simp (maxDischargeDepth := 120) [Tryz.results95, Inst.same, k1, k2]) (by simp [Inst.same, k1, k2])
 cases k3 : a.value == b.value
 · rw [k3] at w1
   refine FnP.intro Tryz.func95 rfl rfl fun G w => ?_
   repeat (apply WK.seq)
   refine WK.reg 100 Tryz.ntmps95 (by kernel_rfl) ?_
   intro A hA Q hQ
   simp
   refine hQ _ _ ?_
   clear hQ hA
   repeat (apply WK.seq)
   refine WK.reg 200 Tryz.ntmps95 (by kernel_rfl) ?_
   intro A hA Q hQ
   have hg5 : (A[5]?).bind (·.dst) = some 10 := by rw [hA]; rfl
   have hg12 : (A[12]?).bind (·.dst) = some 17 := by rw [hA]; rfl
   have hg19 : (A[19]?).bind (·.dst) = some 24 := by rw [hA]; rfl
   have hg26 : (A[26]?).bind (·.dst) = some 31 := by rw [hA]; rfl
   simp [Inst.enc, k1, k2, ← w1, hg5, hg12, hg19, hg26]
   refine hQ _ _ ?_
   clear hQ hA
   refine WK.ret Tryz.func95 (by simp (maxDischargeDepth := 120) [Tryz.results95, Inst.same, k1, k2, k3]) (by simp [Inst.same, k1, k2, k3])
 rw [k3] at w1
 cases k4 : a.mask == b.mask
 · rw [k4] at w2
   refine FnP.intro Tryz.func95 rfl rfl fun G w => ?_
   repeat (apply WK.seq)
   refine WK.reg 100 Tryz.ntmps95 (by kernel_rfl) ?_
   intro A hA Q hQ
   simp
   refine hQ _ _ ?_
   clear hQ hA
   repeat (apply WK.seq)
   refine WK.reg 200 Tryz.ntmps95 (by kernel_rfl) ?_
   intro A hA Q hQ
   have hg5 : (A[5]?).bind (·.dst) = some 10 := by rw [hA]; rfl
   have hg12 : (A[12]?).bind (·.dst) = some 17 := by rw [hA]; rfl
   have hg19 : (A[19]?).bind (·.dst) = some 24 := by rw [hA]; rfl
   have hg26 : (A[26]?).bind (·.dst) = some 31 := by rw [hA]; rfl
   simp [Inst.enc, k1, k2, ← w1, ← w2, hg5, hg12, hg19, hg26]
   refine hQ _ _ ?_
   clear hQ hA
   refine WK.ret Tryz.func95 (by simp (maxDischargeDepth := 120) [Tryz.results95, Inst.same, k1, k2, k3, k4]) (by simp [Inst.same, k1, k2, k3, k4])
 rw [k4] at w2
 refine FnP.intro Tryz.func95 rfl rfl fun G w => ?_
 repeat (apply WK.seq)
 refine WK.reg 100 Tryz.ntmps95 (by kernel_rfl) ?_
 intro A hA Q hQ
 simp
 refine hQ _ _ ?_
 clear hQ hA
 repeat (apply WK.seq)
 refine WK.reg 200 Tryz.ntmps95 (by kernel_rfl) ?_
 intro A hA Q hQ
 have hg5 : (A[5]?).bind (·.dst) = some 10 := by rw [hA]; rfl
 have hg12 : (A[12]?).bind (·.dst) = some 17 := by rw [hA]; rfl
 have hg19 : (A[19]?).bind (·.dst) = some 24 := by rw [hA]; rfl
 have hg26 : (A[26]?).bind (·.dst) = some 31 := by rw [hA]; rfl
 simp [Inst.enc, k1, k2, ← w1, ← w2, hg5, hg12, hg19, hg26]
 refine RunQ.callG rfl rfl (by simp [hg26, actS]) rfl (by rfl) (by simp (maxDischargeDepth := 120) [hg26, actS]) (acsame_c a.acts b.acts hl) (by simp [hg26, actS]) ?_
 refine RunQ.eval ?_
 simp [hg26, actS]
 refine hQ _ _ ?_
 clear hQ hA
 refine WK.ret Tryz.func95 (by simp (maxDischargeDepth := 120) [Tryz.results95, Inst.same, k1, k2, k3, k4]) (by simp [Inst.same, k1, k2, k3, k4])
theorem insame_c (l m : List Inst) (hl : l.length ≤ 1000000) (ha : ∀ x, x ∈ l → x.acts.length ≤ 1000000) : FnP Tryz.prog 61 [instS l, instS m] (.bool (eqBy Inst.same l m)) := by
 refine FnP.intro Tryz.func61 rfl rfl fun G w => ?_
 repeat (apply WK.seq)
 refine WK.reg 100 Tryz.ntmps61 (by kernel_rfl) ?_
 intro A hA Q hQ
 simp
 refine hQ _ _ ?_
 clear hQ hA
 repeat (apply WK.seq)
 refine WK.reg 200 Tryz.ntmps61 (by kernel_rfl) ?_
 intro A hA Q hQ
 simp
 refine RunQ.call rfl rfl rfl rfl (by rfl) (by simp (maxDischargeDepth := 120) [instS]) (eqf_inst 95 [] Inst.same l m rfl hl (fun x hx y _ => isame_c x y (ha x hx))) (by simp [instS]) ?_
 refine RunQ.eval ?_
 simp [instS]
 refine hQ _ _ ?_
 clear hQ hA
 refine WK.ret Tryz.func61 (by simp (maxDischargeDepth := 120) [Tryz.results61]) (by simp)
end Go.Proofs.YtcccfbjkcahgfaaGreat
