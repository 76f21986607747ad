/- The facts of the types of the program that the claim is about: how many cells and bytes a value has, which parts, which zero value, and which values are compared cell by cell. -/
import Derived.Test.YtmhapglejjehbaaGreatProg
import Derived.Test.YtmhapglejjehbaaGreatDa
import Derived.Test.YtmhapglejjehbaaGreatRows
import Derived.Test.YtmhapglejjehbaaGreatAf
set_option linter.all false
set_option linter.unnecessarySimpa false
namespace Go.Proofs.YtmhapglejjehbaaGreat
open Go Go.AI Go.Proofs
@[simp] theorem td3 : td Tryz.prog 3 = .int .i64 := by kernel_rfl
@[simp] theorem sz3 : sz Tryz.prog 3 = 1 := by kernel_rfl
@[simp] theorem byt3 : byt Tryz.prog 3 = 8 := by kernel_rfl
@[simp] theorem zr3 : zr Tryz.prog 3 = .int .i64 0 := by kernel_rfl
@[simp] theorem td4 : td Tryz.prog 4 = .bool := by kernel_rfl
@[simp] theorem sz4 : sz Tryz.prog 4 = 1 := by kernel_rfl
@[simp] theorem byt4 : byt Tryz.prog 4 = 1 := by kernel_rfl
@[simp] theorem zr4 : zr Tryz.prog 4 = .bool false := by kernel_rfl
@[simp] theorem td5 : td Tryz.prog 5 = .int .u8 := by kernel_rfl
@[simp] theorem sz5 : sz Tryz.prog 5 = 1 := by kernel_rfl
@[simp] theorem byt5 : byt Tryz.prog 5 = 1 := by kernel_rfl
@[simp] theorem zr5 : zr Tryz.prog 5 = .int .u8 0 := by kernel_rfl
@[simp] theorem td9 : td Tryz.prog 9 = .string := by kernel_rfl
@[simp] theorem sz9 : sz Tryz.prog 9 = 1 := by kernel_rfl
@[simp] theorem td22 : td Tryz.prog 22 = .slice 46 := by kernel_rfl
@[simp] theorem sz22 : sz Tryz.prog 22 = 1 := by kernel_rfl
@[simp] theorem td23 : td Tryz.prog 23 = .slice 39 := by kernel_rfl
@[simp] theorem sz23 : sz Tryz.prog 23 = 1 := by kernel_rfl
@[simp] theorem td25 : td Tryz.prog 25 = .struct [(0, 22), (1, 23)] := by kernel_rfl
@[simp] theorem sz25 : sz Tryz.prog 25 = 2 := by kernel_rfl
@[simp] theorem zr25 : zr Tryz.prog 25 = .agg ([.sl true 0 [], .sl true 0 []]) := by kernel_rfl
@[simp] theorem td31 : td Tryz.prog 31 = .slice 55 := by kernel_rfl
@[simp] theorem sz31 : sz Tryz.prog 31 = 1 := by kernel_rfl
@[simp] theorem td34 : td Tryz.prog 34 = .slice 3 := by kernel_rfl
@[simp] theorem td39 : td Tryz.prog 39 = .struct [(0, 3), (1, 3), (2, 3), (3, 3)] := by kernel_rfl
@[simp] theorem sz39 : sz Tryz.prog 39 = 4 := by kernel_rfl
@[simp] theorem zr39 : zr Tryz.prog 39 = .agg ([.int .i64 0, .int .i64 0, .int .i64 0, .int .i64 0]) := by kernel_rfl
@[simp] theorem td43 : td Tryz.prog 43 = .slice 82 := by kernel_rfl
@[simp] theorem sz43 : sz Tryz.prog 43 = 1 := by kernel_rfl
@[simp] theorem td44 : td Tryz.prog 44 = .array 4 43 := by kernel_rfl
@[simp] theorem sz44 : sz Tryz.prog 44 = 4 := by kernel_rfl
@[simp] theorem td46 : td Tryz.prog 46 = .struct [(0, 44), (4, 31)] := by kernel_rfl
@[simp] theorem sz46 : sz Tryz.prog 46 = 5 := by kernel_rfl
@[simp] theorem byt46 : byt Tryz.prog 46 = 120 := by kernel_rfl
@[simp] theorem zr46 : zr Tryz.prog 46 = .agg ([.sl true 0 [], .sl true 0 [], .sl true 0 [], .sl true 0 [], .sl true 0 []]) := by kernel_rfl
@[simp] theorem td53 : td Tryz.prog 53 = .slice 98 := by kernel_rfl
@[simp] theorem sz53 : sz Tryz.prog 53 = 1 := by kernel_rfl
@[simp] theorem td55 : td Tryz.prog 55 = .struct [(0, 3), (1, 3), (2, 53)] := by kernel_rfl
@[simp] theorem sz55 : sz Tryz.prog 55 = 3 := by kernel_rfl
@[simp] theorem byt55 : byt Tryz.prog 55 = 40 := by kernel_rfl
@[simp] theorem zr55 : zr Tryz.prog 55 = .agg ([.int .i64 0, .int .i64 0, .sl true 0 []]) := by kernel_rfl
@[simp] theorem td59 : td Tryz.prog 59 = .other := by kernel_rfl
@[simp] theorem sz59 : sz Tryz.prog 59 = 1 := by kernel_rfl
@[simp] theorem td67 : td Tryz.prog 67 = .struct [(0, 3), (1, 3)] := by kernel_rfl
@[simp] theorem sz67 : sz Tryz.prog 67 = 2 := by kernel_rfl
@[simp] theorem zr67 : zr Tryz.prog 67 = .agg ([.int .i64 0, .int .i64 0]) := by kernel_rfl
@[simp] theorem fl67 : flatT Tryz.prog 67 = some ([false, false]) := by kernel_rfl
@[simp] theorem td68 : td Tryz.prog 68 = .slice 5 := by kernel_rfl
@[simp] theorem td69 : td Tryz.prog 69 = .int .i64 := by kernel_rfl
@[simp] theorem td75 : td Tryz.prog 75 = .ptr 77 := by kernel_rfl
@[simp] theorem sz75 : sz Tryz.prog 75 = 1 := by kernel_rfl
@[simp] theorem zr75 : zr Tryz.prog 75 = .nilp := by kernel_rfl
@[simp] theorem td77 : td Tryz.prog 77 = .struct [(0, 46)] := by kernel_rfl
@[simp] theorem zr77 : zr Tryz.prog 77 = .agg ([.sl true 0 [], .sl true 0 [], .sl true 0 [], .sl true 0 [], .sl true 0 []]) := by kernel_rfl
@[simp] theorem td78 : td Tryz.prog 78 = .int .u64 := by kernel_rfl
@[simp] theorem sz78 : sz Tryz.prog 78 = 1 := by kernel_rfl
@[simp] theorem zr78 : zr Tryz.prog 78 = .int .u64 0 := by kernel_rfl
@[simp] theorem td79 : td Tryz.prog 79 = .slice 134 := by kernel_rfl
@[simp] theorem sz79 : sz Tryz.prog 79 = 1 := by kernel_rfl
@[simp] theorem td80 : td Tryz.prog 80 = .slice 126 := by kernel_rfl
@[simp] theorem sz80 : sz Tryz.prog 80 = 1 := by kernel_rfl
@[simp] theorem td82 : td Tryz.prog 82 = .struct [(0, 78), (1, 3), (2, 3), (3, 3), (4, 3), (5, 79), (6, 80)] := by kernel_rfl
@[simp] theorem sz82 : sz Tryz.prog 82 = 7 := by kernel_rfl
@[simp] theorem zr82 : zr Tryz.prog 82 = .agg ([.int .u64 0, .int .i64 0, .int .i64 0, .int .i64 0, .int .i64 0, .sl true 0 [], .sl true 0 []]) := by kernel_rfl
@[simp] theorem td85 : td Tryz.prog 85 = .struct [(0, 78), (1, 78), (2, 3), (3, 3), (4, 3), (5, 3), (6, 3), (7, 3), (8, 3), (9, 3), (10, 3), (11, 79), (12, 80)] := by kernel_rfl
@[simp] theorem sz85 : sz Tryz.prog 85 = 13 := by kernel_rfl
@[simp] theorem zr85 : zr Tryz.prog 85 = .agg ([.int .u64 0, .int .u64 0, .int .i64 0, .int .i64 0, .int .i64 0, .int .i64 0, .int .i64 0, .int .i64 0, .int .i64 0, .int .i64 0, .int .i64 0, .sl true 0 [], .sl true 0 []]) := by kernel_rfl
@[simp] theorem td88 : td Tryz.prog 88 = .iface false := by kernel_rfl
@[simp] theorem td94 : td Tryz.prog 94 = .struct [(0, 4), (1, 3), (2, 3)] := by kernel_rfl
@[simp] theorem sz94 : sz Tryz.prog 94 = 3 := by kernel_rfl
@[simp] theorem zr94 : zr Tryz.prog 94 = .agg ([.bool false, .int .i64 0, .int .i64 0]) := by kernel_rfl
@[simp] theorem td96 : td Tryz.prog 96 = .slice 136 := by kernel_rfl
@[simp] theorem sz96 : sz Tryz.prog 96 = 1 := by kernel_rfl
@[simp] theorem td98 : td Tryz.prog 98 = .struct [(0, 3), (1, 3), (2, 3), (3, 96)] := by kernel_rfl
@[simp] theorem sz98 : sz Tryz.prog 98 = 4 := by kernel_rfl
@[simp] theorem byt98 : byt Tryz.prog 98 = 48 := by kernel_rfl
@[simp] theorem zr98 : zr Tryz.prog 98 = .agg ([.int .i64 0, .int .i64 0, .int .i64 0, .sl true 0 []]) := by kernel_rfl
@[simp] theorem td104 : td Tryz.prog 104 = .int .u64 := by kernel_rfl
@[simp] theorem td115 : td Tryz.prog 115 = .struct [(0, 85)] := by kernel_rfl
@[simp] theorem zr115 : zr Tryz.prog 115 = .agg ([.int .u64 0, .int .u64 0, .int .i64 0, .int .i64 0, .int .i64 0, .int .i64 0, .int .i64 0, .int .i64 0, .int .i64 0, .int .i64 0, .int .i64 0, .sl true 0 [], .sl true 0 []]) := by kernel_rfl
@[simp] theorem td116 : td Tryz.prog 116 = .array 9 3 := by kernel_rfl
@[simp] theorem sz116 : sz Tryz.prog 116 = 9 := by kernel_rfl
@[simp] theorem zr116 : zr Tryz.prog 116 = .agg ([.int .i64 0, .int .i64 0, .int .i64 0, .int .i64 0, .int .i64 0, .int .i64 0, .int .i64 0, .int .i64 0, .int .i64 0]) := by kernel_rfl
@[simp] theorem td124 : td Tryz.prog 124 = .struct [(0, 78), (1, 78)] := by kernel_rfl
@[simp] theorem sz124 : sz Tryz.prog 124 = 2 := by kernel_rfl
@[simp] theorem byt124 : byt Tryz.prog 124 = 16 := by kernel_rfl
@[simp] theorem zr124 : zr Tryz.prog 124 = .agg ([.int .u64 0, .int .u64 0]) := by kernel_rfl
@[simp] theorem fl124 : flatT Tryz.prog 124 = some ([false, false]) := by kernel_rfl
@[simp] theorem td126 : td Tryz.prog 126 = .struct [(0, 3), (1, 3), (2, 124), (4, 124), (6, 96)] := by kernel_rfl
@[simp] theorem sz126 : sz Tryz.prog 126 = 7 := by kernel_rfl
@[simp] theorem byt126 : byt Tryz.prog 126 = 72 := by kernel_rfl
@[simp] theorem zr126 : zr Tryz.prog 126 = .agg ([.int .i64 0, .int .i64 0, .int .u64 0, .int .u64 0, .int .u64 0, .int .u64 0, .sl true 0 []]) := by kernel_rfl
@[simp] theorem td134 : td Tryz.prog 134 = .struct [(0, 3), (1, 4), (2, 124), (4, 124)] := by kernel_rfl
@[simp] theorem sz134 : sz Tryz.prog 134 = 6 := by kernel_rfl
@[simp] theorem byt134 : byt Tryz.prog 134 = 48 := by kernel_rfl
@[simp] theorem zr134 : zr Tryz.prog 134 = .agg ([.int .i64 0, .bool false, .int .u64 0, .int .u64 0, .int .u64 0, .int .u64 0]) := by kernel_rfl
@[simp] theorem td136 : td Tryz.prog 136 = .struct [(0, 3), (1, 3), (2, 3), (3, 3), (4, 3), (5, 134)] := by kernel_rfl
@[simp] theorem sz136 : sz Tryz.prog 136 = 11 := by kernel_rfl
@[simp] theorem byt136 : byt Tryz.prog 136 = 88 := by kernel_rfl
@[simp] theorem zr136 : zr Tryz.prog 136 = .agg ([.int .i64 0, .int .i64 0, .int .i64 0, .int .i64 0, .int .i64 0, .int .i64 0, .bool false, .int .u64 0, .int .u64 0, .int .u64 0, .int .u64 0]) := by kernel_rfl
@[simp] theorem fl136 : flatT Tryz.prog 136 = some ([false, false, false, false, false, false, true, false, false, false, false]) := by kernel_rfl
@[simp] theorem td153 : td Tryz.prog 153 = .array 4 5 := by kernel_rfl
@[simp] theorem zr153 : zr Tryz.prog 153 = .agg ([.int .u8 0, .int .u8 0, .int .u8 0, .int .u8 0]) := by kernel_rfl
@[simp] theorem td156 : td Tryz.prog 156 = .struct [(0, 31), (1, 59)] := by kernel_rfl
@[simp] theorem zr156 : zr Tryz.prog 156 = .agg ([.sl true 0 [], .junk]) := by kernel_rfl
@[simp] theorem td172 : td Tryz.prog 172 = .struct [(0, 94)] := by kernel_rfl
@[simp] theorem zr172 : zr Tryz.prog 172 = .agg ([.bool false, .int .i64 0, .int .i64 0]) := by kernel_rfl
@[simp] theorem td176 : td Tryz.prog 176 = .struct [(0, 124), (2, 124)] := by kernel_rfl
@[simp] theorem sz176 : sz Tryz.prog 176 = 4 := by kernel_rfl
@[simp] theorem zr176 : zr Tryz.prog 176 = .agg ([.int .u64 0, .int .u64 0, .int .u64 0, .int .u64 0]) := by kernel_rfl
@[simp] theorem td178 : td Tryz.prog 178 = .array 24 176 := by kernel_rfl
@[simp] theorem sz178 : sz Tryz.prog 178 = 96 := by kernel_rfl
@[simp] theorem zr178 : zr Tryz.prog 178 = .agg (repl 96 (.int .u64 0)) := by kernel_rfl
@[simp] theorem fl178 : flatT Tryz.prog 178 = some (repl 96 (false)) := by kernel_rfl
@[simp] theorem td180 : td Tryz.prog 180 = .struct [(0, 3), (1, 178)] := by kernel_rfl
@[simp] theorem sz180 : sz Tryz.prog 180 = 97 := by kernel_rfl
@[simp] theorem zr180 : zr Tryz.prog 180 = .agg (.int .i64 0 :: repl 96 (.int .u64 0)) := by kernel_rfl
@[simp] theorem fl180 : flatT Tryz.prog 180 = some (repl 97 (false)) := by kernel_rfl
@[simp] theorem td186 : td Tryz.prog 186 = .slice 4 := by kernel_rfl
@[simp] theorem td214 : td Tryz.prog 214 = .slice 218 := by kernel_rfl
@[simp] theorem td216 : td Tryz.prog 216 = .slice 124 := by kernel_rfl
@[simp] theorem sz216 : sz Tryz.prog 216 = 1 := by kernel_rfl
@[simp] theorem td218 : td Tryz.prog 218 = .struct [(0, 3), (1, 216)] := by kernel_rfl
@[simp] theorem sz218 : sz Tryz.prog 218 = 2 := by kernel_rfl
@[simp] theorem byt218 : byt Tryz.prog 218 = 32 := by kernel_rfl
@[simp] theorem zr218 : zr Tryz.prog 218 = .agg ([.int .i64 0, .sl true 0 []]) := by kernel_rfl
@[simp] theorem td230 : td Tryz.prog 230 = .struct [(0, 9), (1, 3), (2, 3), (3, 4)] := by kernel_rfl
@[simp] theorem sz230 : sz Tryz.prog 230 = 4 := by kernel_rfl
@[simp] theorem zr230 : zr Tryz.prog 230 = .agg ([.str ByteArray.empty, .int .i64 0, .int .i64 0, .bool false]) := by kernel_rfl
@[simp] theorem td232 : td Tryz.prog 232 = .array 16 5 := by kernel_rfl
@[simp] theorem zr232 : zr Tryz.prog 232 = .agg ([.int .u8 0, .int .u8 0, .int .u8 0, .int .u8 0, .int .u8 0, .int .u8 0, .int .u8 0, .int .u8 0, .int .u8 0, .int .u8 0, .int .u8 0, .int .u8 0, .int .u8 0, .int .u8 0, .int .u8 0, .int .u8 0]) := by kernel_rfl
@[simp] theorem td245 : td Tryz.prog 245 = .slice 78 := by kernel_rfl
@[simp] theorem td247 : td Tryz.prog 247 = .array 24 230 := by kernel_rfl
@[simp] theorem sz247 : sz Tryz.prog 247 = 96 := by kernel_rfl
@[simp] theorem zr247 : zr Tryz.prog 247 = .agg ([.str ByteArray.empty, .int .i64 0, .int .i64 0, .bool false, .str ByteArray.empty, .int .i64 0, .int .i64 0, .bool false, .str ByteArray.empty, .int .i64 0, .int .i64 0, .bool false, .str ByteArray.empty, .int .i64 0, .int .i64 0, .bool false, .str ByteArray.empty, .int .i64 0, .int .i64 0, .bool false, .str ByteArray.empty, .int .i64 0, .int .i64 0, .bool false, .str ByteArray.empty, .int .i64 0, .int .i64 0, .bool false, .str ByteArray.empty, .int .i64 0, .int .i64 0, .bool false, .str ByteArray.empty, .int .i64 0, .int .i64 0, .bool false, .str ByteArray.empty, .int .i64 0, .int .i64 0, .bool false, .str ByteArray.empty, .int .i64 0, .int .i64 0, .bool false, .str ByteArray.empty, .int .i64 0, .int .i64 0, .bool false, .str ByteArray.empty, .int .i64 0, .int .i64 0, .bool false, .str ByteArray.empty, .int .i64 0, .int .i64 0, .bool false, .str ByteArray.empty, .int .i64 0, .int .i64 0, .bool false, .str ByteArray.empty, .int .i64 0, .int .i64 0, .bool false, .str ByteArray.empty, .int .i64 0, .int .i64 0, .bool false, .str ByteArray.empty, .int .i64 0, .int .i64 0, .bool false, .str ByteArray.empty, .int .i64 0, .int .i64 0, .bool false, .str ByteArray.empty, .int .i64 0, .int .i64 0, .bool false, .str ByteArray.empty, .int .i64 0, .int .i64 0, .bool false, .str ByteArray.empty, .int .i64 0, .int .i64 0, .bool false, .str ByteArray.empty, .int .i64 0, .int .i64 0, .bool false, .str ByteArray.empty, .int .i64 0, .int .i64 0, .bool false]) := by kernel_rfl
end Go.Proofs.YtmhapglejjehbaaGreat

section
set_option maxRecDepth 4000
namespace Go.Proofs.YtmhapglejjehbaaGreat
open Go Go.AI Go.Proofs
theorem cellsOf_sz (t : TypeId) : Tryz.prog.cellsOf t = sz Tryz.prog t := rfl
section
variable {H : Type} {enc : TypeId × Value → H} {w : World} {sp : Nat → Bool} {held : Bool}
theorem rdWide : Rd enc Tryz.prog w sp held 124 Wide.enc := by
 intro fuel cs x h
 obtain ⟨hl, fuel', hf⟩ := trod_struct Tryz.underlying124 h
 simp only [cellsOf_sz, sz124] at hl
 simp only [List.mem_cons, List.not_mem_nil, or_false, forall_eq_or_imp, forall_eq, cellsOf_sz, sz78] at hf
 match cs, hl, hf with
 | [c0, c1], _, ⟨⟨y0, h0⟩, ⟨y1, h1⟩⟩ =>
   obtain ⟨b0, e0⟩ := rd_u64 Tryz.underlying78 h0
   obtain ⟨b1, e1⟩ := rd_u64 Tryz.underlying78 h1
   simp at e0 e1
   subst e0 e1
   exact ⟨⟨b0, b1⟩, by simp [Wide.enc, RelL, Rel], by simp [Ones, Value.oneCell']⟩
theorem rdOxm : Rd enc Tryz.prog w sp held 134 Oxm.enc := by
 intro fuel cs x h
 obtain ⟨hl, fuel', hf⟩ := trod_struct Tryz.underlying134 h
 simp only [cellsOf_sz, sz134] at hl
 simp only [List.mem_cons, List.not_mem_nil, or_false, forall_eq_or_imp, forall_eq, cellsOf_sz, sz124, sz3, sz4] at hf
 match cs, hl, hf with
 | [c0, c1, c2, c3, c4, c5], _, ⟨⟨y0, h0⟩, ⟨y1, h1⟩, ⟨y2, h2⟩, ⟨y3, h3⟩⟩ =>
   obtain ⟨n, e0⟩ := rd_int Tryz.underlying3 h0
   obtain ⟨b, e1⟩ := trod_bool Tryz.underlying4 h1
   obtain ⟨v, r2, o2⟩ := rdWide fuel' _ y2 h2
   obtain ⟨m, r3, o3⟩ := rdWide fuel' _ y3 h3
   simp at e0 e1
   subst e0 e1
   exact ⟨⟨n, b, v, m⟩, RelL.cons (by simp [Rel]) (RelL.cons (by simp [Rel]) (r2.append r3)), (Ones.append (vs := [_, _]) (by simp [Ones, Value.oneCell']) (o2.append o3))⟩
theorem rdAction : Rd enc Tryz.prog w sp held 136 Action.enc := by
 intro fuel cs x h
 obtain ⟨hl, fuel', hf⟩ := trod_struct Tryz.underlying136 h
 simp only [cellsOf_sz, sz136] at hl
 simp only [List.mem_cons, List.not_mem_nil, or_false, forall_eq_or_imp, forall_eq, cellsOf_sz, sz134, sz3] at hf
 match cs, hl, hf with
 | [c0, c1, c2, c3, c4, c5, c6, c7, c8, c9, c10], _, ⟨⟨y0, h0⟩, ⟨y1, h1⟩, ⟨y2, h2⟩, ⟨y3, h3⟩, ⟨y4, h4⟩, ⟨y5, h5⟩⟩ =>
   obtain ⟨n0, e0⟩ := rd_int Tryz.underlying3 h0
   obtain ⟨n1, e1⟩ := rd_int Tryz.underlying3 h1
   obtain ⟨n2, e2⟩ := rd_int Tryz.underlying3 h2
   obtain ⟨n3, e3⟩ := rd_int Tryz.underlying3 h3
   obtain ⟨n4, e4⟩ := rd_int Tryz.underlying3 h4
   obtain ⟨o, r5, o5⟩ := rdOxm fuel' _ y5 h5
   simp at e0 e1 e2 e3 e4
   subst e0 e1 e2 e3 e4
   exact ⟨⟨n0, n1, n2, n3, n4, o⟩, RelL.cons (by simp [Rel]) (RelL.cons (by simp [Rel]) (RelL.cons (by simp [Rel]) (RelL.cons (by simp [Rel]) (RelL.cons (by simp [Rel]) r5)))), (Ones.append (vs := [_, _, _, _, _]) (by simp [Ones, Value.oneCell']) o5)⟩
theorem one_of_sl {f : Bool} {n : Nat} {cs : List AV} {E : Env} {G : Heap} {v : Value} (h : Rel E G (.sl f n cs) v) : v.oneCell' = true := by
 simp only [Rel] at h
 rcases h with ⟨a, cap, rfl, _⟩ | ⟨_, _, _, _, rfl, _⟩ <;> rfl
theorem rdInst : Rd enc Tryz.prog w sp held 126 Inst.enc := by
 intro fuel cs x h
 obtain ⟨hl, fuel', hf⟩ := trod_struct Tryz.underlying126 h
 simp only [cellsOf_sz, sz126] at hl
 simp only [List.mem_cons, List.not_mem_nil, or_false, forall_eq_or_imp, forall_eq, cellsOf_sz, sz124, sz3, sz96] at hf
 match cs, hl, hf with
 | [c0, c1, c2, c3, c4, c5, c6], _, ⟨⟨y0, h0⟩, ⟨y1, h1⟩, ⟨y2, h2⟩, ⟨y3, h3⟩, ⟨y4, h4⟩⟩ =>
   obtain ⟨n0, e0⟩ := rd_int Tryz.underlying3 h0
   obtain ⟨n1, e1⟩ := rd_int Tryz.underlying3 h1
   obtain ⟨v, r2, o2⟩ := rdWide fuel' _ y2 h2
   obtain ⟨m, r3, o3⟩ := rdWide fuel' _ y3 h3
   obtain ⟨l, u, e4, r4⟩ := rd_slice (s := 11) (f := Action.enc) Tryz.underlying96 (by kernel_rfl) (by omega) Action.len rdAction h4
   simp at e0 e1 e4
   subst e0 e1 e4
   exact ⟨⟨n0, n1, v, m, l⟩, RelL.cons (by simp [Rel]) (RelL.cons (by simp [Rel]) (r2.append (r3.append (RelL.cons r4 RelL.nil)))),
     (Ones.append (vs := [_, _]) (by simp [Ones, Value.oneCell']) (o2.append (o3.append (Ones.single (one_of_sl r4)))))⟩
theorem rdFlow : Rd enc Tryz.prog w sp held 82 Flow.enc := by
 intro fuel cs x h
 obtain ⟨hl, fuel', hf⟩ := trod_struct Tryz.underlying82 h
 simp only [cellsOf_sz, sz82] at hl
 simp only [List.mem_cons, List.not_mem_nil, or_false, forall_eq_or_imp, forall_eq, cellsOf_sz, sz78, sz3, sz79, sz80] at hf
 match cs, hl, hf with
 | [c0, c1, c2, c3, c4, c5, c6], _, ⟨⟨y0, h0⟩, ⟨y1, h1⟩, ⟨y2, h2⟩, ⟨y3, h3⟩, ⟨y4, h4⟩, ⟨y5, h5⟩, ⟨y6, h6⟩⟩ =>
   obtain ⟨b0, e0⟩ := rd_u64 Tryz.underlying78 h0
   obtain ⟨n1, e1⟩ := rd_int Tryz.underlying3 h1
   obtain ⟨n2, e2⟩ := rd_int Tryz.underlying3 h2
   obtain ⟨n3, e3⟩ := rd_int Tryz.underlying3 h3
   obtain ⟨n4, e4⟩ := rd_int Tryz.underlying3 h4
   obtain ⟨l, u, e5, r5⟩ := rd_slice (s := 6) (f := Oxm.enc) Tryz.underlying79 (by kernel_rfl) (by omega) Oxm.len rdOxm h5
   obtain ⟨k, u', e6, r6⟩ := rd_slice (s := 7) (f := Inst.enc) Tryz.underlying80 (by kernel_rfl) (by omega) Inst.len rdInst h6
   simp at e0 e1 e2 e3 e4 e5 e6
   subst e0 e1 e2 e3 e4 e5 e6
   exact ⟨⟨b0, n1, n2, n3, n4, l, k⟩, RelL.cons (by simp [Rel]) (RelL.cons (by simp [Rel]) (RelL.cons (by simp [Rel]) (RelL.cons (by simp [Rel]) (RelL.cons (by simp [Rel]) (RelL.cons r5 (RelL.cons r6 RelL.nil)))))),
     (Ones.append (vs := [_, _, _, _, _]) (by simp [Ones, Value.oneCell']) (Ones.append (vs := [_]) (Ones.single (one_of_sl r5)) (Ones.single (one_of_sl r6))))⟩
end
end Go.Proofs.YtmhapglejjehbaaGreat
end

namespace Go.Proofs.YtmhapglejjehbaaGreat
open Go Go.AI Go.Proofs Go.Proofs.YtmhapglejjehbaaGreat
theorem law_own : ownKnob Tryz.prog.godebug = none := by kernel_rfl
theorem law_laid : laidOutB Tryz.prog = true := by kernel_rfl
def zeroCells (n : Nat) : Array Value := (List.replicate n (Value.int .u64 0)).toArray
theorem rdvInt : RdV Tryz.prog 3 (fun a => ∃ n : Int, a = .int .i64 n) := rdV_int Tryz.underlying3
end Go.Proofs.YtmhapglejjehbaaGreat

namespace Go.Proofs.YtmhapglejjehbaaGreat
open Go Go.AI Go.Proofs
theorem and_c (a b : Wide) : FnP Tryz.prog 218 [.agg a.enc, .agg b.enc] (.agg (a.and b).enc) := by
 refine FnP.i Tryz.func218 rfl rfl fun G w => ?_
 refine WK.z ?_
 first | refine WK.G 100 Tryz.ntmps218 ?_ | refine WK.D 100 Tryz.ntmps218 ?_
 intro A hA Q hQ
 simp
 apply hQ
 clear hQ hA
 refine WK.z ?_
 first | refine WK.G 200 Tryz.ntmps218 ?_ | refine WK.D 200 Tryz.ntmps218 ?_
 intro A hA Q hQ
 simp [Wide.enc]
 apply hQ
 clear hQ hA
 refine WK.z ?_
 refine WK.t Tryz.func218 (by simp (config := zd) [Tryz.results218, Wide.enc, Wide.and]) (by simp [Wide.enc, Wide.and])
theorem or_c (a b : Wide) : FnP Tryz.prog 220 [.agg a.enc, .agg b.enc] (.agg (a.or b).enc) := by
 refine FnP.i Tryz.func220 rfl rfl fun G w => ?_
 refine WK.z ?_
 first | refine WK.G 100 Tryz.ntmps220 ?_ | refine WK.D 100 Tryz.ntmps220 ?_
 intro A hA Q hQ
 simp
 apply hQ
 clear hQ hA
 refine WK.z ?_
 first | refine WK.G 200 Tryz.ntmps220 ?_ | refine WK.D 200 Tryz.ntmps220 ?_
 intro A hA Q hQ
 simp [Wide.enc]
 apply hQ
 clear hQ hA
 refine WK.z ?_
 refine WK.t Tryz.func220 (by simp (config := zd) [Tryz.results220, Wide.enc, Wide.or]) (by simp [Wide.enc, Wide.or])
theorem xor_c (a b : Wide) : FnP Tryz.prog 255 [.agg a.enc, .agg b.enc] (.agg (a.xor b).enc) := by
 refine FnP.i Tryz.func255 rfl rfl fun G w => ?_
 refine WK.z ?_
 first | refine WK.G 100 Tryz.ntmps255 ?_ | refine WK.D 100 Tryz.ntmps255 ?_
 intro A hA Q hQ
 simp
 apply hQ
 clear hQ hA
 refine WK.z ?_
 first | refine WK.G 200 Tryz.ntmps255 ?_ | refine WK.D 200 Tryz.ntmps255 ?_
 intro A hA Q hQ
 simp [Wide.enc]
 apply hQ
 clear hQ hA
 refine WK.z ?_
 refine WK.t Tryz.func255 (by simp (config := zd) [Tryz.results255, Wide.enc, Wide.xor]) (by simp [Wide.enc, Wide.xor])
theorem less_c (a b : Wide) : FnP Tryz.prog 215 [.agg a.enc, .agg b.enc] (.agg (a.less b).enc) := by
 refine FnP.i Tryz.func215 rfl rfl fun G w => ?_
 repeat apply WK.s
 refine WK.G 100 Tryz.ntmps215 ?_
 intro A hA Q hQ
 simp
 apply hQ
 clear hQ hA
 repeat apply WK.s
 refine WK.G 200 Tryz.ntmps215 ?_
 intro A hA Q hQ
 simp [Wide.enc]
 apply hQ
 clear hQ hA
 refine WK.t Tryz.func215 (by simp (config := zd) [Tryz.results215, Wide.enc, Wide.less]) (by simp [Wide.enc, Wide.less])
theorem zero_c (a : Wide) : FnP Tryz.prog 212 [.agg a.enc] (.bool a.zero) := by
 refine FnP.i Tryz.func212 rfl rfl fun G w => ?_
 repeat apply WK.s
 refine WK.G 100 Tryz.ntmps212 ?_
 intro A hA Q hQ
 simp
 apply hQ
 clear hQ hA
 repeat apply WK.s
 refine WK.G 200 Tryz.ntmps212 ?_
 intro A hA Q hQ
 simp [Wide.enc]
 apply hQ
 clear hQ hA
 refine WK.t Tryz.func212 (by simp (config := zd) [Tryz.results212, Wide.zero]) (by simp [Wide.zero])
theorem rand_c (a b : Wide) : FnP Tryz.prog 230 [.agg a.enc, .agg b.enc] (.agg (a.and b).enc) := by
 refine FnP.i Tryz.func230 rfl rfl fun G w => ?_
 refine WK.z ?_
 first | refine WK.G 100 Tryz.ntmps230 ?_ | refine WK.D 100 Tryz.ntmps230 ?_
 intro A hA Q hQ
 simp
 apply hQ
 clear hQ hA
 refine WK.z ?_
 first | refine WK.G 200 Tryz.ntmps230 ?_ | refine WK.D 200 Tryz.ntmps230 ?_
 intro A hA Q hQ
 simp [Wide.enc]
 apply hQ
 clear hQ hA
 refine WK.z ?_
 refine WK.t Tryz.func230 (by simp (config := zd) [Tryz.results230, Wide.enc, Wide.and]) (by simp [Wide.enc, Wide.and])
theorem ror_c (a b : Wide) : FnP Tryz.prog 233 [.agg a.enc, .agg b.enc] (.agg (a.or b).enc) := by
 refine FnP.i Tryz.func233 rfl rfl fun G w => ?_
 repeat apply WK.s
 refine WK.G 100 Tryz.ntmps233 ?_
 intro A hA Q hQ
 simp
 apply hQ
 clear hQ hA
 repeat apply WK.s
 refine WK.G 200 Tryz.ntmps233 ?_
 intro A hA Q hQ
 simp [Wide.enc]
 apply hQ
 clear hQ hA
 refine WK.t Tryz.func233 (by simp (config := zd) [Tryz.results233, Wide.enc, Wide.or]) (by simp [Wide.enc, Wide.or])
theorem rxor_c (a b : Wide) : FnP Tryz.prog 232 [.agg a.enc, .agg b.enc] (.agg (a.xor b).enc) := by
 refine FnP.i Tryz.func232 rfl rfl fun G w => ?_
 refine WK.z ?_
 first | refine WK.G 100 Tryz.ntmps232 ?_ | refine WK.D 100 Tryz.ntmps232 ?_
 intro A hA Q hQ
 simp
 apply hQ
 clear hQ hA
 refine WK.z ?_
 first | refine WK.G 200 Tryz.ntmps232 ?_ | refine WK.D 200 Tryz.ntmps232 ?_
 intro A hA Q hQ
 simp [Wide.enc]
 apply hQ
 clear hQ hA
 refine WK.z ?_
 refine WK.t Tryz.func232 (by simp (config := zd) [Tryz.results232, Wide.enc, Wide.xor]) (by simp [Wide.enc, Wide.xor])
theorem rless_c (a b : Wide) : FnP Tryz.prog 236 [.agg a.enc, .agg b.enc] (.agg (a.less b).enc) := by
 refine FnP.i Tryz.func236 rfl rfl fun G w => ?_
 repeat apply WK.s
 refine WK.G 100 Tryz.ntmps236 ?_
 intro A hA Q hQ
 simp
 apply hQ
 clear hQ hA
 repeat apply WK.s
 refine WK.G 200 Tryz.ntmps236 ?_
 intro A hA Q hQ
 simp [Wide.enc]
 apply hQ
 clear hQ hA
 refine WK.t Tryz.func236 (by simp (config := zd) [Tryz.results236, Wide.enc, Wide.less]) (by simp [Wide.enc, Wide.less])
theorem rzero_c (a : Wide) : FnP Tryz.prog 231 [.agg a.enc] (.bool a.zero) := by
 rw [Wide.zero_eq]
 cases hz : (a.hi == 0#64)
 all_goals
   refine FnP.i Tryz.func231 rfl rfl fun G w => ?_
   repeat apply WK.s
   refine WK.G 100 Tryz.ntmps231 ?_
   intro A hA Q hQ
   simp
   apply hQ
   clear hQ hA
   repeat apply WK.s
   refine WK.G 200 Tryz.ntmps231 ?_
   intro A hA Q hQ
   have hg3 : (A[3]?).bind (·.dst) = some 6 := by rw [hA]; rfl
   simp [Wide.enc, hz, hg3]
   apply hQ
   clear hQ hA
   refine WK.t Tryz.func231 (by simp (config := zd) [Tryz.results231]) (by simp)
theorem clean_c (t : Tern) : FnP Tryz.prog 219 [.agg t.enc] (.agg t.clean.enc) := by
 refine FnP.i Tryz.func219 rfl rfl fun G w => ?_
 refine WK.z ?_
 first | refine WK.G 100 Tryz.ntmps219 ?_ | refine WK.D 100 Tryz.ntmps219 ?_
 intro A hA Q hQ
 simp
 apply hQ
 clear hQ hA
 refine WK.z ?_
 first | refine WK.G 200 Tryz.ntmps219 ?_ | refine WK.D 200 Tryz.ntmps219 ?_
 intro A hA Q hQ
 simp [Tern.enc]
 refine RunQ.call rfl rfl rfl rfl (by rfl) (by simp (config := zd) [Wide.enc]) (and_c t.value t.mask) (by simp [Wide.enc]) ?_
 refine RunQ.eval ?_
 simp [Wide.enc]
 apply hQ
 clear hQ hA
 refine WK.z ?_
 refine WK.t Tryz.func219 (by simp (config := zd) [Tryz.results219, Tern.enc, Tern.clean]) (by simp [Tern.enc, Tern.clean])
theorem rclean_c (t : Tern) : FnP Tryz.prog 227 [.agg t.enc] (.agg t.clean.enc) := by
 refine FnP.i Tryz.func227 rfl rfl fun G w => ?_
 refine WK.z ?_
 first | refine WK.G 100 Tryz.ntmps227 ?_ | refine WK.D 100 Tryz.ntmps227 ?_
 intro A hA Q hQ
 simp
 apply hQ
 clear hQ hA
 refine WK.z ?_
 first | refine WK.G 200 Tryz.ntmps227 ?_ | refine WK.D 200 Tryz.ntmps227 ?_
 intro A hA Q hQ
 simp [Tern.enc]
 refine RunQ.call rfl rfl rfl rfl (by rfl) (by simp (config := zd) [Wide.enc]) (rand_c t.value t.mask) (by simp [Wide.enc]) ?_
 refine RunQ.eval ?_
 simp [Wide.enc]
 apply hQ
 clear hQ hA
 refine WK.z ?_
 refine WK.t Tryz.func227 (by simp (config := zd) [Tryz.results227, Tern.enc, Tern.clean]) (by simp [Tern.enc, Tern.clean])
theorem unlike_c (a b m : Wide) : FnP Tryz.prog 250 [.agg a.enc, .agg b.enc, .agg m.enc] (.agg ((a.xor b).and m).enc) := by
 refine FnP.i Tryz.func250 rfl rfl fun G w => ?_
 refine WK.z ?_
 first | refine WK.G 100 Tryz.ntmps250 ?_ | refine WK.D 100 Tryz.ntmps250 ?_
 intro A hA Q hQ
 simp
 apply hQ
 clear hQ hA
 refine WK.z ?_
 first | refine WK.G 200 Tryz.ntmps250 ?_ | refine WK.D 200 Tryz.ntmps250 ?_
 intro A hA Q hQ
 simp
 refine RunQ.call rfl rfl rfl rfl (by rfl) (by simp (config := zd)) (xor_c a b) (by simp) ?_
 refine RunQ.eval ?_
 simp
 refine RunQ.call rfl rfl rfl rfl (by rfl) (by simp (config := zd)) (and_c (a.xor b) m) (by simp) ?_
 refine RunQ.eval ?_
 simp
 apply hQ
 clear hQ hA
 refine WK.z ?_
 refine WK.t Tryz.func250 (by simp (config := zd) [Tryz.results250]) (by simp)
theorem has_c (t : Tern) (v : Wide) : FnP Tryz.prog 217 [.agg t.enc, .agg v.enc] (.bool (t.has v)) := by
 refine FnP.i Tryz.func217 rfl rfl fun G w => ?_
 refine WK.z ?_
 first | refine WK.G 100 Tryz.ntmps217 ?_ | refine WK.D 100 Tryz.ntmps217 ?_
 intro A hA Q hQ
 simp
 apply hQ
 clear hQ hA
 refine WK.z ?_
 first | refine WK.G 200 Tryz.ntmps217 ?_ | refine WK.D 200 Tryz.ntmps217 ?_
 intro A hA Q hQ
 simp [Tern.enc]
 refine RunQ.call rfl rfl rfl rfl (by rfl) (by simp (config := zd) [Wide.enc]) (unlike_c t.value v t.mask) (by simp [Wide.enc]) ?_
 refine RunQ.eval ?_
 simp [Wide.enc]
 refine RunQ.call rfl rfl rfl rfl (by rfl) (by simp (config := zd) [Wide.enc]) (zero_c ((t.value.xor v).and t.mask)) (by simp [Wide.enc]) ?_
 refine RunQ.eval ?_
 simp [Wide.enc]
 apply hQ
 clear hQ hA
 refine WK.z ?_
 refine WK.t Tryz.func217 (by simp (config := zd) [Tryz.results217, Tern.has]) (by simp [Tern.has])
theorem meet_c (a b : Tern) : FnP Tryz.prog 187 [.agg a.enc, .agg b.enc] (.tup [.agg (if a.meetOk b then a.meet b else ternZ).enc, .bool (a.meetOk b)]) := by
 refine FnP.i Tryz.func187 rfl rfl fun G w => ?_
 refine WK.z ?_
 first | refine WK.G 100 Tryz.ntmps187 ?_ | refine WK.D 100 Tryz.ntmps187 ?_
 intro A hA Q hQ
 simp
 apply hQ
 clear hQ hA
 refine WK.z ?_
 first | refine WK.G 200 Tryz.ntmps187 ?_ | refine WK.D 200 Tryz.ntmps187 ?_
 intro A hA Q hQ
 simp [Tern.enc]
 refine RunQ.call rfl rfl rfl rfl (by rfl) (by simp (config := zd) [Wide.enc]) (and_c a.mask b.mask) (by simp [Wide.enc]) ?_
 refine RunQ.eval ?_
 simp [Wide.enc]
 refine RunQ.call rfl rfl rfl rfl (by rfl) (by simp (config := zd) [Wide.enc, Tern.enc]) (has_c ⟨a.value, a.mask.and b.mask⟩ b.value) (by simp [Wide.enc, Tern.enc]) ?_
 refine RunQ.eval ?_
 simp [Wide.enc, Tern.enc]
 apply hQ
 clear hQ hA
 have e : Tern.has ⟨a.value, a.mask.and b.mask⟩ b.value = a.meetOk b := rfl
 simp only [e]
 refine WK.z ?_
 refine WK.c2 rfl (fun h => ?_) (fun h => ?_)
 · refine WK.z ?_
   first | refine WK.G 300 Tryz.ntmps187 ?_ | refine WK.D 300 Tryz.ntmps187 ?_
   intro A hA Q hQ
   simp
   apply hQ
   clear hQ hA
   simp at h
   refine WK.z ?_
   refine WK.t Tryz.func187 (by simp (config := zd) [Tryz.results187, h, Tern.enc, ternZ, wideZ, uZ_]) (by simp [h, Tern.enc, ternZ, wideZ, uZ_])
 · simp at h
   refine WK.z ?_
   first | refine WK.G 400 Tryz.ntmps187 ?_ | refine WK.D 400 Tryz.ntmps187 ?_
   intro A hA Q hQ
   simp [Tern.enc]
   refine RunQ.call rfl rfl rfl rfl (by rfl) (by simp (config := zd) [Tern.enc]) (clean_c a) (by simp [Tern.enc]) ?_
   refine RunQ.eval ?_
   simp [Tern.enc]
   refine RunQ.call rfl rfl rfl rfl (by rfl) (by simp (config := zd) [Tern.enc]) (clean_c b) (by simp [Tern.enc]) ?_
   refine RunQ.eval ?_
   simp [Tern.enc]
   apply hQ
   clear hQ hA
   refine WK.z ?_
   first | refine WK.G 500 Tryz.ntmps187 ?_ | refine WK.D 500 Tryz.ntmps187 ?_
   intro A hA Q hQ
   simp [Tern.enc]
   refine RunQ.call rfl rfl rfl rfl (by rfl) (by simp (config := zd) [Wide.enc]) (or_c a.clean.value b.clean.value) (by simp [Wide.enc]) ?_
   refine RunQ.eval ?_
   simp [Wide.enc]
   refine RunQ.call rfl rfl rfl rfl (by rfl) (by simp (config := zd) [Wide.enc, Tern.clean]) (or_c a.mask b.mask) (by simp [Wide.enc, Tern.clean]) ?_
   refine RunQ.eval ?_
   simp [Wide.enc, Tern.clean]
   apply hQ
   clear hQ hA
   refine WK.z ?_
   refine WK.t Tryz.func187 (by simp (config := zd) [Tryz.results187, h, Tern.meet, Tern.enc, Tern.clean]) (by simp [h, Tern.meet, Tern.enc, Tern.clean])
theorem rmeet_c (a b : Tern) : FnP Tryz.prog 193 [.agg a.enc, .agg b.enc] (.tup [.agg (if a.meetOk b then a.meet b else ternZ).enc, .bool (a.meetOk b)]) := by
 refine FnP.i Tryz.func193 rfl rfl fun G w => ?_
 refine WK.z ?_
 first | refine WK.G 100 Tryz.ntmps193 ?_ | refine WK.D 100 Tryz.ntmps193 ?_
 intro A hA Q hQ
 simp
 apply hQ
 clear hQ hA
 refine WK.z ?_
 first | refine WK.G 200 Tryz.ntmps193 ?_ | refine WK.D 200 Tryz.ntmps193 ?_
 intro A hA Q hQ
 simp [Tern.enc]
 refine RunQ.call rfl rfl rfl rfl (by rfl) (by simp (config := zd) [Wide.enc]) (rand_c a.mask b.mask) (by simp [Wide.enc]) ?_
 refine RunQ.eval ?_
 simp [Wide.enc]
 apply hQ
 clear hQ hA
 refine WK.z ?_
 first | refine WK.G 300 Tryz.ntmps193 ?_ | refine WK.D 300 Tryz.ntmps193 ?_
 intro A hA Q hQ
 simp [Tern.enc]
 refine RunQ.call rfl rfl rfl rfl (by rfl) (by simp (config := zd) [Wide.enc]) (rxor_c a.value b.value) (by simp [Wide.enc]) ?_
 refine RunQ.eval ?_
 simp [Wide.enc]
 refine RunQ.call rfl rfl rfl rfl (by rfl) (by simp (config := zd) [Wide.enc]) (rand_c (a.value.xor b.value) (a.mask.and b.mask)) (by simp [Wide.enc]) ?_
 refine RunQ.eval ?_
 simp [Wide.enc]
 refine RunQ.call rfl rfl rfl rfl (by rfl) (by simp (config := zd) [Wide.enc]) (rzero_c ((a.value.xor b.value).and (a.mask.and b.mask))) (by simp [Wide.enc]) ?_
 refine RunQ.eval ?_
 simp [Wide.enc]
 apply hQ
 clear hQ hA
 have e : ((a.value.xor b.value).and (a.mask.and b.mask)).zero = a.meetOk b := rfl
 simp only [e]
 refine WK.z ?_
 refine WK.c2 rfl (fun h => ?_) (fun h => ?_)
 · refine WK.z ?_
   first | refine WK.G 400 Tryz.ntmps193 ?_ | refine WK.D 400 Tryz.ntmps193 ?_
   intro A hA Q hQ
   simp
   apply hQ
   clear hQ hA
   simp at h
   refine WK.z ?_
   refine WK.t Tryz.func193 (by simp (config := zd) [Tryz.results193, h, Tern.enc, ternZ, wideZ, uZ_]) (by simp [h, Tern.enc, ternZ, wideZ, uZ_])
 · simp at h
   refine WK.z ?_
   first | refine WK.G 500 Tryz.ntmps193 ?_ | refine WK.D 500 Tryz.ntmps193 ?_
   intro A hA Q hQ
   simp [Tern.enc]
   refine RunQ.call rfl rfl rfl rfl (by rfl) (by simp (config := zd) [Tern.enc]) (rclean_c a) (by simp [Tern.enc]) ?_
   refine RunQ.eval ?_
   simp [Tern.enc]
   refine RunQ.call rfl rfl rfl rfl (by rfl) (by simp (config := zd) [Tern.enc]) (rclean_c b) (by simp [Tern.enc]) ?_
   refine RunQ.eval ?_
   simp [Tern.enc]
   apply hQ
   clear hQ hA
   refine WK.z ?_
   first | refine WK.G 600 Tryz.ntmps193 ?_ | refine WK.D 600 Tryz.ntmps193 ?_
   intro A hA Q hQ
   simp [Tern.enc]
   refine RunQ.call rfl rfl rfl rfl (by rfl) (by simp (config := zd) [Wide.enc]) (ror_c a.clean.value b.clean.value) (by simp [Wide.enc]) ?_
   refine RunQ.eval ?_
   simp [Wide.enc]
   refine RunQ.call rfl rfl rfl rfl (by rfl) (by simp (config := zd) [Wide.enc, Tern.clean]) (ror_c a.mask b.mask) (by simp [Wide.enc, Tern.clean]) ?_
   refine RunQ.eval ?_
   simp [Wide.enc, Tern.clean]
   apply hQ
   clear hQ hA
   refine WK.z ?_
   refine WK.t Tryz.func193 (by simp (config := zd) [Tryz.results193, h, Tern.meet, Tern.enc, Tern.clean]) (by simp [h, Tern.meet, Tern.enc, Tern.clean])

theorem cubeAll_c : FnP Tryz.prog 222 [] (.agg (encC cubeZ)) := by
 refine FnP.i Tryz.func222 rfl rfl fun G w => ?_
 refine WK.z ?_
 first | refine WK.G 100 Tryz.ntmps222 ?_ | refine WK.D 100 Tryz.ntmps222 ?_
 intro A hA Q hQ
 simp
 apply hQ
 clear hQ hA
 refine WK.z ?_
 first | refine WK.G 200 Tryz.ntmps222 ?_ | refine WK.D 200 Tryz.ntmps222 ?_
 intro A hA Q hQ
 simp
 apply hQ
 clear hQ hA
 refine WK.z ?_
 refine WK.t Tryz.func222 (by simp (config := zd) [Tryz.results222]) (by simp)
theorem rcclean_c (c : Cube) : FnP Tryz.prog 191 [.agg (encC c)] (.agg (encC (cubeClean c))) := by
 refine FnP.i Tryz.func191 rfl rfl fun G w => ?_
 refine WK.z ?_
 first | refine WK.G 100 Tryz.ntmps191 ?_ | refine WK.D 100 Tryz.ntmps191 ?_
 intro A hA Q hQ
 simp
 apply hQ
 clear hQ hA
 refine WK.z ?_
 first | refine WK.G 200 Tryz.ntmps191 ?_ | refine WK.D 200 Tryz.ntmps191 ?_
 intro A hA Q hQ
 simp
 apply hQ
 clear hQ hA
 refine WK.z ?_
 refine WK.L (fun n => n) (fun i : Nat => (⟨(upd (upd (upd J 1 (.ptr 0 0)) 2 (.ptr 1 0)) 3 (.int .i64 i)), (upd (upd B0 0 (.var (encC fun j => if j < i then (c j).clean else c j))) 1 (.var (encC cubeZ))), 0⟩ : St)) (fun i => i ≤ 24) (fun i => 24 - i) (0) (by repeat (first | exact TmW.nil | refine TmW.upd ?_ (by simp (config := zd)))) (by repeat (first | exact BxW.nil | refine BxW.upd ?_ (by simp (config := zd)))) (by omega) (fun i hi IH => ?_)
 refine WK.z ?_
 first | refine WK.G 300 Tryz.ntmps191 ?_ | refine WK.D 300 Tryz.ntmps191 ?_
 intro A hA Q hQ
 simp
 apply hQ
 clear hQ hA
 refine WK.z ?_
 refine WK.c2 rfl (fun h1 => ?_) (fun h1 => ?_)
 · simp at h1
   have h2 : i < 24 := by omega
   have h3 : i * 4 + 4 ≤ 96 := by omega
   have h6 : IntKind.i64.wrap ((i : Int) + 1) = i + 1 := wrap_i64 (by omega) (by omega)
   refine WK.z ?_
   first | refine WK.G 400 Tryz.ntmps191 ?_ | refine WK.D 400 Tryz.ntmps191 ?_
   intro A hA Q hQ
   simp [h1, h2, h3, encC_sub]
   refine RunQ.call rfl rfl rfl rfl (by rfl) (by simp (config := zd) [h1, h2, h3, encC_set]) (rclean_c (c i)) (by simp [h1, h2, h3, encC_set]) ?_
   refine RunQ.eval ?_
   simp [h1, h2, h3, encC_set]
   apply hQ
   clear hQ hA
   have h7 : encC (fun j => if j = i then (c i).clean else if j < i then (c j).clean else c j) = encC (fun j => if j < i + 1 then (c j).clean else c j) :=
     encN_congr _ _ fun j hj => by
       by_cases e : j = i
       · subst e; simp
       · by_cases e2 : j < i
         · simp [e, e2, show j < i + 1 by omega]
         · simp [e, e2, show ¬ j < i + 1 by omega]
   refine WK.z ?_
   first | refine WK.G 500 Tryz.ntmps191 ?_ | refine WK.D 500 Tryz.ntmps191 ?_
   intro A hA Q hQ
   simp [h6]
   apply hQ
   clear hQ hA
   refine WK.z ?_
   refine WK.N (fun n => n) (IH (i + 1) (by omega) (by first | omega | (dsimp only; omega))) (by repeat (first | exact TmW.nil | refine TmW.upd ?_ (by simp (config := zd) [h2, h7]))) (by repeat (first | exact BxW.nil | refine BxW.upd ?_ (by simp (config := zd) [h2, h7])))
 · simp at h1
   refine WK.z ?_
   first | refine WK.G 600 Tryz.ntmps191 ?_ | refine WK.D 600 Tryz.ntmps191 ?_
   intro A hA Q hQ
   simp
   apply hQ
   clear hQ hA
   have h8 : encC (fun j => if j < i then (c j).clean else c j) = encC (cubeClean c) := encN_congr _ _ fun j hj => by simp [show j < i by omega, cubeClean]
   refine WK.z ?_
   refine WK.t Tryz.func191 (by simp (config := zd) [Tryz.results191, h8]) (by simp [h8])

theorem each_c (fid : Nat) (caps : List AV) (g : Nat → Tern) (ok : Nat → Bool) (hcl : ClL caps = true)
   (hf : ∀ i : Nat, i < 24 → FnP Tryz.prog fid (.int .i64 i :: caps) (.tup [.agg (g i).enc, .bool (ok i)])) :
   FnP Tryz.prog 185 [.fn fid caps] (.tup [.agg (encC (if (List.range 24).all ok then g else cubeZ)), .bool ((List.range 24).all ok)]) := by
 refine FnP.i Tryz.func185 rfl rfl fun G w => ?_
 refine WK.z ?_
 first | refine WK.G 100 Tryz.ntmps185 ?_ | refine WK.D 100 Tryz.ntmps185 ?_
 intro A hA Q hQ
 simp
 apply hQ
 clear hQ hA
 refine WK.z ?_
 first | refine WK.G 200 Tryz.ntmps185 ?_ | refine WK.D 200 Tryz.ntmps185 ?_
 intro A hA Q hQ
 simp
 apply hQ
 clear hQ hA
 refine WK.z ?_
 first | refine WK.G 300 Tryz.ntmps185 ?_ | refine WK.D 300 Tryz.ntmps185 ?_
 intro A hA Q hQ
 simp
 apply hQ
 clear hQ hA
 refine WK.z ?_
 refine WK.L (fun n => n) (fun i : Nat => (⟨(upd (upd (upd (upd J 0 (.fn fid caps)) 2 (.ptr 0 0)) 4 (.ptr 100 0)) 8 (.int .i64 i)), (upd (upd B0 0 (.var (encC cubeZ))) 100 (.var (encC fun j => if j < i then g j else cubeZ j))), 0⟩ : St)) (fun i => i ≤ 24 ∧ ∀ j, j < i → ok j = true) (fun i => 24 - i) (0) (by repeat (first | exact TmW.nil | refine TmW.upd ?_ (by simp (config := zd) [hcl]))) (by repeat (first | exact BxW.nil | refine BxW.upd ?_ (by simp (config := zd) [hcl]))) (⟨by omega, by simp⟩) (fun i hi IH => ?_)
 refine WK.z ?_
 first | refine WK.G 400 Tryz.ntmps185 ?_ | refine WK.D 400 Tryz.ntmps185 ?_
 intro A hA Q hQ
 simp
 apply hQ
 clear hQ hA
 refine WK.z ?_
 refine WK.c2 rfl (fun h1 => ?_) (fun h1 => ?_)
 · simp at h1
   have h2 : i < 24 := by omega
   have h3 : i * 4 + 4 ≤ 96 := by omega
   have h6 : IntKind.i64.wrap ((i : Int) + 1) = i + 1 := wrap_i64 (by omega) (by omega)
   refine WK.z ?_
   first | refine WK.G 500 Tryz.ntmps185 ?_ | refine WK.D 500 Tryz.ntmps185 ?_
   intro A hA Q hQ
   simp
   apply hQ
   clear hQ hA
   refine WK.z ?_
   first | refine WK.G 600 Tryz.ntmps185 ?_ | refine WK.D 600 Tryz.ntmps185 ?_
   intro A hA Q hQ
   simp
   refine RunQ.call rfl rfl rfl rfl (by rfl) (by simp (config := zd) [hcl]) (hf i h2) (by simp [hcl]) ?_
   refine RunQ.eval ?_
   simp [hcl]
   apply hQ
   clear hQ hA
   refine WK.z ?_
   first | refine WK.G 700 Tryz.ntmps185 ?_ | refine WK.D 700 Tryz.ntmps185 ?_
   intro A hA Q hQ
   simp
   apply hQ
   clear hQ hA
   refine WK.z ?_
   refine WK.c2 rfl (fun h5 => ?_) (fun h5 => ?_)
   · simp at h5
     have hr : (List.range 24).all ok = false := all_range_false h2 h5
     refine WK.z ?_
     first | refine WK.G 800 Tryz.ntmps185 ?_ | refine WK.D 800 Tryz.ntmps185 ?_
     intro A hA Q hQ
     simp
     apply hQ
     clear hQ hA
     refine WK.z ?_
     refine WK.t Tryz.func185 (by simp (config := zd) [Tryz.results185, hr]) (by simp [hr])
   · simp at h5
     refine WK.z ?_
     first | refine WK.G 900 Tryz.ntmps185 ?_ | refine WK.D 900 Tryz.ntmps185 ?_
     intro A hA Q hQ
     simp [h1, h2, h3, encC_set]
     apply hQ
     clear hQ hA
     have h7 : encC (fun j => if j = i then g i else if j < i then g j else cubeZ j) = encC (fun j => if j < i + 1 then g j else cubeZ j) :=
       encN_congr _ _ fun j hj => by
         by_cases e : j = i
         · subst e; simp
         · by_cases e2 : j < i
           · simp [e, e2, show j < i + 1 by omega]
           · simp [e, e2, show ¬ j < i + 1 by omega]
     refine WK.z ?_
     first | refine WK.G 1000 Tryz.ntmps185 ?_ | refine WK.D 1000 Tryz.ntmps185 ?_
     intro A hA Q hQ
     simp [h6]
     apply hQ
     clear hQ hA
     refine WK.z ?_
     refine WK.N (fun n => n) (IH (i + 1) (⟨by omega, fun j hj => by by_cases h7 : j = i; (subst h7; exact h5); exact hi.2 j (by omega)⟩) (by first | omega | (dsimp only; omega))) (by repeat (first | exact TmW.nil | refine TmW.upd ?_ (by simp (config := zd) [h7, hcl]))) (by repeat (first | exact BxW.nil | refine BxW.upd ?_ (by simp (config := zd) [h7, hcl])))
 · simp at h1
   have hr : (List.range 24).all ok = true := all_range_true fun j hj => hi.2 j (by omega)
   refine WK.z ?_
   first | refine WK.G 1100 Tryz.ntmps185 ?_ | refine WK.D 1100 Tryz.ntmps185 ?_
   intro A hA Q hQ
   simp
   apply hQ
   clear hQ hA
   have h8 : encC (fun j => if j < i then g j else cubeZ j) = encC g := encN_congr _ _ fun j hj => by simp [show j < i by omega]
   refine WK.z ?_
   refine WK.t Tryz.func185 (by simp (config := zd) [Tryz.results185, hr, h8]) (by simp [hr, h8])
theorem clean1_c (c : Cube) (i : Nat) (h2 : i < 24) : FnP Tryz.prog 221 [.int .i64 i, .iptr (encC c)] (.tup [.agg (c i).clean.enc, .bool true]) := by
 have h1 : (i : Int) < 24 := by omega
 have h3 : 4 ≤ 96 - i * 4 := by omega
 refine FnP.i Tryz.func221 rfl rfl fun G w => ?_
 refine WK.z ?_
 first | refine WK.G 100 Tryz.ntmps221 ?_ | refine WK.D 100 Tryz.ntmps221 ?_
 intro A hA Q hQ
 simp
 apply hQ
 clear hQ hA
 refine WK.z ?_
 first | refine WK.G 200 Tryz.ntmps221 ?_ | refine WK.D 200 Tryz.ntmps221 ?_
 intro A hA Q hQ
 simp [h1, h3, encC_sub, h2]
 refine RunQ.call rfl rfl rfl rfl (by rfl) (by simp (config := zd)) (clean_c (c i)) (by simp) ?_
 refine RunQ.eval ?_
 simp
 apply hQ
 clear hQ hA
 refine WK.z ?_
 refine WK.t Tryz.func221 (by simp (config := zd) [Tryz.results221]) (by simp)
theorem cclean_c (c : Cube) : FnP Tryz.prog 188 [.agg (encC c)] (.agg (encC (cubeClean c))) := by
 refine FnP.i Tryz.func188 rfl rfl fun G w => ?_
 refine WK.z ?_
 first | refine WK.G 100 Tryz.ntmps188 ?_ | refine WK.D 100 Tryz.ntmps188 ?_
 intro A hA Q hQ
 simp
 apply hQ
 clear hQ hA
 refine WK.z ?_
 refine WK.ghost (Ghost.frzVar 1 rfl rfl) ?_
 refine WK.z ?_
 first | refine WK.G 200 Tryz.ntmps188 ?_ | refine WK.D 200 Tryz.ntmps188 ?_
 intro A hA Q hQ
 simp
 refine RunQ.call rfl rfl rfl rfl (by rfl) (by simp (config := zd)) (each_c _ [.iptr (encC c)] (cubeClean c) (fun _ => true) (by simp) (fun i hi => clean1_c c i hi)) (by simp) ?_
 refine RunQ.eval ?_
 simp
 apply hQ
 clear hQ hA
 refine WK.z ?_
 first | refine WK.G 300 Tryz.ntmps188 ?_ | refine WK.D 300 Tryz.ntmps188 ?_
 intro A hA Q hQ
 simp
 apply hQ
 clear hQ hA
 refine WK.z ?_
 refine WK.t Tryz.func188 (by simp (config := zd) [Tryz.results188]) (by simp)
theorem meet1_c (a b : Cube) (i : Nat) (h2 : i < 24) : FnP Tryz.prog 186 [.int .i64 i, .iptr (encC a), .iptr (encC b)]
   (.tup [.agg (if (a i).meetOk (b i) then (a i).meet (b i) else ternZ).enc, .bool ((a i).meetOk (b i))]) := by
 have h1 : (i : Int) < 24 := by omega
 have h3 : 4 ≤ 96 - i * 4 := by omega
 refine FnP.i Tryz.func186 rfl rfl fun G w => ?_
 refine WK.z ?_
 first | refine WK.G 100 Tryz.ntmps186 ?_ | refine WK.D 100 Tryz.ntmps186 ?_
 intro A hA Q hQ
 simp
 apply hQ
 clear hQ hA
 refine WK.z ?_
 first | refine WK.G 200 Tryz.ntmps186 ?_ | refine WK.D 200 Tryz.ntmps186 ?_
 intro A hA Q hQ
 simp [h1, h3, encC_sub, h2]
 refine RunQ.call rfl rfl rfl rfl (by rfl) (by simp (config := zd)) (meet_c (a i) (b i)) (by simp) ?_
 refine RunQ.eval ?_
 simp
 apply hQ
 clear hQ hA
 refine WK.z ?_
 refine WK.t Tryz.func186 (by simp (config := zd) [Tryz.results186]) (by simp)
def meetR (a b : Cube) : Cube := if cubeMeetOk a b then (fun i => if (a i).meetOk (b i) then (a i).meet (b i) else ternZ) else cubeZ
theorem cmeet_c (a b : Cube) : FnP Tryz.prog 145 [.agg (encC a), .agg (encC b)] (.tup [.agg (encC (meetR a b)), .bool (cubeMeetOk a b)]) := by
 refine FnP.i Tryz.func145 rfl rfl fun G w => ?_
 refine WK.z ?_
 first | refine WK.G 100 Tryz.ntmps145 ?_ | refine WK.D 100 Tryz.ntmps145 ?_
 intro A hA Q hQ
 simp
 apply hQ
 clear hQ hA
 refine WK.z ?_
 refine WK.ghost (Ghost.frzVar 2 rfl rfl) ?_
 refine WK.ghost (Ghost.frzVar 3 rfl rfl) ?_
 refine WK.z ?_
 first | refine WK.G 200 Tryz.ntmps145 ?_ | refine WK.D 200 Tryz.ntmps145 ?_
 intro A hA Q hQ
 simp
 refine RunQ.call rfl rfl rfl rfl (by rfl) (by simp (config := zd)) (each_c _ [.iptr (encC a), .iptr (encC b)] (fun i => if (a i).meetOk (b i) then (a i).meet (b i) else ternZ) (fun i => (a i).meetOk (b i)) (by simp) (fun i hi => meet1_c a b i hi)) (by simp) ?_
 refine RunQ.eval ?_
 simp
 apply hQ
 clear hQ hA
 refine WK.z ?_
 refine WK.t Tryz.func145 (by simp (config := zd) [Tryz.results145, meetR, cubeMeetOk]) (by simp [meetR, cubeMeetOk])
theorem rcmeet_c (a b : Cube) : FnP Tryz.prog 153 [.agg (encC a), .agg (encC b)] (.tup [.agg (encC (meetR a b)), .bool (cubeMeetOk a b)]) := by
 refine FnP.i Tryz.func153 rfl rfl fun G w => ?_
 refine WK.z ?_
 first | refine WK.G 100 Tryz.ntmps153 ?_ | refine WK.D 100 Tryz.ntmps153 ?_
 intro A hA Q hQ
 simp
 apply hQ
 clear hQ hA
 refine WK.z ?_
 first | refine WK.G 200 Tryz.ntmps153 ?_ | refine WK.D 200 Tryz.ntmps153 ?_
 intro A hA Q hQ
 simp
 apply hQ
 clear hQ hA
 refine WK.z ?_
 first | refine WK.G 300 Tryz.ntmps153 ?_ | refine WK.D 300 Tryz.ntmps153 ?_
 intro A hA Q hQ
 simp
 apply hQ
 clear hQ hA
 refine WK.z ?_
 refine WK.L (fun n => n) (fun i : Nat => (⟨(upd (upd (upd (upd (upd J 2 (.ptr 0 0)) 3 (.ptr 1 0)) 4 (.ptr 2 0)) 6 (.ptr 101 0)) 7 (.int .i64 i)), (upd (upd (upd (upd B0 0 (.var (encC a))) 1 (.var (encC b))) 2 (.var (encC cubeZ))) 101 (.var (encC fun j => if j < i then (if (a j).meetOk (b j) then (a j).meet (b j) else ternZ) else cubeZ j))), 0⟩ : St)) (fun i => i ≤ 24 ∧ ∀ j, j < i → (a j).meetOk (b j) = true) (fun i => 24 - i) (0) (by repeat (first | exact TmW.nil | refine TmW.upd ?_ (by simp (config := zd)))) (by repeat (first | exact BxW.nil | refine BxW.upd ?_ (by simp (config := zd)))) (⟨by omega, by simp⟩) (fun i hi IH => ?_)
 refine WK.z ?_
 first | refine WK.G 400 Tryz.ntmps153 ?_ | refine WK.D 400 Tryz.ntmps153 ?_
 intro A hA Q hQ
 simp
 apply hQ
 clear hQ hA
 refine WK.z ?_
 refine WK.c2 rfl (fun h1 => ?_) (fun h1 => ?_)
 · simp at h1
   have h2 : i < 24 := by omega
   have h3 : i * 4 + 4 ≤ 96 := by omega
   have h6 : IntKind.i64.wrap ((i : Int) + 1) = i + 1 := wrap_i64 (by omega) (by omega)
   refine WK.z ?_
   first | refine WK.G 500 Tryz.ntmps153 ?_ | refine WK.regD 500 (clsM [(17, 0), (20, 1), (8, 410)]) (by kernel_rfl) Tryz.ntmps153 (by kernel_rfl) (by kernel_rfl) ?_
   intro A hA Q hQ
   simp [h1, h2, h3, encC_sub]
   refine RunQ.call rfl rfl rfl rfl (by rfl) (by simp (config := zd)) (rmeet_c (a i) (b i)) (by simp) ?_
   refine RunQ.eval ?_
   simp
   apply hQ
   clear hQ hA
   refine WK.z ?_
   first | refine WK.G 600 Tryz.ntmps153 ?_ | refine WK.D 600 Tryz.ntmps153 ?_
   intro A hA Q hQ
   simp
   apply hQ
   clear hQ hA
   refine WK.z ?_
   refine WK.c2 rfl (fun h5 => ?_) (fun h5 => ?_)
   · simp at h5
     have hr : cubeMeetOk a b = false := all_range_false (p := fun i => (a i).meetOk (b i)) h2 h5
     refine WK.z ?_
     first | refine WK.G 700 Tryz.ntmps153 ?_ | refine WK.D 700 Tryz.ntmps153 ?_
     intro A hA Q hQ
     simp
     apply hQ
     clear hQ hA
     refine WK.z ?_
     refine WK.t Tryz.func153 (by simp (config := zd) [Tryz.results153, hr, meetR]) (by simp [hr, meetR])
   · simp at h5
     refine WK.z ?_
     first | refine WK.G 800 Tryz.ntmps153 ?_ | refine WK.D 800 Tryz.ntmps153 ?_
     intro A hA Q hQ
     simp [h1, h2, h3, h5, encC_set]
     apply hQ
     clear hQ hA
     have h7 : encC (fun j => if j = i then (a i).meet (b i) else if j < i then (if (a j).meetOk (b j) then (a j).meet (b j) else ternZ) else cubeZ j) = encC (fun j => if j < i + 1 then (if (a j).meetOk (b j) then (a j).meet (b j) else ternZ) else cubeZ j) :=
       encN_congr _ _ fun j hj => by
         by_cases e : j = i
         · subst e; simp [h5]
         · by_cases e2 : j < i
           · simp [e, e2, show j < i + 1 by omega]
           · simp [e, e2, show ¬ j < i + 1 by omega]
     refine WK.z ?_
     first | refine WK.G 900 Tryz.ntmps153 ?_ | refine WK.D 900 Tryz.ntmps153 ?_
     intro A hA Q hQ
     simp [h6]
     apply hQ
     clear hQ hA
     refine WK.z ?_
     refine WK.N (fun n => n) (IH (i + 1) (⟨by omega, fun j hj => by by_cases h7 : j = i; (subst h7; exact h5); exact hi.2 j (by omega)⟩) (by first | omega | (dsimp only; omega))) (by repeat (first | exact TmW.nil | refine TmW.upd ?_ (by simp (config := zd) [h7]))) (by repeat (first | exact BxW.nil | refine BxW.upd ?_ (by simp (config := zd) [h7])))
 · simp at h1
   have hr : cubeMeetOk a b = true := all_range_true fun j hj => hi.2 j (by omega)
   refine WK.z ?_
   first | refine WK.G 1000 Tryz.ntmps153 ?_ | refine WK.D 1000 Tryz.ntmps153 ?_
   intro A hA Q hQ
   simp
   apply hQ
   clear hQ hA
   have h8 : encC (fun j => if j < i then (if (a j).meetOk (b j) then (a j).meet (b j) else ternZ) else cubeZ j) = encC (meetR a b) := encN_congr _ _ fun j hj => by simp [show j < i by omega, meetR, hr]
   refine WK.z ?_
   refine WK.t Tryz.func153 (by simp (config := zd) [Tryz.results153, hr, h8]) (by simp [hr, h8])
theorem fright_c (f : Int) : FnP Tryz.prog 210 [.int .i64 f] (.bool (fRight f)) := by
 cases h : decide (f ≥ 0)
 all_goals
   refine FnP.i Tryz.func210 rfl rfl fun G w => ?_
   repeat apply WK.s
   refine WK.G 100 Tryz.ntmps210 ?_
   intro A hA Q hQ
   simp
   apply hQ
   clear hQ hA
   repeat apply WK.s
   refine WK.G 200 Tryz.ntmps210 ?_
   intro A hA Q hQ
   have hg2 : (A[2]?).bind (·.dst) = some 5 := by rw [hA]; rfl
   simp [h, hg2]
   apply hQ
   clear hQ hA
   refine WK.t Tryz.func210 (by simp (config := zd) [Tryz.results210, fRight, h]) (by simp [fRight, h])
theorem rfright_c (f : Int) : FnP Tryz.prog 228 [.int .i64 f] (.bool (fRight f)) := by
 cases h : decide (f ≥ 0)
 all_goals
   refine FnP.i Tryz.func228 rfl rfl fun G w => ?_
   repeat apply WK.s
   refine WK.G 100 Tryz.ntmps228 ?_
   intro A hA Q hQ
   simp
   apply hQ
   clear hQ hA
   repeat apply WK.s
   refine WK.G 200 Tryz.ntmps228 ?_
   intro A hA Q hQ
   have hg2 : (A[2]?).bind (·.dst) = some 5 := by rw [hA]; rfl
   simp [h, hg2]
   apply hQ
   clear hQ hA
   refine WK.t Tryz.func228 (by simp (config := zd) [Tryz.results228, fRight, h]) (by simp [fRight, h])
def rowsC : List AV := fRows.flatMap rowEnc
@[simp] theorem rowsC_len : rowsC.length = 96 := rfl
theorem rows_c : FnP Tryz.prog 247 [] (.agg rowsC) := by
 refine FnP.i Tryz.func247 rfl rfl fun G w => ?_
 repeat apply WK.s
 refine WK.G 100 Tryz.ntmps247 ?_
 intro A hA Q hQ
 simp
 apply hQ
 clear hQ hA
 repeat apply WK.s
 refine WK.G 200 Tryz.ntmps247 ?_
 intro A hA Q hQ
 simp
 apply hQ
 clear hQ hA
 refine WK.t Tryz.func247 (by simp (config := zd) [Tryz.results247, rowsC, fRows, rowEnc]) (by simp [rowsC, fRows, rowEnc])
theorem rowEnc_len (r : Int × Int × Bool) : (rowEnc r).length = 4 := rfl
theorem row_sub (f : Int) (h : 0 ≤ f ∧ f < 24) : (rowsC.drop (f.toNat * 4)).take 4 = rowEnc (fRow f) := by
 unfold rowsC
 rw [fm_nth rowEnc_len _ _ (by show f.toNat < 24; omega)]
 unfold fRow; rw [if_pos h]
theorem fat_c (f : Int) : FnP Tryz.prog 214 [.int .i64 f] (.agg (rowEnc (fRow f))) := by
 refine FnP.i Tryz.func214 rfl rfl fun G w => ?_
 repeat apply WK.s
 refine WK.G 100 Tryz.ntmps214 ?_
 intro A hA Q hQ
 simp
 apply hQ
 clear hQ hA
 repeat apply WK.s
 refine WK.G 200 Tryz.ntmps214 ?_
 intro A hA Q hQ
 simp
 refine RunQ.call rfl rfl rfl rfl (by rfl) (by simp (config := zd)) (fright_c f) (by simp) ?_
 refine RunQ.eval ?_
 simp
 apply hQ
 clear hQ hA
 refine WK.c2 rfl (fun h => ?_) (fun h => ?_)
 · simp [fRight] at h
   have h2 : fRow f = (-1, 0, false) := by unfold fRow; rw [if_neg (by omega)]
   repeat apply WK.s
   refine WK.G 300 Tryz.ntmps214 ?_
   intro A hA Q hQ
   simp
   apply hQ
   clear hQ hA
   refine WK.t Tryz.func214 (by simp (config := zd) [Tryz.results214, h2, rowEnc]) (by simp [h2, rowEnc])
 · simp [fRight] at h
   have h3 : f.toNat * 4 + 4 ≤ 96 := by omega
   repeat (first | apply WK.s | apply WK.k)
   refine WK.G 400 Tryz.ntmps214 ?_
   intro A hA Q hQ
   simp
   refine RunQ.call rfl rfl rfl rfl (by rfl) (by simp (config := zd) [h, h3, row_sub f h, rowEnc_len]) (rows_c) (by simp [h, h3, row_sub f h, rowEnc_len]) ?_
   refine RunQ.eval ?_
   simp [h, h3, row_sub f h, rowEnc_len]
   apply hQ
   clear hQ hA
   refine WK.t Tryz.func214 (by simp (config := zd) [Tryz.results214, rowEnc]) (by simp [rowEnc])
theorem fbits_c (f : Int) : FnP Tryz.prog 246 [.int .i64 f] (.int .i64 (fBits f)) := by
 refine FnP.i Tryz.func246 rfl rfl fun G w => ?_
 repeat apply WK.s
 refine WK.G 100 Tryz.ntmps246 ?_
 intro A hA Q hQ
 simp
 apply hQ
 clear hQ hA
 repeat apply WK.s
 refine WK.G 200 Tryz.ntmps246 ?_
 intro A hA Q hQ
 simp
 refine RunQ.call rfl rfl rfl rfl (by rfl) (by simp (config := zd) [rowEnc]) (fat_c f) (by simp [rowEnc]) ?_
 refine RunQ.eval ?_
 simp [rowEnc]
 apply hQ
 clear hQ hA
 refine WK.t Tryz.func246 (by simp (config := zd) [Tryz.results246, fBits]) (by simp [fBits])
theorem rup_c (f : Int) : FnP Tryz.prog 252 [.int .i64 f] (.tup [.junk, .int .i64 (rowUp f).1, .int .i64 (rowUp f).2.1, .bool (rowUp f).2.2]) := by
 unfold rowUp
 refine FnP.i Tryz.func252 rfl rfl fun G w => ?_
 repeat apply WK.s
 refine WK.G 100 Tryz.ntmps252 ?_
 intro A hA Q hQ
 simp
 apply hQ
 clear hQ hA
 repeat apply WK.s
 refine WK.G 200 Tryz.ntmps252 ?_
 intro A hA Q hQ
 simp
 apply hQ
 clear hQ hA
 iterate 12
   repeat (first | apply WK.s | apply WK.b)
   refine WK.G 300 Tryz.ntmps252 ?_
   intro A hA Q hQ
   simp
   apply hQ
   clear hQ hA
   refine WK.c2 rfl (fun h => ?_) (fun h => ?_)
   · simp at h
     repeat apply WK.s
     refine WK.G 400 Tryz.ntmps252 ?_
     intro A hA Q hQ
     simp
     apply hQ
     clear hQ hA
     refine WK.t Tryz.func252 (by simp (config := zd) [Tryz.results252, h]) (by simp [h])
   simp at h
 repeat (first | apply WK.s | apply WK.n | apply WK.k)
 refine WK.G 500 Tryz.ntmps252 ?_
 intro A hA Q hQ
 simp
 apply hQ
 clear hQ hA
 refine WK.t Tryz.func252 (by simp (config := zd) [Tryz.results252, *]) (by simp [*])
theorem rlow_c (f : Int) : FnP Tryz.prog 238 [.int .i64 f] (.tup [.junk, .int .i64 (fRow f).1, .int .i64 (fRow f).2.1, .bool (fRow f).2.2]) := by
 rw [← rowLow_eq]
 unfold rowLow
 refine FnP.i Tryz.func238 rfl rfl fun G w => ?_
 repeat apply WK.s
 refine WK.G 100 Tryz.ntmps238 ?_
 intro A hA Q hQ
 simp
 apply hQ
 clear hQ hA
 repeat apply WK.s
 refine WK.G 200 Tryz.ntmps238 ?_
 intro A hA Q hQ
 simp
 apply hQ
 clear hQ hA
 iterate 12
   repeat (first | apply WK.s | apply WK.b)
   refine WK.G 300 Tryz.ntmps238 ?_
   intro A hA Q hQ
   simp
   apply hQ
   clear hQ hA
   refine WK.c2 rfl (fun h => ?_) (fun h => ?_)
   · simp at h
     repeat apply WK.s
     refine WK.G 400 Tryz.ntmps238 ?_
     intro A hA Q hQ
     simp
     apply hQ
     clear hQ hA
     refine WK.t Tryz.func238 (by simp (config := zd) [Tryz.results238, h]) (by simp [h])
   simp at h
 repeat (first | apply WK.s | apply WK.n | apply WK.k)
 refine WK.G 500 Tryz.ntmps238 ?_
 intro A hA Q hQ
 simp
 refine RunQ.call rfl rfl rfl rfl (by rfl) (by simp (config := zd)) (rup_c f) (by simp) ?_
 refine RunQ.eval ?_
 simp
 apply hQ
 clear hQ hA
 refine WK.t Tryz.func238 (by simp (config := zd) [Tryz.results238, *]) (by simp [*])
theorem rfbits_c (f : Int) : FnP Tryz.prog 235 [.int .i64 f] (.int .i64 (fBits f)) := by
 refine FnP.i Tryz.func235 rfl rfl fun G w => ?_
 repeat apply WK.s
 refine WK.G 100 Tryz.ntmps235 ?_
 intro A hA Q hQ
 simp
 apply hQ
 clear hQ hA
 repeat apply WK.s
 refine WK.G 200 Tryz.ntmps235 ?_
 intro A hA Q hQ
 simp
 refine RunQ.call rfl rfl rfl rfl (by rfl) (by simp (config := zd)) (rlow_c f) (by simp) ?_
 refine RunQ.eval ?_
 simp
 apply hQ
 clear hQ hA
 repeat apply WK.s
 refine WK.G 300 Tryz.ntmps235 ?_
 intro A hA Q hQ
 simp
 apply hQ
 clear hQ hA
 refine WK.t Tryz.func235 (by simp (config := zd) [Tryz.results235, fBits]) (by simp [fBits])
theorem low1_c (n : Int) : FnP Tryz.prog 254 [.int .i64 n] (.int .u64 (uI (low64 n))) := by
 refine FnP.i Tryz.func254 rfl rfl fun G w => ?_
 repeat apply WK.s
 refine WK.G 100 Tryz.ntmps254 ?_
 intro A hA Q hQ
 simp
 apply hQ
 clear hQ hA
 repeat apply WK.s
 refine WK.G 200 Tryz.ntmps254 ?_
 intro A hA Q hQ
 simp
 apply hQ
 clear hQ hA
 refine WK.c2 rfl (fun h => ?_) (fun h => ?_)
 · simp at h
   have e : uI (low64 n) = 18446744073709551615 := by rw [low64_ge h]; exact low64_big
   repeat apply WK.s
   refine WK.G 300 Tryz.ntmps254 ?_
   intro A hA Q hQ
   simp
   apply hQ
   clear hQ hA
   refine WK.t Tryz.func254 (by simp (config := zd) [Tryz.results254, e]) (by simp [e])
 · simp at h
   by_cases hn : n < 0
   · have e := low64_small (n := 0) (by omega) (by omega)
     have e2 := low64_neg hn
     repeat (first | apply WK.s | apply WK.k)
     refine WK.G 400 Tryz.ntmps254 ?_
     intro A hA Q hQ
     simp [hn, e]
     apply hQ
     clear hQ hA
     refine WK.t Tryz.func254 (by simp (config := zd) [Tryz.results254, e2]) (by simp [e2])
   · have e := low64_small (n := n) (by omega) h
     repeat (first | apply WK.s | apply WK.k)
     refine WK.G 500 Tryz.ntmps254 ?_
     intro A hA Q hQ
     simp [hn, e]
     apply hQ
     clear hQ hA
     refine WK.t Tryz.func254 (by simp (config := zd) [Tryz.results254]) (by simp)
theorem low_c (n : Int) : FnP Tryz.prog 245 [.int .i64 n] (.agg (lowW n).enc) := by
 have hc := clamp_le n
 have e : IntKind.i64.wrap (clamp n - 64) = clamp n - 64 := wrap_i64 (by omega) (by omega)
 refine FnP.i Tryz.func245 rfl rfl fun G w => ?_
 repeat apply WK.s
 refine WK.G 100 Tryz.ntmps245 ?_
 intro A hA Q hQ
 simp
 apply hQ
 clear hQ hA
 repeat apply WK.s
 refine WK.G 200 Tryz.ntmps245 ?_
 intro A hA Q hQ
 simp [clamp_eq]
 apply hQ
 clear hQ hA
 repeat apply WK.s
 refine WK.G 300 Tryz.ntmps245 ?_
 intro A hA Q hQ
 simp [e]
 refine RunQ.call rfl rfl rfl rfl (by rfl) (by simp (config := zd)) (low1_c (clamp n - 64)) (by simp) ?_
 refine RunQ.eval ?_
 simp
 refine RunQ.call rfl rfl rfl rfl (by rfl) (by simp (config := zd)) (low1_c (clamp n)) (by simp) ?_
 refine RunQ.eval ?_
 simp
 apply hQ
 clear hQ hA
 refine WK.t Tryz.func245 (by simp (config := zd) [Tryz.results245, lowW, Wide.enc]) (by simp [lowW, Wide.enc])
theorem rbit_c (i : Nat) (h : i < 128) : FnP Tryz.prog 251 [.int .i64 i] (.agg (bitW i).enc) := by
 have h0 : ¬ ((i : Int) < 0) := by omega
 have h1 : ¬ (127 < (i : Int)) := by omega
 have h2 : decide ((i : Int) < 0) = false := decide_eq_false h0
 refine FnP.i Tryz.func251 rfl rfl fun G w => ?_
 repeat apply WK.s
 refine WK.G 100 Tryz.ntmps251 ?_
 intro A hA Q hQ
 simp
 apply hQ
 clear hQ hA
 repeat (first | apply WK.s | apply WK.b)
 refine WK.G 200 Tryz.ntmps251 ?_
 intro A hA Q hQ
 have hg2 : (A[2]?).bind (·.dst) = some 6 := by rw [hA]; rfl
 simp [h0, h1, hg2]
 apply hQ
 clear hQ hA
 refine WK.c2 rfl (fun h3 => ?_) (fun h3 => ?_)
 · simp [h0, h1] at h3
 repeat apply WK.s
 refine WK.G 300 Tryz.ntmps251 ?_
 intro A hA Q hQ
 simp
 apply hQ
 clear hQ hA
 refine WK.c2 rfl (fun h4 => ?_) (fun h4 => ?_)
 · simp at h4
   have h5 : i < 64 := by omega
   have e1 : IntKind.u64.wrap (i : Int) = i := by
     have := wrap_u64 (BitVec.ofNat 64 i)
     simp [uI] at this
     rw [show (i : Int) % 18446744073709551616 = i by omega] at this
     exact this
   have e2 := bit64 h5
   repeat apply WK.s
   refine WK.G 400 Tryz.ntmps251 ?_
   intro A hA Q hQ
   simp [e1, h0, e2]
   apply hQ
   clear hQ hA
   refine WK.t Tryz.func251 (by simp (config := zd) [Tryz.results251, bitW, h5, Wide.enc, uZ_]) (by simp [bitW, h5, Wide.enc, uZ_])
 · simp at h4
   have h5 : ¬ i < 64 := by omega
   obtain ⟨m, rfl⟩ : ∃ m, i = m + 64 := ⟨i - 64, by omega⟩
   have h6 : m < 64 := by omega
   have e0 : IntKind.i64.wrap (m : Int) = m := wrap_i64 (by omega) (by omega)
   have e1 : IntKind.u64.wrap (m : Int) = m := by
     have := wrap_u64 (BitVec.ofNat 64 m)
     simp [uI] at this
     rw [show (m : Int) % 18446744073709551616 = m by omega] at this
     exact this
   have e2 := bit64 h6
   have h7 : ¬ ((m : Int) < 0) := by omega
   repeat (first | apply WK.s | apply WK.n | apply WK.k)
   refine WK.G 500 Tryz.ntmps251 ?_
   intro A hA Q hQ
   simp [e0, e1, h7, e2]
   apply hQ
   clear hQ hA
   refine WK.t Tryz.func251 (by simp (config := zd) [Tryz.results251, bitW, h, h5, h6, Wide.enc, uZ_]) (by simp [bitW, h, h5, h6, Wide.enc, uZ_])

theorem rlow2_c (n : Int) (hn : -10000 ≤ n ∧ n ≤ 10000) : FnP Tryz.prog 234 [.int .i64 n] (.agg (lowW n).enc) := by
 refine FnP.i Tryz.func234 rfl rfl fun G w => ?_
 repeat apply WK.s
 refine WK.G 100 Tryz.ntmps234 ?_
 intro A hA Q hQ
 simp
 apply hQ
 clear hQ hA
 repeat apply WK.s
 refine WK.G 200 Tryz.ntmps234 ?_
 intro A hA Q hQ
 simp
 apply hQ
 clear hQ hA
 repeat apply WK.s
 refine WK.G 300 Tryz.ntmps234 ?_
 intro A hA Q hQ
 simp
 apply hQ
 clear hQ hA
 repeat (apply WK.b)
 refine WK.L (fun n => n) (fun i : Nat => (⟨(upd (upd (upd (upd J 0 (.int .i64 n)) 2 (.ptr 0 0)) 3 (.ptr 101 0)) 4 (.int .i64 i)), (upd (upd B0 0 (.var wideZ.enc)) 101 (.var (lowW i).enc)), 0⟩ : St)) (fun i => i ≤ 128 ∧ ((i : Int) ≤ n ∨ i = 0)) (fun i => 128 - i) (0) (by repeat (first | exact TmW.nil | refine TmW.upd ?_ (by simp (config := zd) [Wide.enc, wideZ, uZ_, lowW_zero']))) (by repeat (first | exact BxW.nil | refine BxW.upd ?_ (by simp (config := zd) [Wide.enc, wideZ, uZ_, lowW_zero']))) (⟨by omega, .inr rfl⟩) (fun i hi IH => ?_)
 by_cases h0 : (i : Int) < n
 · repeat apply WK.s
   refine WK.G 400 Tryz.ntmps234 ?_
   intro A hA Q hQ
   have hg3 : (A[3]?).bind (·.dst) = some 9 := by rw [hA]; rfl
   simp [h0, hg3]
   apply hQ
   clear hQ hA
   refine WK.c2 rfl (fun h1 => ?_) (fun h1 => ?_)
   · simp at h1
     have h2 : i < 128 := by omega
     have h6 : IntKind.i64.wrap ((i : Int) + 1) = i + 1 := wrap_i64 (by omega) (by omega)
     repeat (first | apply WK.s | apply WK.b | apply WK.k)
     refine WK.D 500 Tryz.ntmps234 ?_
     intro A hA Q hQ
     simp
     refine RunQ.call rfl rfl rfl rfl (by rfl) (by simp (config := zd)) (rbit_c i h2) (by simp) ?_
     refine RunQ.eval ?_
     simp
     refine RunQ.call rfl rfl rfl rfl (by rfl) (by simp (config := zd)) (ror_c (lowW i) (bitW i)) (by simp) ?_
     refine RunQ.eval ?_
     simp
     apply hQ
     clear hQ hA
     repeat (apply WK.n)
     refine WK.G 600 Tryz.ntmps234 ?_
     intro A hA Q hQ
     simp [h6]
     apply hQ
     clear hQ hA
     refine WK.N (fun n => n) (IH (i + 1) (⟨by omega, .inl (by omega)⟩) (by first | omega | (dsimp only; omega))) (by repeat (first | exact TmW.nil | refine TmW.upd ?_ (by simp (config := zd) [lowW_step h2]))) (by repeat (first | exact BxW.nil | refine BxW.upd ?_ (by simp (config := zd) [lowW_step h2])))
   · simp at h1
     have e : lowW n = lowW i := by
       unfold lowW; rw [show clamp n = clamp i by rw [clamp_id (n := i) (by omega) (by omega)]; unfold clamp; rw [if_neg (show ¬ n < 0 by omega)]; split <;> omega]
     repeat (first | apply WK.s | refine WK.exit rfl ?_)
     refine WK.G 700 Tryz.ntmps234 ?_
     intro A hA Q hQ
     simp
     apply hQ
     clear hQ hA
     refine WK.t Tryz.func234 (by simp (config := zd) [Tryz.results234, e]) (by simp [e])
 · repeat apply WK.s
   refine WK.G 800 Tryz.ntmps234 ?_
   intro A hA Q hQ
   have hg3 : (A[3]?).bind (·.dst) = some 9 := by rw [hA]; rfl
   simp [h0, hg3]
   apply hQ
   clear hQ hA
   refine WK.c2 rfl (fun h1 => ?_) (fun h1 => ?_)
   · simp at h1
   have e : lowW n = lowW i := by
     unfold lowW; rw [show clamp n = clamp i by rw [clamp_id (n := i) (by omega) (by omega)]; unfold clamp; split <;> (try split) <;> omega]
   repeat (first | apply WK.s | refine WK.exit rfl ?_)
   refine WK.G 900 Tryz.ntmps234 ?_
   intro A hA Q hQ
   simp
   apply hQ
   clear hQ hA
   refine WK.t Tryz.func234 (by simp (config := zd) [Tryz.results234, e]) (by simp [e])
theorem fBits_le (f : Int) : -10000 ≤ fBits f ∧ fBits f ≤ 10000 := by
 unfold fBits fRow
 split
 · rename_i h
   obtain ⟨n, rfl⟩ : ∃ n : Nat, f = n := ⟨f.toNat, by omega⟩
   have h2 : n < 24 := by omega
   have : ∀ n : Nat, n < 24 → -10000 ≤ (nth fRows (n : Int).toNat).2.1 ∧ (nth fRows (n : Int).toNat).2.1 ≤ 10000 := by decide
   exact this n h2
 · simp
theorem otern_c (o : Oxm) : FnP Tryz.prog 223 [.agg o.enc] (.agg o.tern.enc) := by
 refine FnP.i Tryz.func223 rfl rfl fun G w => ?_
 refine WK.z ?_
 first | refine WK.G 100 Tryz.ntmps223 ?_ | refine WK.D 100 Tryz.ntmps223 ?_
 intro A hA Q hQ
 simp
 apply hQ
 clear hQ hA
 refine WK.z ?_
 first | refine WK.G 200 Tryz.ntmps223 ?_ | refine WK.D 200 Tryz.ntmps223 ?_
 intro A hA Q hQ
 simp [Oxm.enc]
 refine RunQ.call rfl rfl rfl rfl (by rfl) (by simp (config := zd)) (fright_c o.field) (by simp) ?_
 refine RunQ.eval ?_
 simp
 apply hQ
 clear hQ hA
 refine WK.z ?_
 refine WK.c2 rfl (fun h => ?_) (fun h => ?_)
 · try simp at h
   refine WK.z ?_
   first | refine WK.G 300 Tryz.ntmps223 ?_ | refine WK.D 300 Tryz.ntmps223 ?_
   intro A hA Q hQ
   simp
   apply hQ
   clear hQ hA
   refine WK.z ?_
   refine WK.t Tryz.func223 (by simp (config := zd) [Tryz.results223, Oxm.tern, h, Tern.enc, ternZ, wideZ, uZ_]) (by simp [Oxm.tern, h, Tern.enc, ternZ, wideZ, uZ_])
 · try simp at h
   refine WK.z ?_
   first | refine WK.G 400 Tryz.ntmps223 ?_ | refine WK.D 400 Tryz.ntmps223 ?_
   intro A hA Q hQ
   simp [Oxm.enc]
   apply hQ
   clear hQ hA
   refine WK.z ?_
   refine WK.c2 rfl (fun h2 => ?_) (fun h2 => ?_)
   · try simp at h2
     refine WK.z ?_
     first | refine WK.G 500 Tryz.ntmps223 ?_ | refine WK.D 500 Tryz.ntmps223 ?_
     intro A hA Q hQ
     simp [Oxm.enc]
     apply hQ
     clear hQ hA
     refine WK.z ?_
     refine WK.t Tryz.func223 (by simp (config := zd) [Tryz.results223, Oxm.tern, h, h2, Tern.enc]) (by simp [Oxm.tern, h, h2, Tern.enc])
   · try simp at h2
     refine WK.z ?_
     first | refine WK.G 600 Tryz.ntmps223 ?_ | refine WK.D 600 Tryz.ntmps223 ?_
     intro A hA Q hQ
     simp [Oxm.enc]
     refine RunQ.call rfl rfl rfl rfl (by rfl) (by simp (config := zd)) (fbits_c o.field) (by simp) ?_
     refine RunQ.eval ?_
     simp
     refine RunQ.call rfl rfl rfl rfl (by rfl) (by simp (config := zd) [Wide.enc]) (low_c (fBits o.field)) (by simp [Wide.enc]) ?_
     refine RunQ.eval ?_
     simp [Wide.enc]
     apply hQ
     clear hQ hA
     refine WK.z ?_
     refine WK.t Tryz.func223 (by simp (config := zd) [Tryz.results223, Oxm.tern, h, h2, Tern.enc]) (by simp [Oxm.tern, h, h2, Tern.enc])
theorem rotern_c (o : Oxm) : FnP Tryz.prog 229 [.agg o.enc] (.agg o.tern.enc) := by
 refine FnP.i Tryz.func229 rfl rfl fun G w => ?_
 refine WK.z ?_
 first | refine WK.G 100 Tryz.ntmps229 ?_ | refine WK.D 100 Tryz.ntmps229 ?_
 intro A hA Q hQ
 simp
 apply hQ
 clear hQ hA
 refine WK.z ?_
 first | refine WK.G 200 Tryz.ntmps229 ?_ | refine WK.D 200 Tryz.ntmps229 ?_
 intro A hA Q hQ
 simp [Oxm.enc]
 refine RunQ.call rfl rfl rfl rfl (by rfl) (by simp (config := zd)) (rfright_c o.field) (by simp) ?_
 refine RunQ.eval ?_
 simp
 apply hQ
 clear hQ hA
 refine WK.z ?_
 refine WK.c2 rfl (fun h => ?_) (fun h => ?_)
 · try simp at h
   refine WK.z ?_
   first | refine WK.G 300 Tryz.ntmps229 ?_ | refine WK.D 300 Tryz.ntmps229 ?_
   intro A hA Q hQ
   simp
   apply hQ
   clear hQ hA
   refine WK.z ?_
   refine WK.t Tryz.func229 (by simp (config := zd) [Tryz.results229, Oxm.tern, h, Tern.enc, ternZ, wideZ, uZ_]) (by simp [Oxm.tern, h, Tern.enc, ternZ, wideZ, uZ_])
 · try simp at h
   refine WK.z ?_
   first | refine WK.G 400 Tryz.ntmps229 ?_ | refine WK.D 400 Tryz.ntmps229 ?_
   intro A hA Q hQ
   simp [Oxm.enc]
   apply hQ
   clear hQ hA
   refine WK.z ?_
   refine WK.c2 rfl (fun h2 => ?_) (fun h2 => ?_)
   · try simp at h2
     refine WK.z ?_
     first | refine WK.G 500 Tryz.ntmps229 ?_ | refine WK.D 500 Tryz.ntmps229 ?_
     intro A hA Q hQ
     simp [Oxm.enc]
     apply hQ
     clear hQ hA
     refine WK.z ?_
     refine WK.t Tryz.func229 (by simp (config := zd) [Tryz.results229, Oxm.tern, h, h2, Tern.enc]) (by simp [Oxm.tern, h, h2, Tern.enc])
   · try simp at h2
     refine WK.z ?_
     first | refine WK.G 600 Tryz.ntmps229 ?_ | refine WK.D 600 Tryz.ntmps229 ?_
     intro A hA Q hQ
     simp [Oxm.enc]
     refine RunQ.call rfl rfl rfl rfl (by rfl) (by simp (config := zd)) (rfbits_c o.field) (by simp) ?_
     refine RunQ.eval ?_
     simp
     refine RunQ.call rfl rfl rfl rfl (by rfl) (by simp (config := zd) [Wide.enc]) (rlow2_c (fBits o.field) (fBits_le _)) (by simp [Wide.enc]) ?_
     refine RunQ.eval ?_
     simp [Wide.enc]
     apply hQ
     clear hQ hA
     refine WK.z ?_
     refine WK.t Tryz.func229 (by simp (config := zd) [Tryz.results229, Oxm.tern, h, h2, Tern.enc]) (by simp [Oxm.tern, h, h2, Tern.enc])
theorem setC_enc (c : Cube) (o : Oxm) (n : Nat) (hn : o.field = n) (hr : fRight o.field = true) : encC (fun j => if j = n then o.tern else c j) = encC (setC c o) := by
 unfold setC
 rw [if_pos hr, hn]
 congr 1
 funext j
 by_cases h : j = n
 · simp [h]
 · have : ¬ (j : Int) = n := by omega
   simp [h, this]
theorem mcube_c (l : List Oxm) (hl : l.length ≤ 1000000) : FnP Tryz.prog 189 [oxmS l] (.agg (encC (matC l))) := by
 unfold oxmS
 refine FnP.i Tryz.func189 rfl rfl fun G w => ?_
 refine WK.z ?_
 first | refine WK.G 100 Tryz.ntmps189 ?_ | refine WK.D 100 Tryz.ntmps189 ?_
 intro A hA Q hQ
 simp
 apply hQ
 clear hQ hA
 refine WK.z ?_
 first | refine WK.G 200 Tryz.ntmps189 ?_ | refine WK.D 200 Tryz.ntmps189 ?_
 intro A hA Q hQ
 simp
 refine RunQ.call rfl rfl rfl rfl (by rfl) (by simp (config := zd)) (cubeAll_c) (by simp) ?_
 refine RunQ.eval ?_
 simp
 apply hQ
 clear hQ hA
 refine WK.z ?_
 first | refine WK.G 300 Tryz.ntmps189 ?_ | refine WK.D 300 Tryz.ntmps189 ?_
 intro A hA Q hQ
 simp
 apply hQ
 clear hQ hA
 refine WK.z ?_
 refine WK.L (fun n => n) (fun i : Nat => (⟨(upd (upd (upd (upd (upd J 2 (.ptr 0 0)) 3 (.ptr 101 0)) 7 (.sl false l.length (oxmL l))) 8 (.int .i64 l.length)) 9 (.int .i64 i)), (upd (upd B0 0 (.var (encC cubeZ))) 101 (.var (encC (matC (l.take i))))), 0⟩ : St)) (fun i => i ≤ l.length) (fun i => l.length - i) (0) (by repeat (first | exact TmW.nil | refine TmW.upd ?_ (by simp (config := zd) [matC]))) (by repeat (first | exact BxW.nil | refine BxW.upd ?_ (by simp (config := zd) [matC]))) (by omega) (fun i hi IH => ?_)
 refine WK.z ?_
 first | refine WK.G 400 Tryz.ntmps189 ?_ | refine WK.D 400 Tryz.ntmps189 ?_
 intro A hA Q hQ
 simp
 apply hQ
 clear hQ hA
 refine WK.z ?_
 refine WK.c2 rfl (fun h1 => ?_) (fun h1 => ?_)
 · simp at h1
   have h2 : i < l.length := by omega
   have h3 : 6 ≤ l.length * 6 - i * 6 := by omega
   have h4 := oxm_sub l i h2
   have h6 : IntKind.i64.wrap ((i : Int) + 1) = i + 1 := wrap_i64 (by omega) (by omega)
   refine WK.z ?_
   first | refine WK.G 500 Tryz.ntmps189 ?_ | refine WK.D 500 Tryz.ntmps189 ?_
   intro A hA Q hQ
   simp [h1, h2, h3, h4]
   apply hQ
   clear hQ hA
   refine WK.z ?_
   first | refine WK.G 600 Tryz.ntmps189 ?_ | refine WK.D 600 Tryz.ntmps189 ?_
   intro A hA Q hQ
   simp [Oxm.enc]
   refine RunQ.call rfl rfl rfl rfl (by rfl) (by simp (config := zd)) (fright_c (nth l i).field) (by simp) ?_
   refine RunQ.eval ?_
   simp
   apply hQ
   clear hQ hA
   refine WK.z ?_
   refine WK.c2 rfl (fun h5 => ?_) (fun h5 => ?_)
   · obtain ⟨n, hn⟩ : ∃ n : Nat, (nth l i).field = n := ⟨(nth l i).field.toNat, by simp [fRight] at h5; omega⟩
     have h7 : n < 24 := by simp [fRight] at h5; omega
     have h8 : (n : Int) < 24 := by omega
     have h9 : n * 4 + 4 ≤ 96 := by omega
     refine WK.z ?_
     first | refine WK.G 700 Tryz.ntmps189 ?_ | refine WK.regD 700 (clsM [(17, 500)]) (by kernel_rfl) Tryz.ntmps189 (by kernel_rfl) (by kernel_rfl) ?_
     intro A hA Q hQ
     simp [Oxm.enc]
     refine RunQ.call rfl rfl rfl rfl (by rfl) (by simp (config := zd) [Oxm.enc, hn, h7, h8, h9, encC_set]) (otern_c (nth l i)) (by simp [Oxm.enc, hn, h7, h8, h9, encC_set]) ?_
     refine RunQ.eval ?_
     simp [Oxm.enc, hn, h7, h8, h9, encC_set]
     apply hQ
     clear hQ hA
     refine WK.z ?_
     first | refine WK.G 800 Tryz.ntmps189 ?_ | refine WK.D 800 Tryz.ntmps189 ?_
     intro A hA Q hQ
     simp [h6]
     apply hQ
     clear hQ hA
     refine WK.z ?_
     refine WK.N (fun n => n) (IH (i + 1) (by omega) (by first | omega | (dsimp only; omega))) (by repeat (first | exact TmW.nil | refine TmW.upd ?_ (by simp (config := zd) [matC_succ h2, setC_enc _ _ n hn h5, h6]))) (by repeat (first | exact BxW.nil | refine BxW.upd ?_ (by simp (config := zd) [matC_succ h2, setC_enc _ _ n hn h5, h6])))
   · try simp at h5
     have e : setC (matC (l.take i)) (nth l i) = matC (l.take i) := by unfold setC; simp [h5]
     refine WK.z ?_
     first | refine WK.G 900 Tryz.ntmps189 ?_ | refine WK.D 900 Tryz.ntmps189 ?_
     intro A hA Q hQ
     simp [h6]
     apply hQ
     clear hQ hA
     refine WK.z ?_
     refine WK.N (fun n => n) (IH (i + 1) (by omega) (by first | omega | (dsimp only; omega))) (by repeat (first | exact TmW.nil | refine TmW.upd ?_ (by simp (config := zd) [matC_succ h2, e, h6]))) (by repeat (first | exact BxW.nil | refine BxW.upd ?_ (by simp (config := zd) [matC_succ h2, e, h6])))
 · simp at h1
   have e : l.take i = l := List.take_of_length_le (by omega)
   refine WK.z ?_
   first | refine WK.G 1000 Tryz.ntmps189 ?_ | refine WK.D 1000 Tryz.ntmps189 ?_
   intro A hA Q hQ
   simp
   apply hQ
   clear hQ hA
   refine WK.z ?_
   refine WK.t Tryz.func189 (by simp (config := zd) [Tryz.results189, e]) (by simp [e])
theorem rmcube_c (l : List Oxm) (hl : l.length ≤ 1000000) : FnP Tryz.prog 192 [oxmS l] (.agg (encC (matC l))) := by
 unfold oxmS
 refine FnP.i Tryz.func192 rfl rfl fun G w => ?_
 refine WK.z ?_
 first | refine WK.G 100 Tryz.ntmps192 ?_ | refine WK.D 100 Tryz.ntmps192 ?_
 intro A hA Q hQ
 simp
 apply hQ
 clear hQ hA
 refine WK.z ?_
 first | refine WK.G 200 Tryz.ntmps192 ?_ | refine WK.D 200 Tryz.ntmps192 ?_
 intro A hA Q hQ
 simp
 apply hQ
 clear hQ hA
 refine WK.z ?_
 first | refine WK.G 300 Tryz.ntmps192 ?_ | refine WK.D 300 Tryz.ntmps192 ?_
 intro A hA Q hQ
 simp
 apply hQ
 clear hQ hA
 refine WK.z ?_
 refine WK.L (fun n => n) (fun i : Nat => (⟨(upd (upd (upd (upd J 0 (.sl false l.length (oxmL l))) 2 (.ptr 0 0)) 3 (.ptr 101 0)) 4 (.int .i64 i)), (upd (upd B0 0 (.var (encC cubeZ))) 101 (.var (encC (matC (l.take i))))), 0⟩ : St)) (fun i => i ≤ l.length) (fun i => l.length - i) (0) (by repeat (first | exact TmW.nil | refine TmW.upd ?_ (by simp (config := zd) [matC]))) (by repeat (first | exact BxW.nil | refine BxW.upd ?_ (by simp (config := zd) [matC]))) (by omega) (fun i hi IH => ?_)
 refine WK.z ?_
 first | refine WK.G 400 Tryz.ntmps192 ?_ | refine WK.D 400 Tryz.ntmps192 ?_
 intro A hA Q hQ
 simp
 apply hQ
 clear hQ hA
 refine WK.z ?_
 refine WK.c2 rfl (fun h1 => ?_) (fun h1 => ?_)
 · simp at h1
   have h2 : i < l.length := by omega
   have h3 : 6 ≤ l.length * 6 - i * 6 := by omega
   have h4 := oxm_sub l i h2
   have h6 : IntKind.i64.wrap ((i : Int) + 1) = i + 1 := wrap_i64 (by omega) (by omega)
   have h10 := oxm_get0 l i h2
   refine WK.z ?_
   first | refine WK.G 500 Tryz.ntmps192 ?_ | refine WK.D 500 Tryz.ntmps192 ?_
   intro A hA Q hQ
   simp [h1, h2, h3, h4, h10]
   refine RunQ.call rfl rfl rfl rfl (by rfl) (by simp (config := zd) [h10]) (rfright_c (nth l i).field) (by simp [h10]) ?_
   refine RunQ.eval ?_
   simp [h10]
   apply hQ
   clear hQ hA
   refine WK.z ?_
   refine WK.c2 rfl (fun h5 => ?_) (fun h5 => ?_)
   · obtain ⟨n, hn⟩ : ∃ n : Nat, (nth l i).field = n := ⟨(nth l i).field.toNat, by simp [fRight] at h5; omega⟩
     have h7 : n < 24 := by simp [fRight] at h5; omega
     have h8 : (n : Int) < 24 := by omega
     have h9 : n * 4 + 4 ≤ 96 := by omega
     refine WK.z ?_
     first | refine WK.G 600 Tryz.ntmps192 ?_ | refine WK.D 600 Tryz.ntmps192 ?_
     intro A hA Q hQ
     simp [h1, h2, h3, h4, h10]
     refine RunQ.call rfl rfl rfl rfl (by rfl) (by simp (config := zd) [hn, h7, h8, h9, h10, encC_set]) (rotern_c (nth l i)) (by simp [hn, h7, h8, h9, h10, encC_set]) ?_
     refine RunQ.eval ?_
     simp [hn, h7, h8, h9, h10, encC_set]
     apply hQ
     clear hQ hA
     refine WK.z ?_
     first | refine WK.G 700 Tryz.ntmps192 ?_ | refine WK.D 700 Tryz.ntmps192 ?_
     intro A hA Q hQ
     simp [h6]
     apply hQ
     clear hQ hA
     refine WK.z ?_
     refine WK.N (fun n => n) (IH (i + 1) (by omega) (by first | omega | (dsimp only; omega))) (by repeat (first | exact TmW.nil | refine TmW.upd ?_ (by simp (config := zd) [matC_succ h2, setC_enc _ _ n hn h5, h6]))) (by repeat (first | exact BxW.nil | refine BxW.upd ?_ (by simp (config := zd) [matC_succ h2, setC_enc _ _ n hn h5, h6])))
   · try simp at h5
     have e : setC (matC (l.take i)) (nth l i) = matC (l.take i) := by unfold setC; simp [h5]
     refine WK.z ?_
     first | refine WK.G 800 Tryz.ntmps192 ?_ | refine WK.D 800 Tryz.ntmps192 ?_
     intro A hA Q hQ
     simp [h6]
     apply hQ
     clear hQ hA
     refine WK.z ?_
     refine WK.N (fun n => n) (IH (i + 1) (by omega) (by first | omega | (dsimp only; omega))) (by repeat (first | exact TmW.nil | refine TmW.upd ?_ (by simp (config := zd) [matC_succ h2, e, h6]))) (by repeat (first | exact BxW.nil | refine BxW.upd ?_ (by simp (config := zd) [matC_succ h2, e, h6])))
 · simp at h1
   have e : l.take i = l := List.take_of_length_le (by omega)
   refine WK.z ?_
   first | refine WK.G 900 Tryz.ntmps192 ?_ | refine WK.D 900 Tryz.ntmps192 ?_
   intro A hA Q hQ
   simp
   apply hQ
   clear hQ hA
   refine WK.z ?_
   refine WK.t Tryz.func192 (by simp (config := zd) [Tryz.results192, e]) (by simp [e])
def Flow.cube (f : Flow) : Cube := cubeClean (matC f.mat)
theorem fcube_c (f : Flow) (hl : f.mat.length ≤ 1000000) : FnP Tryz.prog 146 [.agg f.enc] (.agg (encC (Flow.cube f))) := by
 refine FnP.i Tryz.func146 rfl rfl fun G w => ?_
 refine WK.z ?_
 first | refine WK.G 100 Tryz.ntmps146 ?_ | refine WK.D 100 Tryz.ntmps146 ?_
 intro A hA Q hQ
 simp
 apply hQ
 clear hQ hA
 refine WK.z ?_
 first | refine WK.G 200 Tryz.ntmps146 ?_ | refine WK.D 200 Tryz.ntmps146 ?_
 intro A hA Q hQ
 simp [Flow.enc]
 refine RunQ.call rfl rfl rfl rfl (by rfl) (by simp (config := zd) [oxmS]) (mcube_c f.mat hl) (by simp [oxmS]) ?_
 refine RunQ.eval ?_
 simp [oxmS]
 refine RunQ.call rfl rfl rfl rfl (by rfl) (by simp (config := zd)) (cclean_c (matC f.mat)) (by simp) ?_
 refine RunQ.eval ?_
 simp
 apply hQ
 clear hQ hA
 refine WK.z ?_
 refine WK.t Tryz.func146 (by simp (config := zd) [Tryz.results146, Flow.cube]) (by simp [Flow.cube])
theorem rfcube_c (f : Flow) (hl : f.mat.length ≤ 1000000) : FnP Tryz.prog 152 [.agg f.enc] (.agg (encC (Flow.cube f))) := by
 refine FnP.i Tryz.func152 rfl rfl fun G w => ?_
 refine WK.z ?_
 first | refine WK.G 100 Tryz.ntmps152 ?_ | refine WK.D 100 Tryz.ntmps152 ?_
 intro A hA Q hQ
 simp
 apply hQ
 clear hQ hA
 refine WK.z ?_
 first | refine WK.G 200 Tryz.ntmps152 ?_ | refine WK.D 200 Tryz.ntmps152 ?_
 intro A hA Q hQ
 simp [Flow.enc]
 refine RunQ.call rfl rfl rfl rfl (by rfl) (by simp (config := zd) [oxmS]) (rmcube_c f.mat hl) (by simp [oxmS]) ?_
 refine RunQ.eval ?_
 simp [oxmS]
 refine RunQ.call rfl rfl rfl rfl (by rfl) (by simp (config := zd)) (rcclean_c (matC f.mat)) (by simp) ?_
 refine RunQ.eval ?_
 simp
 apply hQ
 clear hQ hA
 refine WK.z ?_
 refine WK.t Tryz.func152 (by simp (config := zd) [Tryz.results152, Flow.cube]) (by simp [Flow.cube])
end Go.Proofs.YtmhapglejjehbaaGreat
