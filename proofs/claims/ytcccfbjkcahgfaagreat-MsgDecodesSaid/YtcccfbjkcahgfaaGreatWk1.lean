/- The facts of the types of the program that the claim is about: how many cells and bytes a value has, which parts, which zero value, and which values are compared cell by cell. -/
import Derived.Test.YtcccfbjkcahgfaaGreatProg
import Derived.Test.YtcccfbjkcahgfaaGreatDa
import Derived.Test.YtcccfbjkcahgfaaGreatRows
set_option linter.all false
set_option linter.unnecessarySimpa false
namespace Go.Proofs.YtcccfbjkcahgfaaGreat
open Go Go.AI Go.Proofs
@[simp] theorem td3 : td Tryz.prog 3 = .int .i64 := by kernel_rfl
@[simp] theorem sz3 : sz Tryz.prog 3 = 1 := by kernel_rfl
@[simp] theorem td4 : td Tryz.prog 4 = .bool := by kernel_rfl
@[simp] theorem sz4 : sz Tryz.prog 4 = 1 := by kernel_rfl
@[simp] theorem td5 : td Tryz.prog 5 = .int .u8 := by kernel_rfl
@[simp] theorem sz5 : sz Tryz.prog 5 = 1 := by kernel_rfl
@[simp] theorem byt5 : byt Tryz.prog 5 = 1 := by kernel_rfl
@[simp] theorem zr5 : zr Tryz.prog 5 = .int .u8 0 := by kernel_rfl
@[simp] theorem td9 : td Tryz.prog 9 = .string := by kernel_rfl
@[simp] theorem sz9 : sz Tryz.prog 9 = 1 := by kernel_rfl
@[simp] theorem td22 : td Tryz.prog 22 = .int .u64 := by kernel_rfl
@[simp] theorem sz22 : sz Tryz.prog 22 = 1 := by kernel_rfl
@[simp] theorem zr22 : zr Tryz.prog 22 = .int .u64 0 := by kernel_rfl
@[simp] theorem td23 : td Tryz.prog 23 = .slice 138 := by kernel_rfl
@[simp] theorem sz23 : sz Tryz.prog 23 = 1 := by kernel_rfl
@[simp] theorem td24 : td Tryz.prog 24 = .slice 130 := by kernel_rfl
@[simp] theorem sz24 : sz Tryz.prog 24 = 1 := by kernel_rfl
@[simp] theorem td26 : td Tryz.prog 26 = .struct [(0, 22), (1, 22), (2, 3), (3, 3), (4, 3), (5, 3), (6, 3), (7, 3), (8, 3), (9, 3), (10, 3), (11, 23), (12, 24)] := by kernel_rfl
@[simp] theorem sz26 : sz Tryz.prog 26 = 13 := by kernel_rfl
@[simp] theorem zr26 : zr Tryz.prog 26 = .agg ([.int .u64 0, .int .u64 0, .int .i64 0, .int .i64 0, .int .i64 0, .int .i64 0, .int .i64 0, .int .i64 0, .int .i64 0, .int .i64 0, .int .i64 0, .sl true 0 [], .sl true 0 []]) := by kernel_rfl
@[simp] theorem td27 : td Tryz.prog 27 = .slice 83 := by kernel_rfl
@[simp] theorem sz27 : sz Tryz.prog 27 = 1 := by kernel_rfl
@[simp] theorem td29 : td Tryz.prog 29 = .struct [(0, 3), (1, 3), (2, 3), (3, 27)] := by kernel_rfl
@[simp] theorem sz29 : sz Tryz.prog 29 = 4 := by kernel_rfl
@[simp] theorem zr29 : zr Tryz.prog 29 = .agg ([.int .i64 0, .int .i64 0, .int .i64 0, .sl true 0 []]) := by kernel_rfl
@[simp] theorem td31 : td Tryz.prog 31 = .struct [(0, 4), (1, 3), (2, 3)] := by kernel_rfl
@[simp] theorem sz31 : sz Tryz.prog 31 = 3 := by kernel_rfl
@[simp] theorem zr31 : zr Tryz.prog 31 = .agg ([.bool false, .int .i64 0, .int .i64 0]) := by kernel_rfl
@[simp] theorem fl31 : flatT Tryz.prog 31 = some ([true, false, false]) := by kernel_rfl
@[simp] theorem td32 : td Tryz.prog 32 = .slice 5 := by kernel_rfl
@[simp] theorem sz32 : sz Tryz.prog 32 = 1 := by kernel_rfl
@[simp] theorem td34 : td Tryz.prog 34 = .struct [(0, 3), (1, 3), (2, 26), (15, 29), (19, 31), (22, 32)] := by kernel_rfl
@[simp] theorem sz34 : sz Tryz.prog 34 = 23 := by kernel_rfl
@[simp] theorem zr34 : zr Tryz.prog 34 = .agg ([.int .i64 0, .int .i64 0, .int .u64 0, .int .u64 0, .int .i64 0, .int .i64 0, .int .i64 0, .int .i64 0, .int .i64 0, .int .i64 0, .int .i64 0, .int .i64 0, .int .i64 0, .sl true 0 [], .sl true 0 [], .int .i64 0, .int .i64 0, .int .i64 0, .sl true 0 [], .bool false, .int .i64 0, .int .i64 0, .sl true 0 []]) := by kernel_rfl
@[simp] theorem td37 : td Tryz.prog 37 = .int .i64 := by kernel_rfl
@[simp] theorem td52 : td Tryz.prog 52 = .iface false := by kernel_rfl
@[simp] theorem td81 : td Tryz.prog 81 = .slice 143 := by kernel_rfl
@[simp] theorem sz81 : sz Tryz.prog 81 = 1 := by kernel_rfl
@[simp] theorem td83 : td Tryz.prog 83 = .struct [(0, 3), (1, 3), (2, 3), (3, 81)] := by kernel_rfl
@[simp] theorem sz83 : sz Tryz.prog 83 = 4 := by kernel_rfl
@[simp] theorem byt83 : byt Tryz.prog 83 = 48 := by kernel_rfl
@[simp] theorem zr83 : zr Tryz.prog 83 = .agg ([.int .i64 0, .int .i64 0, .int .i64 0, .sl true 0 []]) := by kernel_rfl
@[simp] theorem td87 : td Tryz.prog 87 = .struct [(0, 32)] := by kernel_rfl
@[simp] theorem sz87 : sz Tryz.prog 87 = 1 := by kernel_rfl
@[simp] theorem zr87 : zr Tryz.prog 87 = .agg ([.sl true 0 []]) := by kernel_rfl
@[simp] theorem td89 : td Tryz.prog 89 = .struct [(0, 87), (1, 31)] := by kernel_rfl
@[simp] theorem zr89 : zr Tryz.prog 89 = .agg ([.sl true 0 [], .bool false, .int .i64 0, .int .i64 0]) := by kernel_rfl
@[simp] theorem td91 : td Tryz.prog 91 = .struct [(0, 26)] := by kernel_rfl
@[simp] theorem zr91 : zr Tryz.prog 91 = .agg ([.int .u64 0, .int .u64 0, .int .i64 0, .int .i64 0, .int .i64 0, .int .i64 0, .int .i64 0, .int .i64 0, .int .i64 0, .int .i64 0, .int .i64 0, .sl true 0 [], .sl true 0 []]) := by kernel_rfl
@[simp] theorem td93 : td Tryz.prog 93 = .struct [(0, 29)] := by kernel_rfl
@[simp] theorem zr93 : zr Tryz.prog 93 = .agg ([.int .i64 0, .int .i64 0, .int .i64 0, .sl true 0 []]) := by kernel_rfl
@[simp] theorem td96 : td Tryz.prog 96 = .struct [(0, 22), (1, 22)] := by kernel_rfl
@[simp] theorem sz96 : sz Tryz.prog 96 = 2 := by kernel_rfl
@[simp] theorem byt96 : byt Tryz.prog 96 = 16 := by kernel_rfl
@[simp] theorem zr96 : zr Tryz.prog 96 = .agg ([.int .u64 0, .int .u64 0]) := by kernel_rfl
@[simp] theorem fl96 : flatT Tryz.prog 96 = some ([false, false]) := by kernel_rfl
@[simp] theorem td104 : td Tryz.prog 104 = .struct [(0, 26)] := by kernel_rfl
@[simp] theorem zr104 : zr Tryz.prog 104 = .agg ([.int .u64 0, .int .u64 0, .int .i64 0, .int .i64 0, .int .i64 0, .int .i64 0, .int .i64 0, .int .i64 0, .int .i64 0, .int .i64 0, .int .i64 0, .sl true 0 [], .sl true 0 []]) := by kernel_rfl
@[simp] theorem td105 : td Tryz.prog 105 = .array 9 3 := by kernel_rfl
@[simp] theorem sz105 : sz Tryz.prog 105 = 9 := by kernel_rfl
@[simp] theorem zr105 : zr Tryz.prog 105 = .agg ([.int .i64 0, .int .i64 0, .int .i64 0, .int .i64 0, .int .i64 0, .int .i64 0, .int .i64 0, .int .i64 0, .int .i64 0]) := by kernel_rfl
@[simp] theorem fl105 : flatT Tryz.prog 105 = some ([false, false, false, false, false, false, false, false, false]) := by kernel_rfl
@[simp] theorem td109 : td Tryz.prog 109 = .array 3 3 := by kernel_rfl
@[simp] theorem zr109 : zr Tryz.prog 109 = .agg ([.int .i64 0, .int .i64 0, .int .i64 0]) := by kernel_rfl
@[simp] theorem fl109 : flatT Tryz.prog 109 = some ([false, false, false]) := by kernel_rfl
@[simp] theorem td112 : td Tryz.prog 112 = .int .u64 := by kernel_rfl
@[simp] theorem td130 : td Tryz.prog 130 = .struct [(0, 3), (1, 3), (2, 96), (4, 96), (6, 81)] := by kernel_rfl
@[simp] theorem sz130 : sz Tryz.prog 130 = 7 := by kernel_rfl
@[simp] theorem byt130 : byt Tryz.prog 130 = 72 := by kernel_rfl
@[simp] theorem zr130 : zr Tryz.prog 130 = .agg ([.int .i64 0, .int .i64 0, .int .u64 0, .int .u64 0, .int .u64 0, .int .u64 0, .sl true 0 []]) := by kernel_rfl
@[simp] theorem td133 : td Tryz.prog 133 = .array 4 5 := by kernel_rfl
@[simp] theorem zr133 : zr Tryz.prog 133 = .agg ([.int .u8 0, .int .u8 0, .int .u8 0, .int .u8 0]) := by kernel_rfl
@[simp] theorem td138 : td Tryz.prog 138 = .struct [(0, 3), (1, 4), (2, 96), (4, 96)] := by kernel_rfl
@[simp] theorem sz138 : sz Tryz.prog 138 = 6 := by kernel_rfl
@[simp] theorem byt138 : byt Tryz.prog 138 = 48 := by kernel_rfl
@[simp] theorem zr138 : zr Tryz.prog 138 = .agg ([.int .i64 0, .bool false, .int .u64 0, .int .u64 0, .int .u64 0, .int .u64 0]) := by kernel_rfl
@[simp] theorem fl138 : flatT Tryz.prog 138 = some ([false, true, false, false, false, false]) := by kernel_rfl
@[simp] theorem td143 : td Tryz.prog 143 = .struct [(0, 3), (1, 3), (2, 3), (3, 3), (4, 3), (5, 138)] := by kernel_rfl
@[simp] theorem sz143 : sz Tryz.prog 143 = 11 := by kernel_rfl
@[simp] theorem byt143 : byt Tryz.prog 143 = 88 := by kernel_rfl
@[simp] theorem zr143 : zr Tryz.prog 143 = .agg ([.int .i64 0, .int .i64 0, .int .i64 0, .int .i64 0, .int .i64 0, .int .i64 0, .bool false, .int .u64 0, .int .u64 0, .int .u64 0, .int .u64 0]) := by kernel_rfl
@[simp] theorem fl143 : flatT Tryz.prog 143 = some ([false, false, false, false, false, false, true, false, false, false, false]) := by kernel_rfl
@[simp] theorem td165 : td Tryz.prog 165 = .slice 169 := by kernel_rfl
@[simp] theorem td167 : td Tryz.prog 167 = .slice 96 := by kernel_rfl
@[simp] theorem sz167 : sz Tryz.prog 167 = 1 := by kernel_rfl
@[simp] theorem td169 : td Tryz.prog 169 = .struct [(0, 3), (1, 167)] := by kernel_rfl
@[simp] theorem sz169 : sz Tryz.prog 169 = 2 := by kernel_rfl
@[simp] theorem byt169 : byt Tryz.prog 169 = 32 := by kernel_rfl
@[simp] theorem zr169 : zr Tryz.prog 169 = .agg ([.int .i64 0, .sl true 0 []]) := by kernel_rfl
@[simp] theorem td199 : td Tryz.prog 199 = .slice 22 := by kernel_rfl
@[simp] theorem td201 : td Tryz.prog 201 = .struct [(0, 9), (1, 3), (2, 3), (3, 4)] := by kernel_rfl
@[simp] theorem sz201 : sz Tryz.prog 201 = 4 := by kernel_rfl
@[simp] theorem zr201 : zr Tryz.prog 201 = .agg ([.str ByteArray.empty, .int .i64 0, .int .i64 0, .bool false]) := by kernel_rfl
@[simp] theorem td205 : td Tryz.prog 205 = .array 24 201 := by kernel_rfl
@[simp] theorem sz205 : sz Tryz.prog 205 = 96 := by kernel_rfl
@[simp] theorem zr205 : zr Tryz.prog 205 = .agg ([.str ByteArray.empty, .int .i64 0, .int .i64 0, .bool false, .str ByteArray.empty, .int .i64 0, .int .i64 0, .bool false, .str ByteArray.empty, .int .i64 0, .int .i64 0, .bool false, .str ByteArray.empty, .int .i64 0, .int .i64 0, .bool false, .str ByteArray.empty, .int .i64 0, .int .i64 0, .bool false, .str ByteArray.empty, .int .i64 0, .int .i64 0, .bool false, .str ByteArray.empty, .int .i64 0, .int .i64 0, .bool false, .str ByteArray.empty, .int .i64 0, .int .i64 0, .bool false, .str ByteArray.empty, .int .i64 0, .int .i64 0, .bool false, .str ByteArray.empty, .int .i64 0, .int .i64 0, .bool false, .str ByteArray.empty, .int .i64 0, .int .i64 0, .bool false, .str ByteArray.empty, .int .i64 0, .int .i64 0, .bool false, .str ByteArray.empty, .int .i64 0, .int .i64 0, .bool false, .str ByteArray.empty, .int .i64 0, .int .i64 0, .bool false, .str ByteArray.empty, .int .i64 0, .int .i64 0, .bool false, .str ByteArray.empty, .int .i64 0, .int .i64 0, .bool false, .str ByteArray.empty, .int .i64 0, .int .i64 0, .bool false, .str ByteArray.empty, .int .i64 0, .int .i64 0, .bool false, .str ByteArray.empty, .int .i64 0, .int .i64 0, .bool false, .str ByteArray.empty, .int .i64 0, .int .i64 0, .bool false, .str ByteArray.empty, .int .i64 0, .int .i64 0, .bool false, .str ByteArray.empty, .int .i64 0, .int .i64 0, .bool false, .str ByteArray.empty, .int .i64 0, .int .i64 0, .bool false, .str ByteArray.empty, .int .i64 0, .int .i64 0, .bool false]) := by kernel_rfl
@[simp] theorem td232 : td Tryz.prog 232 = .array 16 5 := by kernel_rfl
@[simp] theorem zr232 : zr Tryz.prog 232 = .agg ([.int .u8 0, .int .u8 0, .int .u8 0, .int .u8 0, .int .u8 0, .int .u8 0, .int .u8 0, .int .u8 0, .int .u8 0, .int .u8 0, .int .u8 0, .int .u8 0, .int .u8 0, .int .u8 0, .int .u8 0, .int .u8 0]) := by kernel_rfl
@[simp] theorem td236 : td Tryz.prog 236 = .array 2 3 := by kernel_rfl
@[simp] theorem sz236 : sz Tryz.prog 236 = 2 := by kernel_rfl
@[simp] theorem zr236 : zr Tryz.prog 236 = .agg ([.int .i64 0, .int .i64 0]) := by kernel_rfl
@[simp] theorem td237 : td Tryz.prog 237 = .slice 236 := by kernel_rfl
end Go.Proofs.YtcccfbjkcahgfaaGreat

namespace Go.Proofs.YtcccfbjkcahgfaaGreat
open Go Go.AI Go.Proofs Go.Proofs.YtcccfbjkcahgfaaGreat
theorem law_own : ownKnob Tryz.prog.godebug = none := by kernel_rfl
theorem law_laid : laidOutB Tryz.prog = true := by kernel_rfl
def zeroCells (n : Nat) : Array Value := (List.replicate n (Value.int .u64 0)).toArray
end Go.Proofs.YtcccfbjkcahgfaaGreat

namespace Go.Proofs.YtcccfbjkcahgfaaGreat
open Go Go.AI Go.Proofs
theorem less_c (a b : Wide) : FnP Tryz.prog 186 [.agg a.enc, .agg b.enc] (.agg (a.less b).enc) := by
 refine FnP.i Tryz.func186 rfl rfl fun G w => ?_
 repeat apply WK.s
 refine WK.g 100 Tryz.ntmps186 (by kernel_rfl) ?_
 intro A hA Q hQ
 simp
 apply hQ
 clear hQ hA
 repeat apply WK.s
 refine WK.g 200 Tryz.ntmps186 (by kernel_rfl) ?_
 intro A hA Q hQ
 simp [Wide.enc]
 apply hQ
 clear hQ hA
 refine WK.t Tryz.func186 (by simp (maxDischargeDepth := 120) [Tryz.results186, Wide.enc, Wide.less]) (by simp [Wide.enc, Wide.less])
theorem zero_c (a : Wide) : FnP Tryz.prog 185 [.agg a.enc] (.bool a.zero) := by
 refine FnP.i Tryz.func185 rfl rfl fun G w => ?_
 repeat apply WK.s
 refine WK.g 100 Tryz.ntmps185 (by kernel_rfl) ?_
 intro A hA Q hQ
 simp
 apply hQ
 clear hQ hA
 repeat apply WK.s
 refine WK.g 200 Tryz.ntmps185 (by kernel_rfl) ?_
 intro A hA Q hQ
 simp [Wide.enc]
 apply hQ
 clear hQ hA
 refine WK.t Tryz.func185 (by simp (maxDischargeDepth := 120) [Tryz.results185, Wide.zero]) (by simp [Wide.zero])
theorem ror_c (a b : Wide) : FnP Tryz.prog 170 [.agg a.enc, .agg b.enc] (.agg (a.or b).enc) := by
 refine FnP.i Tryz.func170 rfl rfl fun G w => ?_
 repeat apply WK.s
 refine WK.g 100 Tryz.ntmps170 (by kernel_rfl) ?_
 intro A hA Q hQ
 simp
 apply hQ
 clear hQ hA
 repeat apply WK.s
 refine WK.g 200 Tryz.ntmps170 (by kernel_rfl) ?_
 intro A hA Q hQ
 simp [Wide.enc]
 apply hQ
 clear hQ hA
 refine WK.t Tryz.func170 (by simp (maxDischargeDepth := 120) [Tryz.results170, Wide.enc, Wide.or]) (by simp [Wide.enc, Wide.or])
theorem rless_c (a b : Wide) : FnP Tryz.prog 148 [.agg a.enc, .agg b.enc] (.agg (a.less b).enc) := by
 refine FnP.i Tryz.func148 rfl rfl fun G w => ?_
 repeat apply WK.s
 refine WK.g 100 Tryz.ntmps148 (by kernel_rfl) ?_
 intro A hA Q hQ
 simp
 apply hQ
 clear hQ hA
 repeat apply WK.s
 refine WK.g 200 Tryz.ntmps148 (by kernel_rfl) ?_
 intro A hA Q hQ
 simp [Wide.enc]
 apply hQ
 clear hQ hA
 refine WK.t Tryz.func148 (by simp (maxDischargeDepth := 120) [Tryz.results148, Wide.enc, Wide.less]) (by simp [Wide.enc, Wide.less])
theorem rzero_c (a : Wide) : FnP Tryz.prog 147 [.agg a.enc] (.bool a.zero) := by
 rw [Wide.zero_eq]
 cases hz : (a.hi == 0#64)
 all_goals
   refine FnP.i Tryz.func147 rfl rfl fun G w => ?_
   repeat apply WK.s
   refine WK.g 100 Tryz.ntmps147 (by kernel_rfl) ?_
   intro A hA Q hQ
   simp
   apply hQ
   clear hQ hA
   repeat apply WK.s
   refine WK.g 200 Tryz.ntmps147 (by kernel_rfl) ?_
   intro A hA Q hQ
   have hg3 : (A[3]?).bind (·.dst) = some 6 := by rw [hA]; rfl
   simp [Wide.enc, hz, hg3]
   apply hQ
   clear hQ hA
   refine WK.t Tryz.func147 (by simp (maxDischargeDepth := 120) [Tryz.results147]) (by simp)

theorem fright_c (f : Int) : FnP Tryz.prog 195 [.int .i64 f] (.bool (fRight f)) := by
 cases h : decide (f ≥ 0)
 all_goals
   refine FnP.i Tryz.func195 rfl rfl fun G w => ?_
   repeat apply WK.s
   refine WK.g 100 Tryz.ntmps195 (by kernel_rfl) ?_
   intro A hA Q hQ
   simp
   apply hQ
   clear hQ hA
   repeat apply WK.s
   refine WK.g 200 Tryz.ntmps195 (by kernel_rfl) ?_
   intro A hA Q hQ
   have hg2 : (A[2]?).bind (·.dst) = some 5 := by rw [hA]; rfl
   simp [h, hg2]
   apply hQ
   clear hQ hA
   refine WK.t Tryz.func195 (by simp (maxDischargeDepth := 120) [Tryz.results195, fRight, h]) (by simp [fRight, h])
theorem rfright_c (f : Int) : FnP Tryz.prog 151 [.int .i64 f] (.bool (fRight f)) := by
 cases h : decide (f ≥ 0)
 all_goals
   refine FnP.i Tryz.func151 rfl rfl fun G w => ?_
   repeat apply WK.s
   refine WK.g 100 Tryz.ntmps151 (by kernel_rfl) ?_
   intro A hA Q hQ
   simp
   apply hQ
   clear hQ hA
   repeat apply WK.s
   refine WK.g 200 Tryz.ntmps151 (by kernel_rfl) ?_
   intro A hA Q hQ
   have hg2 : (A[2]?).bind (·.dst) = some 5 := by rw [hA]; rfl
   simp [h, hg2]
   apply hQ
   clear hQ hA
   refine WK.t Tryz.func151 (by simp (maxDischargeDepth := 120) [Tryz.results151, fRight, h]) (by simp [fRight, h])
def rowsC : List AV := fRows.flatMap rowEnc
@[simp] theorem rowsC_len : rowsC.length = 96 := rfl
theorem rows_c : FnP Tryz.prog 194 [] (.agg rowsC) := by
 refine FnP.i Tryz.func194 rfl rfl fun G w => ?_
 repeat apply WK.s
 refine WK.g 100 Tryz.ntmps194 (by kernel_rfl) ?_
 intro A hA Q hQ
 simp
 apply hQ
 clear hQ hA
 repeat apply WK.s
 refine WK.g 200 Tryz.ntmps194 (by kernel_rfl) ?_
 intro A hA Q hQ
 simp
 apply hQ
 clear hQ hA
 refine WK.t Tryz.func194 (by simp (maxDischargeDepth := 120) [Tryz.results194, rowsC, fRows, rowEnc]) (by simp [rowsC, fRows, rowEnc])
theorem rowEnc_len (r : Int × Int × Bool) : (rowEnc r).length = 4 := rfl
theorem rowEnc_cl (r : Int × Int × Bool) : ClL (rowEnc r) = true := by simp [rowEnc, ClL, Cl]
theorem row_sub (f : Int) (h : 0 ≤ f ∧ f < 24) : (rowsC.drop (f.toNat * 4)).take 4 = rowEnc (fRow f) := by
 unfold rowsC
 rw [fm_nth rowEnc_len _ _ (by show f.toNat < 24; omega)]
 unfold fRow; rw [if_pos h]
theorem fat_c (f : Int) : FnP Tryz.prog 183 [.int .i64 f] (.agg (rowEnc (fRow f))) := by
 refine FnP.i Tryz.func183 rfl rfl fun G w => ?_
 repeat apply WK.s
 refine WK.g 100 Tryz.ntmps183 (by kernel_rfl) ?_
 intro A hA Q hQ
 simp
 apply hQ
 clear hQ hA
 repeat apply WK.s
 refine WK.g 200 Tryz.ntmps183 (by kernel_rfl) ?_
 intro A hA Q hQ
 simp
 refine RunQ.call rfl rfl rfl rfl (by rfl) (by simp (maxDischargeDepth := 120)) (fright_c f) (by simp) ?_
 refine RunQ.eval ?_
 simp
 apply hQ
 clear hQ hA
 refine WK.c2 rfl (fun h => ?_) (fun h => ?_)
 · simp [fRight] at h
   have h2 : fRow f = (-1, 0, false) := by unfold fRow; rw [if_neg (by omega)]
   repeat apply WK.s
   refine WK.g 300 Tryz.ntmps183 (by kernel_rfl) ?_
   intro A hA Q hQ
   simp
   apply hQ
   clear hQ hA
   refine WK.t Tryz.func183 (by simp (maxDischargeDepth := 120) [Tryz.results183, h2, rowEnc]) (by simp [h2, rowEnc])
 · simp [fRight] at h
   have h3 : f.toNat * 4 + 4 ≤ 96 := by omega
   repeat (first | apply WK.s | apply WK.k)
   refine WK.g 400 Tryz.ntmps183 (by kernel_rfl) ?_
   intro A hA Q hQ
   simp
   refine RunQ.call rfl rfl rfl rfl (by rfl) (by simp (maxDischargeDepth := 120) [h, h3, row_sub f h, rowEnc_len]) (rows_c) (by simp [h, h3, row_sub f h, rowEnc_len]) ?_
   refine RunQ.eval ?_
   simp [h, h3, row_sub f h, rowEnc_len]
   apply hQ
   clear hQ hA
   refine WK.t Tryz.func183 (by simp (maxDischargeDepth := 120) [Tryz.results183, rowEnc]) (by simp [rowEnc])
theorem fbits_c (f : Int) : FnP Tryz.prog 188 [.int .i64 f] (.int .i64 (fBits f)) := by
 refine FnP.i Tryz.func188 rfl rfl fun G w => ?_
 repeat apply WK.s
 refine WK.g 100 Tryz.ntmps188 (by kernel_rfl) ?_
 intro A hA Q hQ
 simp
 apply hQ
 clear hQ hA
 repeat apply WK.s
 refine WK.g 200 Tryz.ntmps188 (by kernel_rfl) ?_
 intro A hA Q hQ
 simp
 refine RunQ.call rfl rfl rfl rfl (by rfl) (by simp (maxDischargeDepth := 120) [rowEnc]) (fat_c f) (by simp [rowEnc]) ?_
 refine RunQ.eval ?_
 simp [rowEnc]
 apply hQ
 clear hQ hA
 refine WK.t Tryz.func188 (by simp (maxDischargeDepth := 120) [Tryz.results188, fBits]) (by simp [fBits])
theorem rup_c (f : Int) : FnP Tryz.prog 178 [.int .i64 f] (.tup [.junk, .int .i64 (rowUp f).1, .int .i64 (rowUp f).2.1, .bool (rowUp f).2.2]) := by
 unfold rowUp
 refine FnP.i Tryz.func178 rfl rfl fun G w => ?_
 repeat apply WK.s
 refine WK.g 100 Tryz.ntmps178 (by kernel_rfl) ?_
 intro A hA Q hQ
 simp
 apply hQ
 clear hQ hA
 repeat apply WK.s
 refine WK.g 200 Tryz.ntmps178 (by kernel_rfl) ?_
 intro A hA Q hQ
 simp
 apply hQ
 clear hQ hA
 iterate 12
   repeat (first | apply WK.s | apply WK.b)
   refine WK.g 300 Tryz.ntmps178 (by kernel_rfl) ?_
   intro A hA Q hQ
   simp
   apply hQ
   clear hQ hA
   refine WK.c2 rfl (fun h => ?_) (fun h => ?_)
   · simp at h
     repeat apply WK.s
     refine WK.g 400 Tryz.ntmps178 (by kernel_rfl) ?_
     intro A hA Q hQ
     simp
     apply hQ
     clear hQ hA
     refine WK.t Tryz.func178 (by simp (maxDischargeDepth := 120) [Tryz.results178, h]) (by simp [h])
   simp at h
 repeat (first | apply WK.s | apply WK.n | apply WK.k)
 refine WK.g 500 Tryz.ntmps178 (by kernel_rfl) ?_
 intro A hA Q hQ
 simp
 apply hQ
 clear hQ hA
 refine WK.t Tryz.func178 (by simp (maxDischargeDepth := 120) [Tryz.results178, *]) (by simp [*])
theorem rlow_c (f : Int) : FnP Tryz.prog 152 [.int .i64 f] (.tup [.junk, .int .i64 (fRow f).1, .int .i64 (fRow f).2.1, .bool (fRow f).2.2]) := by
 rw [← rowLow_eq]
 unfold rowLow
 refine FnP.i Tryz.func152 rfl rfl fun G w => ?_
 repeat apply WK.s
 refine WK.g 100 Tryz.ntmps152 (by kernel_rfl) ?_
 intro A hA Q hQ
 simp
 apply hQ
 clear hQ hA
 repeat apply WK.s
 refine WK.g 200 Tryz.ntmps152 (by kernel_rfl) ?_
 intro A hA Q hQ
 simp
 apply hQ
 clear hQ hA
 iterate 12
   repeat (first | apply WK.s | apply WK.b)
   refine WK.g 300 Tryz.ntmps152 (by kernel_rfl) ?_
   intro A hA Q hQ
   simp
   apply hQ
   clear hQ hA
   refine WK.c2 rfl (fun h => ?_) (fun h => ?_)
   · simp at h
     repeat apply WK.s
     refine WK.g 400 Tryz.ntmps152 (by kernel_rfl) ?_
     intro A hA Q hQ
     simp
     apply hQ
     clear hQ hA
     refine WK.t Tryz.func152 (by simp (maxDischargeDepth := 120) [Tryz.results152, h]) (by simp [h])
   simp at h
 repeat (first | apply WK.s | apply WK.n | apply WK.k)
 refine WK.g 500 Tryz.ntmps152 (by kernel_rfl) ?_
 intro A hA Q hQ
 simp
 refine RunQ.call rfl rfl rfl rfl (by rfl) (by simp (maxDischargeDepth := 120)) (rup_c f) (by simp) ?_
 refine RunQ.eval ?_
 simp
 apply hQ
 clear hQ hA
 refine WK.t Tryz.func152 (by simp (maxDischargeDepth := 120) [Tryz.results152, *]) (by simp [*])
theorem rfbits_c (f : Int) : FnP Tryz.prog 146 [.int .i64 f] (.int .i64 (fBits f)) := by
 refine FnP.i Tryz.func146 rfl rfl fun G w => ?_
 repeat apply WK.s
 refine WK.g 100 Tryz.ntmps146 (by kernel_rfl) ?_
 intro A hA Q hQ
 simp
 apply hQ
 clear hQ hA
 repeat apply WK.s
 refine WK.g 200 Tryz.ntmps146 (by kernel_rfl) ?_
 intro A hA Q hQ
 simp
 refine RunQ.call rfl rfl rfl rfl (by rfl) (by simp (maxDischargeDepth := 120)) (rlow_c f) (by simp) ?_
 refine RunQ.eval ?_
 simp
 apply hQ
 clear hQ hA
 repeat apply WK.s
 refine WK.g 300 Tryz.ntmps146 (by kernel_rfl) ?_
 intro A hA Q hQ
 simp
 apply hQ
 clear hQ hA
 refine WK.t Tryz.func146 (by simp (maxDischargeDepth := 120) [Tryz.results146, fBits]) (by simp [fBits])
theorem low1_c (n : Int) : FnP Tryz.prog 196 [.int .i64 n] (.int .u64 (uI (low64 n))) := by
 refine FnP.i Tryz.func196 rfl rfl fun G w => ?_
 repeat apply WK.s
 refine WK.g 100 Tryz.ntmps196 (by kernel_rfl) ?_
 intro A hA Q hQ
 simp
 apply hQ
 clear hQ hA
 repeat apply WK.s
 refine WK.g 200 Tryz.ntmps196 (by kernel_rfl) ?_
 intro A hA Q hQ
 simp
 apply hQ
 clear hQ hA
 refine WK.c2 rfl (fun h => ?_) (fun h => ?_)
 · simp at h
   have e : uI (low64 n) = 18446744073709551615 := by rw [low64_ge h]; exact low64_big
   repeat apply WK.s
   refine WK.g 300 Tryz.ntmps196 (by kernel_rfl) ?_
   intro A hA Q hQ
   simp
   apply hQ
   clear hQ hA
   refine WK.t Tryz.func196 (by simp (maxDischargeDepth := 120) [Tryz.results196, e]) (by simp [e])
 · simp at h
   by_cases hn : n < 0
   · have e := low64_small (n := 0) (by omega) (by omega)
     have e2 := low64_neg hn
     repeat (first | apply WK.s | apply WK.k)
     refine WK.g 400 Tryz.ntmps196 (by kernel_rfl) ?_
     intro A hA Q hQ
     simp [hn, e]
     apply hQ
     clear hQ hA
     refine WK.t Tryz.func196 (by simp (maxDischargeDepth := 120) [Tryz.results196, e2]) (by simp [e2])
   · have e := low64_small (n := n) (by omega) h
     repeat (first | apply WK.s | apply WK.k)
     refine WK.g 500 Tryz.ntmps196 (by kernel_rfl) ?_
     intro A hA Q hQ
     simp [hn, e]
     apply hQ
     clear hQ hA
     refine WK.t Tryz.func196 (by simp (maxDischargeDepth := 120) [Tryz.results196]) (by simp)
theorem low_c (n : Int) : FnP Tryz.prog 187 [.int .i64 n] (.agg (lowW n).enc) := by
 have hc := clamp_le n
 have e : IntKind.i64.wrap (clamp n - 64) = clamp n - 64 := wrap_i64 (by omega) (by omega)
 refine FnP.i Tryz.func187 rfl rfl fun G w => ?_
 repeat apply WK.s
 refine WK.g 100 Tryz.ntmps187 (by kernel_rfl) ?_
 intro A hA Q hQ
 simp
 apply hQ
 clear hQ hA
 repeat apply WK.s
 refine WK.g 200 Tryz.ntmps187 (by kernel_rfl) ?_
 intro A hA Q hQ
 simp [clamp_eq]
 apply hQ
 clear hQ hA
 repeat apply WK.s
 refine WK.g 300 Tryz.ntmps187 (by kernel_rfl) ?_
 intro A hA Q hQ
 simp [e]
 refine RunQ.call rfl rfl rfl rfl (by rfl) (by simp (maxDischargeDepth := 120)) (low1_c (clamp n - 64)) (by simp) ?_
 refine RunQ.eval ?_
 simp
 refine RunQ.call rfl rfl rfl rfl (by rfl) (by simp (maxDischargeDepth := 120)) (low1_c (clamp n)) (by simp) ?_
 refine RunQ.eval ?_
 simp
 apply hQ
 clear hQ hA
 refine WK.t Tryz.func187 (by simp (maxDischargeDepth := 120) [Tryz.results187, lowW, Wide.enc]) (by simp [lowW, Wide.enc])
theorem rbit_c (i : Nat) (h : i < 128) : FnP Tryz.prog 171 [.int .i64 i] (.agg (bitW i).enc) := by
 have h0 : ¬ ((i : Int) < 0) := by omega
 have h1 : ¬ (127 < (i : Int)) := by omega
 have h2 : decide ((i : Int) < 0) = false := decide_eq_false h0
 refine FnP.i Tryz.func171 rfl rfl fun G w => ?_
 repeat apply WK.s
 refine WK.g 100 Tryz.ntmps171 (by kernel_rfl) ?_
 intro A hA Q hQ
 simp
 apply hQ
 clear hQ hA
 repeat (first | apply WK.s | apply WK.b)
 refine WK.g 200 Tryz.ntmps171 (by kernel_rfl) ?_
 intro A hA Q hQ
 have hg2 : (A[2]?).bind (·.dst) = some 6 := by rw [hA]; rfl
 simp [h0, h1, hg2]
 apply hQ
 clear hQ hA
 refine WK.c2 rfl (fun h3 => ?_) (fun h3 => ?_)
 · simp [h0, h1] at h3
 repeat apply WK.s
 refine WK.g 300 Tryz.ntmps171 (by kernel_rfl) ?_
 intro A hA Q hQ
 simp
 apply hQ
 clear hQ hA
 refine WK.c2 rfl (fun h4 => ?_) (fun h4 => ?_)
 · simp at h4
   have h5 : i < 64 := by omega
   have e1 : IntKind.u64.wrap (i : Int) = i := by
     have := wrap_u64 (BitVec.ofNat 64 i)
     simp [uI] at this
     rw [show (i : Int) % 18446744073709551616 = i by omega] at this
     exact this
   have e2 := bit64 h5
   repeat apply WK.s
   refine WK.g 400 Tryz.ntmps171 (by kernel_rfl) ?_
   intro A hA Q hQ
   simp [e1, h0, e2]
   apply hQ
   clear hQ hA
   refine WK.t Tryz.func171 (by simp (maxDischargeDepth := 120) [Tryz.results171, bitW, h5, Wide.enc, uZ_]) (by simp [bitW, h5, Wide.enc, uZ_])
 · simp at h4
   have h5 : ¬ i < 64 := by omega
   obtain ⟨m, rfl⟩ : ∃ m, i = m + 64 := ⟨i - 64, by omega⟩
   have h6 : m < 64 := by omega
   have e0 : IntKind.i64.wrap (m : Int) = m := wrap_i64 (by omega) (by omega)
   have e1 : IntKind.u64.wrap (m : Int) = m := by
     have := wrap_u64 (BitVec.ofNat 64 m)
     simp [uI] at this
     rw [show (m : Int) % 18446744073709551616 = m by omega] at this
     exact this
   have e2 := bit64 h6
   have h7 : ¬ ((m : Int) < 0) := by omega
   repeat (first | apply WK.s | apply WK.n | apply WK.k)
   refine WK.g 500 Tryz.ntmps171 (by kernel_rfl) ?_
   intro A hA Q hQ
   simp [e0, e1, h7, e2]
   apply hQ
   clear hQ hA
   refine WK.t Tryz.func171 (by simp (maxDischargeDepth := 120) [Tryz.results171, bitW, h, h5, h6, Wide.enc, uZ_]) (by simp [bitW, h, h5, h6, Wide.enc, uZ_])

theorem rlow2_c (n : Int) (hn : -10000 ≤ n ∧ n ≤ 10000) : FnP Tryz.prog 145 [.int .i64 n] (.agg (lowW n).enc) := by
 refine FnP.i Tryz.func145 rfl rfl fun G w => ?_
 repeat apply WK.s
 refine WK.g 100 Tryz.ntmps145 (by kernel_rfl) ?_
 intro A hA Q hQ
 simp
 apply hQ
 clear hQ hA
 repeat apply WK.s
 refine WK.g 200 Tryz.ntmps145 (by kernel_rfl) ?_
 intro A hA Q hQ
 simp
 apply hQ
 clear hQ hA
 repeat apply WK.s
 refine WK.g 300 Tryz.ntmps145 (by kernel_rfl) ?_
 intro A hA Q hQ
 simp
 apply hQ
 clear hQ hA
 repeat (apply WK.b)
 refine WK.lI (fun n => n) (fun i : Nat => (⟨(upd (upd (upd (upd J 0 (.int .i64 n)) 2 (.ptr 0 0)) 3 (.ptr 101 0)) 4 (.int .i64 i)), (upd (upd B0 0 (.var wideZ.enc)) 101 (.var (lowW i).enc)), 0⟩ : St)) (fun i => i ≤ 128 ∧ ((i : Int) ≤ n ∨ i = 0)) (fun i => 128 - i) (0) (by repeat (first | exact TmW.nil | refine TmW.upd ?_ (by simp (maxDischargeDepth := 120) [Wide.enc, wideZ, uZ_, lowW_zero']))) (by repeat (first | exact BxW.nil | refine BxW.upd ?_ (by simp (maxDischargeDepth := 120) [Wide.enc, wideZ, uZ_, lowW_zero']))) InjW.id (⟨by omega, .inr rfl⟩) (fun i hi IH => ?_)
 by_cases h0 : (i : Int) < n
 · repeat apply WK.s
   refine WK.g 400 Tryz.ntmps145 (by kernel_rfl) ?_
   intro A hA Q hQ
   have hg3 : (A[3]?).bind (·.dst) = some 9 := by rw [hA]; rfl
   simp [h0, hg3]
   apply hQ
   clear hQ hA
   refine WK.c2 rfl (fun h1 => ?_) (fun h1 => ?_)
   · simp at h1
     have h2 : i < 128 := by omega
     have h6 : IntKind.i64.wrap ((i : Int) + 1) = i + 1 := wrap_i64 (by omega) (by omega)
     repeat (first | apply WK.s | apply WK.b | apply WK.k)
     refine WK.regD 500 clsOf (by kernel_rfl) Tryz.ntmps145 (by kernel_rfl) (by kernel_rfl) ?_
     intro A hA Q hQ
     simp
     refine RunQ.call rfl rfl rfl rfl (by rfl) (by simp (maxDischargeDepth := 120)) (rbit_c i h2) (by simp) ?_
     refine RunQ.eval ?_
     simp
     refine RunQ.call rfl rfl rfl rfl (by rfl) (by simp (maxDischargeDepth := 120)) (ror_c (lowW i) (bitW i)) (by simp) ?_
     refine RunQ.eval ?_
     simp
     apply hQ
     clear hQ hA
     repeat (apply WK.n)
     refine WK.g 600 Tryz.ntmps145 (by kernel_rfl) ?_
     intro A hA Q hQ
     simp [h6]
     apply hQ
     clear hQ hA
     refine WK.next (fun n => n) (IH (i + 1) (⟨by omega, .inl (by omega)⟩) (by first | omega | (dsimp only; omega))) (by repeat (first | exact TmW.nil | refine TmW.upd ?_ (by simp (maxDischargeDepth := 120) [lowW_step h2]))) (by repeat (first | exact BxW.nil | refine BxW.upd ?_ (by simp (maxDischargeDepth := 120) [lowW_step h2]))) InjW.id
   · simp at h1
     have e : lowW n = lowW i := by
       unfold lowW; rw [show clamp n = clamp i by rw [clamp_id (n := i) (by omega) (by omega)]; unfold clamp; rw [if_neg (show ¬ n < 0 by omega)]; split <;> omega]
     repeat (first | apply WK.s | refine WK.exit rfl ?_)
     refine WK.g 700 Tryz.ntmps145 (by kernel_rfl) ?_
     intro A hA Q hQ
     simp
     apply hQ
     clear hQ hA
     refine WK.t Tryz.func145 (by simp (maxDischargeDepth := 120) [Tryz.results145, e]) (by simp [e])
 · repeat apply WK.s
   refine WK.g 800 Tryz.ntmps145 (by kernel_rfl) ?_
   intro A hA Q hQ
   have hg3 : (A[3]?).bind (·.dst) = some 9 := by rw [hA]; rfl
   simp [h0, hg3]
   apply hQ
   clear hQ hA
   refine WK.c2 rfl (fun h1 => ?_) (fun h1 => ?_)
   · simp at h1
   have e : lowW n = lowW i := by
     unfold lowW; rw [show clamp n = clamp i by rw [clamp_id (n := i) (by omega) (by omega)]; unfold clamp; split <;> (try split) <;> omega]
   repeat (first | apply WK.s | refine WK.exit rfl ?_)
   refine WK.g 900 Tryz.ntmps145 (by kernel_rfl) ?_
   intro A hA Q hQ
   simp
   apply hQ
   clear hQ hA
   refine WK.t Tryz.func145 (by simp (maxDischargeDepth := 120) [Tryz.results145, e]) (by simp [e])

def eqBy {α : Type} [Inhabited α] (p : α → α → Bool) (l m : List α) : Bool := l.length == m.length && (List.range l.length).all fun i => p (nth l i) (nth m i)
theorem eqf_oxm (fid : Nat) (caps : List AV) (p : Oxm → Oxm → Bool) (l m : List Oxm) (hcl : ClL caps = true) (hl : l.length ≤ 1000000)
   (hf : ∀ x, x ∈ l → ∀ y, y ∈ m → FnP Tryz.prog fid (.agg x.enc :: .agg y.enc :: caps) (.bool (p x y))) :
   FnP Tryz.prog 92 [oxmS l, oxmS m, .fn fid caps] (.bool (eqBy p l m)) := by
 unfold oxmS
 refine FnP.i Tryz.func92 rfl rfl fun G w => ?_
 repeat (first | apply WK.s | apply WK.b | apply WK.n | apply WK.k | apply WK.label | apply WK.scope | apply WK.inScope | refine WK.exit rfl ?_)
 first | refine WK.g 100 Tryz.ntmps92 (by kernel_rfl) ?_ | refine WK.regD 100 clsOf (by kernel_rfl) Tryz.ntmps92 (by kernel_rfl) (by kernel_rfl) ?_
 intro A hA Q hQ
 simp
 apply hQ
 clear hQ hA
 repeat (first | apply WK.s | apply WK.b | apply WK.n | apply WK.k | apply WK.label | apply WK.scope | apply WK.inScope | refine WK.exit rfl ?_)
 first | refine WK.g 200 Tryz.ntmps92 (by kernel_rfl) ?_ | refine WK.regD 200 clsOf (by kernel_rfl) Tryz.ntmps92 (by kernel_rfl) (by kernel_rfl) ?_
 intro A hA Q hQ
 simp
 apply hQ
 clear hQ hA
 repeat (first | apply WK.s | apply WK.b | apply WK.n | apply WK.k | apply WK.label | apply WK.scope | apply WK.inScope | refine WK.exit rfl ?_)
 refine WK.c2 rfl (fun h => ?_) (fun h => ?_)
 · simp at h
   have e : eqBy p l m = false := by unfold eqBy; simp; intro e; omega
   repeat (first | apply WK.s | apply WK.b | apply WK.n | apply WK.k | apply WK.label | apply WK.scope | apply WK.inScope | refine WK.exit rfl ?_)
   first | refine WK.g 300 Tryz.ntmps92 (by kernel_rfl) ?_ | refine WK.regD 300 clsOf (by kernel_rfl) Tryz.ntmps92 (by kernel_rfl) (by kernel_rfl) ?_
   intro A hA Q hQ
   simp
   apply hQ
   clear hQ hA
   repeat (first | apply WK.s | apply WK.b | apply WK.n | apply WK.k | apply WK.label | apply WK.scope | apply WK.inScope | refine WK.exit rfl ?_)
   refine WK.t Tryz.func92 (by simp (maxDischargeDepth := 120) [Tryz.results92, e]) (by simp [e])
 · simp at h
   have hlm : l.length = m.length := by omega
   repeat (first | apply WK.s | apply WK.b | apply WK.n | apply WK.k | apply WK.label | apply WK.scope | apply WK.inScope | refine WK.exit rfl ?_)
   first | refine WK.g 400 Tryz.ntmps92 (by kernel_rfl) ?_ | refine WK.regD 400 clsOf (by kernel_rfl) Tryz.ntmps92 (by kernel_rfl) (by kernel_rfl) ?_
   intro A hA Q hQ
   simp
   apply hQ
   clear hQ hA
   repeat (first | apply WK.s | apply WK.b | apply WK.n | apply WK.k | apply WK.label | apply WK.scope | apply WK.inScope | refine WK.exit rfl ?_)
   refine WK.lI (fun n => n) (fun i : Nat => (⟨(upd (upd (upd (upd (upd (upd J 0 (.sl false l.length (oxmL l))) 1 (.sl false m.length (oxmL m))) 2 (.fn fid caps)) 15 (.sl false l.length (oxmL l))) 16 (.int .i64 l.length)) 17 (.int .i64 i)), B0, 0⟩ : St)) (fun i => i ≤ l.length ∧ ∀ j, j < i → p (nth l j) (nth m j) = true) (fun i => l.length - i) (0) (by repeat (first | exact TmW.nil | refine TmW.upd ?_ (by simp (maxDischargeDepth := 120) [hcl]))) (by repeat (first | exact BxW.nil | refine BxW.upd ?_ (by simp (maxDischargeDepth := 120) [hcl]))) InjW.id (⟨by omega, by simp⟩) (fun i hi IH => ?_)
   repeat (first | apply WK.s | apply WK.b | apply WK.n | apply WK.k | apply WK.label | apply WK.scope | apply WK.inScope | refine WK.exit rfl ?_)
   first | refine WK.g 500 Tryz.ntmps92 (by kernel_rfl) ?_ | refine WK.regD 500 clsOf (by kernel_rfl) Tryz.ntmps92 (by kernel_rfl) (by kernel_rfl) ?_
   intro A hA Q hQ
   simp
   apply hQ
   clear hQ hA
   repeat (first | apply WK.s | apply WK.b | apply WK.n | apply WK.k | apply WK.label | apply WK.scope | apply WK.inScope | refine WK.exit rfl ?_)
   refine WK.c2 rfl (fun h1 => ?_) (fun h1 => ?_)
   · simp at h1
     have h2 : i < l.length := by omega
     have h2' : i < m.length := by omega
     have h3 : 6 ≤ l.length * 6 - i * 6 := by omega
     have h3' : 6 ≤ m.length * 6 - i * 6 := by omega
     have h4 := oxm_sub l i h2
     have h4' := oxm_sub m i h2'
     have h6 : IntKind.i64.wrap ((i : Int) + 1) = i + 1 := wrap_i64 (by omega) (by omega)
     repeat (first | apply WK.s | apply WK.b | apply WK.n | apply WK.k | apply WK.label | apply WK.scope | apply WK.inScope | refine WK.exit rfl ?_)
     first | refine WK.g 600 Tryz.ntmps92 (by kernel_rfl) ?_ | refine WK.regD 600 clsOf (by kernel_rfl) Tryz.ntmps92 (by kernel_rfl) (by kernel_rfl) ?_
     intro A hA Q hQ
     simp [h2, h3, h4]
     apply hQ
     clear hQ hA
     repeat (first | apply WK.s | apply WK.b | apply WK.n | apply WK.k | apply WK.label | apply WK.scope | apply WK.inScope | refine WK.exit rfl ?_)
     first | refine WK.g 700 Tryz.ntmps92 (by kernel_rfl) ?_ | refine WK.regD 700 clsOf (by kernel_rfl) Tryz.ntmps92 (by kernel_rfl) (by kernel_rfl) ?_
     intro A hA Q hQ
     simp [h2', h3', h4']
     apply hQ
     clear hQ hA
     repeat (first | apply WK.s | apply WK.b | apply WK.n | apply WK.k | apply WK.label | apply WK.scope | apply WK.inScope | refine WK.exit rfl ?_)
     first | refine WK.g 800 Tryz.ntmps92 (by kernel_rfl) ?_ | refine WK.regD 800 clsOf (by kernel_rfl) Tryz.ntmps92 (by kernel_rfl) (by kernel_rfl) ?_
     intro A hA Q hQ
     simp
     refine RunQ.call rfl rfl rfl rfl (by rfl) (by simp (maxDischargeDepth := 120) [hcl]) (hf (nth l i) (nth_mem h2) (nth m i) (nth_mem h2')) (by simp [hcl]) ?_
     refine RunQ.eval ?_
     simp [hcl]
     apply hQ
     clear hQ hA
     repeat (first | apply WK.s | apply WK.b | apply WK.n | apply WK.k | apply WK.label | apply WK.scope | apply WK.inScope | refine WK.exit rfl ?_)
     refine WK.c2 rfl (fun h5 => ?_) (fun h5 => ?_)
     · simp at h5
       have e : eqBy p l m = false := by unfold eqBy; rw [all_range_false (p := fun i => p (nth l i) (nth m i)) h2 h5]; simp
       repeat (first | apply WK.s | apply WK.b | apply WK.n | apply WK.k | apply WK.label | apply WK.scope | apply WK.inScope | refine WK.exit rfl ?_)
       first | refine WK.g 900 Tryz.ntmps92 (by kernel_rfl) ?_ | refine WK.regD 900 clsOf (by kernel_rfl) Tryz.ntmps92 (by kernel_rfl) (by kernel_rfl) ?_
       intro A hA Q hQ
       simp
       apply hQ
       clear hQ hA
       repeat (first | apply WK.s | apply WK.b | apply WK.n | apply WK.k | apply WK.label | apply WK.scope | apply WK.inScope | refine WK.exit rfl ?_)
       refine WK.t Tryz.func92 (by simp (maxDischargeDepth := 120) [Tryz.results92, e]) (by simp [e])
     · simp at h5
       repeat (first | apply WK.s | apply WK.b | apply WK.n | apply WK.k | apply WK.label | apply WK.scope | apply WK.inScope | refine WK.exit rfl ?_)
       first | refine WK.g 1000 Tryz.ntmps92 (by kernel_rfl) ?_ | refine WK.regD 1000 clsOf (by kernel_rfl) Tryz.ntmps92 (by kernel_rfl) (by kernel_rfl) ?_
       intro A hA Q hQ
       simp [h6]
       apply hQ
       clear hQ hA
       repeat (first | apply WK.s | apply WK.b | apply WK.n | apply WK.k | apply WK.label | apply WK.scope | apply WK.inScope | refine WK.exit rfl ?_)
       refine WK.next (fun n => n) (IH (i + 1) (⟨by omega, fun j hj => by by_cases h7 : j = i; (subst h7; exact h5); exact hi.2 j (by omega)⟩) (by first | omega | (dsimp only; omega))) (by repeat (first | exact TmW.nil | refine TmW.upd ?_ (by simp (maxDischargeDepth := 120) [hcl]))) (by repeat (first | exact BxW.nil | refine BxW.upd ?_ (by simp (maxDischargeDepth := 120) [hcl]))) InjW.id
   · simp at h1
     have e : eqBy p l m = true := by unfold eqBy; rw [all_range_true (p := fun i => p (nth l i) (nth m i)) (fun j hj => hi.2 j (by omega))]; simp [hlm]
     repeat (first | apply WK.s | apply WK.b | apply WK.n | apply WK.k | apply WK.label | apply WK.scope | apply WK.inScope | refine WK.exit rfl ?_)
     first | refine WK.g 1100 Tryz.ntmps92 (by kernel_rfl) ?_ | refine WK.regD 1100 clsOf (by kernel_rfl) Tryz.ntmps92 (by kernel_rfl) (by kernel_rfl) ?_
     intro A hA Q hQ
     simp
     apply hQ
     clear hQ hA
     repeat (first | apply WK.s | apply WK.b | apply WK.n | apply WK.k | apply WK.label | apply WK.scope | apply WK.inScope | refine WK.exit rfl ?_)
     refine WK.t Tryz.func92 (by simp (maxDischargeDepth := 120) [Tryz.results92, e]) (by simp [e])
theorem eqf_inst (fid : Nat) (caps : List AV) (p : Inst → Inst → Bool) (l m : List Inst) (hcl : ClL caps = true) (hl : l.length ≤ 1000000)
   (hf : ∀ x, x ∈ l → ∀ y, y ∈ m → FnP Tryz.prog fid (.agg x.enc :: .agg y.enc :: caps) (.bool (p x y))) :
   FnP Tryz.prog 94 [instS l, instS m, .fn fid caps] (.bool (eqBy p l m)) := by
 unfold instS
 refine FnP.i Tryz.func94 rfl rfl fun G w => ?_
 repeat apply WK.s
 refine WK.g 100 Tryz.ntmps94 (by kernel_rfl) ?_
 intro A hA Q hQ
 simp
 apply hQ
 clear hQ hA
 repeat apply WK.s
 refine WK.g 200 Tryz.ntmps94 (by kernel_rfl) ?_
 intro A hA Q hQ
 simp
 apply hQ
 clear hQ hA
 refine WK.c2 rfl (fun h => ?_) (fun h => ?_)
 · simp at h
   have e : eqBy p l m = false := by unfold eqBy; simp; intro e; omega
   repeat apply WK.s
   refine WK.g 300 Tryz.ntmps94 (by kernel_rfl) ?_
   intro A hA Q hQ
   simp
   apply hQ
   clear hQ hA
   refine WK.t Tryz.func94 (by simp (maxDischargeDepth := 120) [Tryz.results94, e]) (by simp [e])
 · simp at h
   have hlm : l.length = m.length := by omega
   repeat (first | apply WK.s | apply WK.k)
   refine WK.g 400 Tryz.ntmps94 (by kernel_rfl) ?_
   intro A hA Q hQ
   simp
   apply hQ
   clear hQ hA
   repeat (apply WK.b)
   refine WK.lI (fun n => n) (fun i : Nat => (⟨(upd (upd (upd (upd (upd (upd J 0 (.sl false l.length (instL l))) 1 (.sl false m.length (instL m))) 2 (.fn fid caps)) 15 (.sl false l.length (instL l))) 16 (.int .i64 l.length)) 17 (.int .i64 i)), B0, 0⟩ : St)) (fun i => i ≤ l.length ∧ ∀ j, j < i → p (nth l j) (nth m j) = true) (fun i => l.length - i) (0) (by repeat (first | exact TmW.nil | refine TmW.upd ?_ (by simp (maxDischargeDepth := 120) [hcl]))) (by repeat (first | exact BxW.nil | refine BxW.upd ?_ (by simp (maxDischargeDepth := 120) [hcl]))) InjW.id (⟨by omega, by simp⟩) (fun i hi IH => ?_)
   repeat apply WK.s
   refine WK.g 500 Tryz.ntmps94 (by kernel_rfl) ?_
   intro A hA Q hQ
   simp
   apply hQ
   clear hQ hA
   repeat apply WK.s
   refine WK.c2 rfl (fun h1 => ?_) (fun h1 => ?_)
   · simp at h1
     have h2 : i < l.length := by omega
     have h2' : i < m.length := by omega
     have h3 : 7 ≤ l.length * 7 - i * 7 := by omega
     have h3' : 7 ≤ m.length * 7 - i * 7 := by omega
     have h4 := inst_sub l i h2
     have h4' := inst_sub m i h2'
     have h6 : IntKind.i64.wrap ((i : Int) + 1) = i + 1 := wrap_i64 (by omega) (by omega)
     repeat (first | apply WK.s | apply WK.b | apply WK.k)
     refine WK.g 600 Tryz.ntmps94 (by kernel_rfl) ?_
     intro A hA Q hQ
     simp [h2, h3, h4]
     apply hQ
     clear hQ hA
     repeat apply WK.s
     refine WK.g 700 Tryz.ntmps94 (by kernel_rfl) ?_
     intro A hA Q hQ
     simp [h2', h3', h4']
     apply hQ
     clear hQ hA
     repeat apply WK.s
     refine WK.g 800 Tryz.ntmps94 (by kernel_rfl) ?_
     intro A hA Q hQ
     simp
     refine RunQ.call rfl rfl rfl rfl (by rfl) (by simp (maxDischargeDepth := 120) [hcl]) (hf (nth l i) (nth_mem h2) (nth m i) (nth_mem h2')) (by simp [hcl]) ?_
     refine RunQ.eval ?_
     simp [hcl]
     apply hQ
     clear hQ hA
     refine WK.c2 rfl (fun h5 => ?_) (fun h5 => ?_)
     · simp at h5
       have e : eqBy p l m = false := by unfold eqBy; rw [all_range_false (p := fun i => p (nth l i) (nth m i)) h2 h5]; simp
       repeat apply WK.s
       refine WK.g 900 Tryz.ntmps94 (by kernel_rfl) ?_
       intro A hA Q hQ
       simp
       apply hQ
       clear hQ hA
       refine WK.t Tryz.func94 (by simp (maxDischargeDepth := 120) [Tryz.results94, e]) (by simp [e])
     · simp at h5
       repeat (first | apply WK.n | apply WK.k)
       refine WK.g 1000 Tryz.ntmps94 (by kernel_rfl) ?_
       intro A hA Q hQ
       simp [h6]
       apply hQ
       clear hQ hA
       refine WK.next (fun n => n) (IH (i + 1) (⟨by omega, fun j hj => by by_cases h7 : j = i; (subst h7; exact h5); exact hi.2 j (by omega)⟩) (by first | omega | (dsimp only; omega))) (by repeat (first | exact TmW.nil | refine TmW.upd ?_ (by simp (maxDischargeDepth := 120) [hcl]))) (by repeat (first | exact BxW.nil | refine BxW.upd ?_ (by simp (maxDischargeDepth := 120) [hcl]))) InjW.id
   · simp at h1
     have e : eqBy p l m = true := by unfold eqBy; rw [all_range_true (p := fun i => p (nth l i) (nth m i)) (fun j hj => hi.2 j (by omega))]; simp [hlm]
     repeat (first | apply WK.s | refine WK.exit rfl ?_)
     refine WK.g 1100 Tryz.ntmps94 (by kernel_rfl) ?_
     intro A hA Q hQ
     simp
     apply hQ
     clear hQ hA
     refine WK.t Tryz.func94 (by simp (maxDischargeDepth := 120) [Tryz.results94, e]) (by simp [e])
theorem eqf_act (fid : Nat) (caps : List AV) (p : Action → Action → Bool) (l m : List Action) (hcl : ClL caps = true) (hl : l.length ≤ 1000000)
   (hf : ∀ x, x ∈ l → ∀ y, y ∈ m → FnP Tryz.prog fid (.agg x.enc :: .agg y.enc :: caps) (.bool (p x y))) :
   FnP Tryz.prog 156 [actS l, actS m, .fn fid caps] (.bool (eqBy p l m)) := by
 unfold actS
 refine FnP.i Tryz.func156 rfl rfl fun G w => ?_
 repeat apply WK.s
 refine WK.g 100 Tryz.ntmps156 (by kernel_rfl) ?_
 intro A hA Q hQ
 simp
 apply hQ
 clear hQ hA
 repeat apply WK.s
 refine WK.g 200 Tryz.ntmps156 (by kernel_rfl) ?_
 intro A hA Q hQ
 simp
 apply hQ
 clear hQ hA
 refine WK.c2 rfl (fun h => ?_) (fun h => ?_)
 · simp at h
   have e : eqBy p l m = false := by unfold eqBy; simp; intro e; omega
   repeat apply WK.s
   refine WK.g 300 Tryz.ntmps156 (by kernel_rfl) ?_
   intro A hA Q hQ
   simp
   apply hQ
   clear hQ hA
   refine WK.t Tryz.func156 (by simp (maxDischargeDepth := 120) [Tryz.results156, e]) (by simp [e])
 · simp at h
   have hlm : l.length = m.length := by omega
   repeat (first | apply WK.s | apply WK.k)
   refine WK.g 400 Tryz.ntmps156 (by kernel_rfl) ?_
   intro A hA Q hQ
   simp
   apply hQ
   clear hQ hA
   repeat (apply WK.b)
   refine WK.lI (fun n => n) (fun i : Nat => (⟨(upd (upd (upd (upd (upd (upd J 0 (.sl false l.length (actL l))) 1 (.sl false m.length (actL m))) 2 (.fn fid caps)) 15 (.sl false l.length (actL l))) 16 (.int .i64 l.length)) 17 (.int .i64 i)), B0, 0⟩ : St)) (fun i => i ≤ l.length ∧ ∀ j, j < i → p (nth l j) (nth m j) = true) (fun i => l.length - i) (0) (by repeat (first | exact TmW.nil | refine TmW.upd ?_ (by simp (maxDischargeDepth := 120) [hcl]))) (by repeat (first | exact BxW.nil | refine BxW.upd ?_ (by simp (maxDischargeDepth := 120) [hcl]))) InjW.id (⟨by omega, by simp⟩) (fun i hi IH => ?_)
   repeat apply WK.s
   refine WK.g 500 Tryz.ntmps156 (by kernel_rfl) ?_
   intro A hA Q hQ
   simp
   apply hQ
   clear hQ hA
   repeat apply WK.s
   refine WK.c2 rfl (fun h1 => ?_) (fun h1 => ?_)
   · simp at h1
     have h2 : i < l.length := by omega
     have h2' : i < m.length := by omega
     have h3 : 11 ≤ l.length * 11 - i * 11 := by omega
     have h3' : 11 ≤ m.length * 11 - i * 11 := by omega
     have h4 := act_sub l i h2
     have h4' := act_sub m i h2'
     have h6 : IntKind.i64.wrap ((i : Int) + 1) = i + 1 := wrap_i64 (by omega) (by omega)
     repeat (first | apply WK.s | apply WK.b | apply WK.k)
     refine WK.g 600 Tryz.ntmps156 (by kernel_rfl) ?_
     intro A hA Q hQ
     simp [h2, h3, h4]
     apply hQ
     clear hQ hA
     repeat apply WK.s
     refine WK.g 700 Tryz.ntmps156 (by kernel_rfl) ?_
     intro A hA Q hQ
     simp [h2', h3', h4']
     apply hQ
     clear hQ hA
     repeat apply WK.s
     refine WK.g 800 Tryz.ntmps156 (by kernel_rfl) ?_
     intro A hA Q hQ
     simp
     refine RunQ.call rfl rfl rfl rfl (by rfl) (by simp (maxDischargeDepth := 120) [hcl]) (hf (nth l i) (nth_mem h2) (nth m i) (nth_mem h2')) (by simp [hcl]) ?_
     refine RunQ.eval ?_
     simp [hcl]
     apply hQ
     clear hQ hA
     refine WK.c2 rfl (fun h5 => ?_) (fun h5 => ?_)
     · simp at h5
       have e : eqBy p l m = false := by unfold eqBy; rw [all_range_false (p := fun i => p (nth l i) (nth m i)) h2 h5]; simp
       repeat apply WK.s
       refine WK.g 900 Tryz.ntmps156 (by kernel_rfl) ?_
       intro A hA Q hQ
       simp
       apply hQ
       clear hQ hA
       refine WK.t Tryz.func156 (by simp (maxDischargeDepth := 120) [Tryz.results156, e]) (by simp [e])
     · simp at h5
       repeat (first | apply WK.n | apply WK.k)
       refine WK.g 1000 Tryz.ntmps156 (by kernel_rfl) ?_
       intro A hA Q hQ
       simp [h6]
       apply hQ
       clear hQ hA
       refine WK.next (fun n => n) (IH (i + 1) (⟨by omega, fun j hj => by by_cases h7 : j = i; (subst h7; exact h5); exact hi.2 j (by omega)⟩) (by first | omega | (dsimp only; omega))) (by repeat (first | exact TmW.nil | refine TmW.upd ?_ (by simp (maxDischargeDepth := 120) [hcl]))) (by repeat (first | exact BxW.nil | refine BxW.upd ?_ (by simp (maxDischargeDepth := 120) [hcl]))) InjW.id
   · simp at h1
     have e : eqBy p l m = true := by unfold eqBy; rw [all_range_true (p := fun i => p (nth l i) (nth m i)) (fun j hj => hi.2 j (by omega))]; simp [hlm]
     repeat (first | apply WK.s | refine WK.exit rfl ?_)
     refine WK.g 1100 Tryz.ntmps156 (by kernel_rfl) ?_
     intro A hA Q hQ
     simp
     apply hQ
     clear hQ hA
     refine WK.t Tryz.func156 (by simp (maxDischargeDepth := 120) [Tryz.results156, e]) (by simp [e])
theorem osame_c (a b : Oxm) : FnP Tryz.prog 93 [.agg a.enc, .agg b.enc] (.bool (a == b)) := by
 refine FnP.i Tryz.func93 rfl rfl fun G w => ?_
 repeat (first | apply WK.s | apply WK.b | apply WK.n | apply WK.k | apply WK.label | apply WK.scope | apply WK.inScope | refine WK.exit rfl ?_)
 first | refine WK.g 100 Tryz.ntmps93 (by kernel_rfl) ?_ | refine WK.regD 100 clsOf (by kernel_rfl) Tryz.ntmps93 (by kernel_rfl) (by kernel_rfl) ?_
 intro A hA Q hQ
 simp
 apply hQ
 clear hQ hA
 repeat (first | apply WK.s | apply WK.b | apply WK.n | apply WK.k | apply WK.label | apply WK.scope | apply WK.inScope | refine WK.exit rfl ?_)
 first | refine WK.g 200 Tryz.ntmps93 (by kernel_rfl) ?_ | refine WK.regD 200 clsOf (by kernel_rfl) Tryz.ntmps93 (by kernel_rfl) (by kernel_rfl) ?_
 intro A hA Q hQ
 simp
 apply hQ
 clear hQ hA
 repeat (first | apply WK.s | apply WK.b | apply WK.n | apply WK.k | apply WK.label | apply WK.scope | apply WK.inScope | refine WK.exit rfl ?_)
 refine WK.t Tryz.func93 (by simp (maxDischargeDepth := 120) [Tryz.results93]) (by simp)
theorem asame_c (a b : Action) : FnP Tryz.prog 157 [.agg a.enc, .agg b.enc] (.bool (a == b)) := by
 refine FnP.i Tryz.func157 rfl rfl fun G w => ?_
 repeat apply WK.s
 refine WK.g 100 Tryz.ntmps157 (by kernel_rfl) ?_
 intro A hA Q hQ
 simp
 apply hQ
 clear hQ hA
 repeat apply WK.s
 refine WK.g 200 Tryz.ntmps157 (by kernel_rfl) ?_
 intro A hA Q hQ
 simp
 apply hQ
 clear hQ hA
 refine WK.t Tryz.func157 (by simp (maxDischargeDepth := 120) [Tryz.results157]) (by simp)
theorem msame_c (l m : List Oxm) (hl : l.length ≤ 1000000) : FnP Tryz.prog 60 [oxmS l, oxmS m] (.bool (eqBy (· == ·) l m)) := by
 refine FnP.i Tryz.func60 rfl rfl fun G w => ?_
 repeat (first | apply WK.s | apply WK.b | apply WK.n | apply WK.k | apply WK.label | apply WK.scope | apply WK.inScope | refine WK.exit rfl ?_)
 first | refine WK.g 100 Tryz.ntmps60 (by kernel_rfl) ?_ | refine WK.regD 100 clsOf (by kernel_rfl) Tryz.ntmps60 (by kernel_rfl) (by kernel_rfl) ?_
 intro A hA Q hQ
 simp
 apply hQ
 clear hQ hA
 repeat (first | apply WK.s | apply WK.b | apply WK.n | apply WK.k | apply WK.label | apply WK.scope | apply WK.inScope | refine WK.exit rfl ?_)
 first | refine WK.g 200 Tryz.ntmps60 (by kernel_rfl) ?_ | refine WK.regD 200 clsOf (by kernel_rfl) Tryz.ntmps60 (by kernel_rfl) (by kernel_rfl) ?_
 intro A hA Q hQ
 simp
 refine RunQ.call rfl rfl rfl rfl (by rfl) (by simp (maxDischargeDepth := 120) [oxmS]) (eqf_oxm 93 [] (· == ·) l m rfl hl (fun x _ y _ => osame_c x y)) (by simp [oxmS]) ?_
 refine RunQ.eval ?_
 simp [oxmS]
 apply hQ
 clear hQ hA
 repeat (first | apply WK.s | apply WK.b | apply WK.n | apply WK.k | apply WK.label | apply WK.scope | apply WK.inScope | refine WK.exit rfl ?_)
 refine WK.t Tryz.func60 (by simp (maxDischargeDepth := 120) [Tryz.results60]) (by simp)
theorem acsame_c (l m : List Action) (hl : l.length ≤ 1000000) : FnP Tryz.prog 126 [actS l, actS m] (.bool (eqBy (· == ·) l m)) := by
 refine FnP.i Tryz.func126 rfl rfl fun G w => ?_
 repeat apply WK.s
 refine WK.g 100 Tryz.ntmps126 (by kernel_rfl) ?_
 intro A hA Q hQ
 simp
 apply hQ
 clear hQ hA
 repeat apply WK.s
 refine WK.g 200 Tryz.ntmps126 (by kernel_rfl) ?_
 intro A hA Q hQ
 simp
 refine RunQ.call rfl rfl rfl rfl (by rfl) (by simp (maxDischargeDepth := 120) [actS]) (eqf_act 157 [] (· == ·) l m rfl hl (fun x _ y _ => asame_c x y)) (by simp [actS]) ?_
 refine RunQ.eval ?_
 simp [actS]
 apply hQ
 clear hQ hA
 refine WK.t Tryz.func126 (by simp (maxDischargeDepth := 120) [Tryz.results126]) (by simp)
def Inst.same (a b : Inst) : Bool := a.kind == b.kind && a.table == b.table && a.value == b.value && a.mask == b.mask && eqBy (· == ·) a.acts b.acts
theorem isame_c (a b : Inst) (hl : a.acts.length ≤ 1000000) : FnP Tryz.prog 95 [.agg a.enc, .agg b.enc] (.bool (Inst.same a b)) := by
 have w1 := Wide.beq a.value b.value
 have w2 := Wide.beq a.mask b.mask
 cases k1 : a.kind == b.kind
 · refine FnP.i Tryz.func95 rfl rfl fun G w => ?_
   repeat apply WK.s
   refine WK.g 100 Tryz.ntmps95 (by kernel_rfl) ?_
   intro A hA Q hQ
   simp
   apply hQ
   clear hQ hA
   repeat apply WK.s
   refine WK.g 200 Tryz.ntmps95 (by kernel_rfl) ?_
   intro A hA Q hQ
   have hg5 : (A[5]?).bind (·.dst) = some 10 := by rw [hA]; rfl
   have hg12 : (A[12]?).bind (·.dst) = some 17 := by rw [hA]; rfl
   have hg19 : (A[19]?).bind (·.dst) = some 24 := by rw [hA]; rfl
   have hg26 : (A[26]?).bind (·.dst) = some 31 := by rw [hA]; rfl
   simp [Inst.enc, k1, hg5, hg12, hg19, hg26]
   apply hQ
   clear hQ hA
   refine WK.t Tryz.func95 (by simp (maxDischargeDepth := 120) [Tryz.results95, Inst.same, k1]) (by simp [Inst.same, k1])
 cases k2 : a.table == b.table
 · refine FnP.i Tryz.func95 rfl rfl fun G w => ?_
   repeat apply WK.s
   refine WK.g 100 Tryz.ntmps95 (by kernel_rfl) ?_
   intro A hA Q hQ
   simp
   apply hQ
   clear hQ hA
   repeat apply WK.s
   refine WK.g 200 Tryz.ntmps95 (by kernel_rfl) ?_
   intro A hA Q hQ
   have hg5 : (A[5]?).bind (·.dst) = some 10 := by rw [hA]; rfl
   have hg12 : (A[12]?).bind (·.dst) = some 17 := by rw [hA]; rfl
   have hg19 : (A[19]?).bind (·.dst) = some 24 := by rw [hA]; rfl
   have hg26 : (A[26]?).bind (·.dst) = some 31 := by rw [hA]; rfl
   simp [Inst.enc, k1, k2, hg5, hg12, hg19, hg26]
   apply hQ
   clear hQ hA
   refine WK.t Tryz.func95 (by simp (maxDischargeDepth := 120) [Tryz.results95, Inst.same, k1, k2]) (by simp [Inst.same, k1, k2])
 cases k3 : a.value == b.value
 · rw [k3] at w1
   refine FnP.i Tryz.func95 rfl rfl fun G w => ?_
   repeat apply WK.s
   refine WK.g 100 Tryz.ntmps95 (by kernel_rfl) ?_
   intro A hA Q hQ
   simp
   apply hQ
   clear hQ hA
   repeat apply WK.s
   refine WK.g 200 Tryz.ntmps95 (by kernel_rfl) ?_
   intro A hA Q hQ
   have hg5 : (A[5]?).bind (·.dst) = some 10 := by rw [hA]; rfl
   have hg12 : (A[12]?).bind (·.dst) = some 17 := by rw [hA]; rfl
   have hg19 : (A[19]?).bind (·.dst) = some 24 := by rw [hA]; rfl
   have hg26 : (A[26]?).bind (·.dst) = some 31 := by rw [hA]; rfl
   simp [Inst.enc, k1, k2, ← w1, hg5, hg12, hg19, hg26]
   apply hQ
   clear hQ hA
   refine WK.t Tryz.func95 (by simp (maxDischargeDepth := 120) [Tryz.results95, Inst.same, k1, k2, k3]) (by simp [Inst.same, k1, k2, k3])
 rw [k3] at w1
 cases k4 : a.mask == b.mask
 · rw [k4] at w2
   refine FnP.i Tryz.func95 rfl rfl fun G w => ?_
   repeat apply WK.s
   refine WK.g 100 Tryz.ntmps95 (by kernel_rfl) ?_
   intro A hA Q hQ
   simp
   apply hQ
   clear hQ hA
   repeat apply WK.s
   refine WK.g 200 Tryz.ntmps95 (by kernel_rfl) ?_
   intro A hA Q hQ
   have hg5 : (A[5]?).bind (·.dst) = some 10 := by rw [hA]; rfl
   have hg12 : (A[12]?).bind (·.dst) = some 17 := by rw [hA]; rfl
   have hg19 : (A[19]?).bind (·.dst) = some 24 := by rw [hA]; rfl
   have hg26 : (A[26]?).bind (·.dst) = some 31 := by rw [hA]; rfl
   simp [Inst.enc, k1, k2, ← w1, ← w2, hg5, hg12, hg19, hg26]
   apply hQ
   clear hQ hA
   refine WK.t Tryz.func95 (by simp (maxDischargeDepth := 120) [Tryz.results95, Inst.same, k1, k2, k3, k4]) (by simp [Inst.same, k1, k2, k3, k4])
 rw [k4] at w2
 refine FnP.i Tryz.func95 rfl rfl fun G w => ?_
 repeat apply WK.s
 refine WK.g 100 Tryz.ntmps95 (by kernel_rfl) ?_
 intro A hA Q hQ
 simp
 apply hQ
 clear hQ hA
 repeat apply WK.s
 refine WK.g 200 Tryz.ntmps95 (by kernel_rfl) ?_
 intro A hA Q hQ
 have hg5 : (A[5]?).bind (·.dst) = some 10 := by rw [hA]; rfl
 have hg12 : (A[12]?).bind (·.dst) = some 17 := by rw [hA]; rfl
 have hg19 : (A[19]?).bind (·.dst) = some 24 := by rw [hA]; rfl
 have hg26 : (A[26]?).bind (·.dst) = some 31 := by rw [hA]; rfl
 simp [Inst.enc, k1, k2, ← w1, ← w2, hg5, hg12, hg19, hg26]
 refine RunQ.callG rfl rfl (by simp [hg26, actS]) rfl (by rfl) (by simp (maxDischargeDepth := 120) [hg26, actS]) (acsame_c a.acts b.acts hl) (by simp [hg26, actS]) ?_
 refine RunQ.eval ?_
 simp [hg26, actS]
 apply hQ
 clear hQ hA
 refine WK.t Tryz.func95 (by simp (maxDischargeDepth := 120) [Tryz.results95, Inst.same, k1, k2, k3, k4]) (by simp [Inst.same, k1, k2, k3, k4])
theorem insame_c (l m : List Inst) (hl : l.length ≤ 1000000) (ha : ∀ x, x ∈ l → x.acts.length ≤ 1000000) : FnP Tryz.prog 61 [instS l, instS m] (.bool (eqBy Inst.same l m)) := by
 refine FnP.i Tryz.func61 rfl rfl fun G w => ?_
 repeat apply WK.s
 refine WK.g 100 Tryz.ntmps61 (by kernel_rfl) ?_
 intro A hA Q hQ
 simp
 apply hQ
 clear hQ hA
 repeat apply WK.s
 refine WK.g 200 Tryz.ntmps61 (by kernel_rfl) ?_
 intro A hA Q hQ
 simp
 refine RunQ.call rfl rfl rfl rfl (by rfl) (by simp (maxDischargeDepth := 120) [instS]) (eqf_inst 95 [] Inst.same l m rfl hl (fun x hx y _ => isame_c x y (ha x hx))) (by simp [instS]) ?_
 refine RunQ.eval ?_
 simp [instS]
 apply hQ
 clear hQ hA
 refine WK.t Tryz.func61 (by simp (maxDischargeDepth := 120) [Tryz.results61]) (by simp)

theorem rosame_c (a b : Oxm) : FnP Tryz.prog 98 [.agg a.enc, .agg b.enc] (.bool (a == b)) := by
 have w1 := Wide.beq a.value b.value
 have w2 := Wide.beq a.mask b.mask
 have e : (a == b) = (a.field == b.field && (a.masked == b.masked && (a.value == b.value && a.mask == b.mask))) := by
   rw [Oxm.beq, w1, w2]; simp [Bool.and_assoc]
 rw [e]
 cases k1 : a.field == b.field
 · refine FnP.i Tryz.func98 rfl rfl fun G w => ?_
   repeat apply WK.s
   refine WK.g 100 Tryz.ntmps98 (by kernel_rfl) ?_
   intro A hA Q hQ
   simp
   apply hQ
   clear hQ hA
   repeat apply WK.s
   refine WK.g 200 Tryz.ntmps98 (by kernel_rfl) ?_
   intro A hA Q hQ
   have hg5 : (A[5]?).bind (·.dst) = some 10 := by rw [hA]; rfl
   have hg12 : (A[12]?).bind (·.dst) = some 17 := by rw [hA]; rfl
   have hg19 : (A[19]?).bind (·.dst) = some 24 := by rw [hA]; rfl
   simp [Oxm.enc, k1, hg5, hg12, hg19]
   apply hQ
   clear hQ hA
   refine WK.t Tryz.func98 (by simp (maxDischargeDepth := 120) [Tryz.results98, k1]) (by simp [k1])
 cases k2 : a.masked == b.masked
 · refine FnP.i Tryz.func98 rfl rfl fun G w => ?_
   repeat apply WK.s
   refine WK.g 100 Tryz.ntmps98 (by kernel_rfl) ?_
   intro A hA Q hQ
   simp
   apply hQ
   clear hQ hA
   repeat apply WK.s
   refine WK.g 200 Tryz.ntmps98 (by kernel_rfl) ?_
   intro A hA Q hQ
   have hg5 : (A[5]?).bind (·.dst) = some 10 := by rw [hA]; rfl
   have hg12 : (A[12]?).bind (·.dst) = some 17 := by rw [hA]; rfl
   have hg19 : (A[19]?).bind (·.dst) = some 24 := by rw [hA]; rfl
   simp [Oxm.enc, k1, k2, hg5, hg12, hg19]
   apply hQ
   clear hQ hA
   refine WK.t Tryz.func98 (by simp (maxDischargeDepth := 120) [Tryz.results98, k1, k2]) (by simp [k1, k2])
 cases k3 : a.value == b.value
 · rw [k3] at w1
   refine FnP.i Tryz.func98 rfl rfl fun G w => ?_
   repeat apply WK.s
   refine WK.g 100 Tryz.ntmps98 (by kernel_rfl) ?_
   intro A hA Q hQ
   simp
   apply hQ
   clear hQ hA
   repeat apply WK.s
   refine WK.g 200 Tryz.ntmps98 (by kernel_rfl) ?_
   intro A hA Q hQ
   have hg5 : (A[5]?).bind (·.dst) = some 10 := by rw [hA]; rfl
   have hg12 : (A[12]?).bind (·.dst) = some 17 := by rw [hA]; rfl
   have hg19 : (A[19]?).bind (·.dst) = some 24 := by rw [hA]; rfl
   simp [Oxm.enc, k1, k2, ← w1, hg5, hg12, hg19]
   apply hQ
   clear hQ hA
   refine WK.t Tryz.func98 (by simp (maxDischargeDepth := 120) [Tryz.results98, k1, k2, k3]) (by simp [k1, k2, k3])
 rw [k3] at w1
 refine FnP.i Tryz.func98 rfl rfl fun G w => ?_
 repeat apply WK.s
 refine WK.g 100 Tryz.ntmps98 (by kernel_rfl) ?_
 intro A hA Q hQ
 simp
 apply hQ
 clear hQ hA
 repeat apply WK.s
 refine WK.g 200 Tryz.ntmps98 (by kernel_rfl) ?_
 intro A hA Q hQ
 have hg5 : (A[5]?).bind (·.dst) = some 10 := by rw [hA]; rfl
 have hg12 : (A[12]?).bind (·.dst) = some 17 := by rw [hA]; rfl
 have hg19 : (A[19]?).bind (·.dst) = some 24 := by rw [hA]; rfl
 simp [Oxm.enc, k1, k2, ← w1, ← w2, hg5, hg12, hg19]
 apply hQ
 clear hQ hA
 refine WK.t Tryz.func98 (by simp (maxDischargeDepth := 120) [Tryz.results98, k1, k2, k3]) (by simp [k1, k2, k3])
theorem rasame_c (a b : Action) : FnP Tryz.prog 127 [.agg a.enc, .agg b.enc] (.bool (a == b)) := by
 rw [Action.beq]
 cases k1 : a.kind == b.kind
 · refine FnP.i Tryz.func127 rfl rfl fun G w => ?_
   repeat apply WK.s
   refine WK.g 100 Tryz.ntmps127 (by kernel_rfl) ?_
   intro A hA Q hQ
   simp
   apply hQ
   clear hQ hA
   repeat apply WK.s
   refine WK.g 200 Tryz.ntmps127 (by kernel_rfl) ?_
   intro A hA Q hQ
   have hg5 : (A[5]?).bind (·.dst) = some 10 := by rw [hA]; rfl
   have hg12 : (A[12]?).bind (·.dst) = some 17 := by rw [hA]; rfl
   have hg19 : (A[19]?).bind (·.dst) = some 24 := by rw [hA]; rfl
   have hg26 : (A[26]?).bind (·.dst) = some 31 := by rw [hA]; rfl
   have hg33 : (A[33]?).bind (·.dst) = some 38 := by rw [hA]; rfl
   simp [Action.enc, k1, hg5, hg12, hg19, hg26, hg33]
   apply hQ
   clear hQ hA
   refine WK.t Tryz.func127 (by simp (maxDischargeDepth := 120) [Tryz.results127, k1]) (by simp [k1])
 cases k2 : a.port == b.port
 · refine FnP.i Tryz.func127 rfl rfl fun G w => ?_
   repeat apply WK.s
   refine WK.g 100 Tryz.ntmps127 (by kernel_rfl) ?_
   intro A hA Q hQ
   simp
   apply hQ
   clear hQ hA
   repeat apply WK.s
   refine WK.g 200 Tryz.ntmps127 (by kernel_rfl) ?_
   intro A hA Q hQ
   have hg5 : (A[5]?).bind (·.dst) = some 10 := by rw [hA]; rfl
   have hg12 : (A[12]?).bind (·.dst) = some 17 := by rw [hA]; rfl
   have hg19 : (A[19]?).bind (·.dst) = some 24 := by rw [hA]; rfl
   have hg26 : (A[26]?).bind (·.dst) = some 31 := by rw [hA]; rfl
   have hg33 : (A[33]?).bind (·.dst) = some 38 := by rw [hA]; rfl
   simp [Action.enc, k1, k2, hg5, hg12, hg19, hg26, hg33]
   apply hQ
   clear hQ hA
   refine WK.t Tryz.func127 (by simp (maxDischargeDepth := 120) [Tryz.results127, k1, k2]) (by simp [k1, k2])
 cases k3 : a.max == b.max
 · refine FnP.i Tryz.func127 rfl rfl fun G w => ?_
   repeat apply WK.s
   refine WK.g 100 Tryz.ntmps127 (by kernel_rfl) ?_
   intro A hA Q hQ
   simp
   apply hQ
   clear hQ hA
   repeat apply WK.s
   refine WK.g 200 Tryz.ntmps127 (by kernel_rfl) ?_
   intro A hA Q hQ
   have hg5 : (A[5]?).bind (·.dst) = some 10 := by rw [hA]; rfl
   have hg12 : (A[12]?).bind (·.dst) = some 17 := by rw [hA]; rfl
   have hg19 : (A[19]?).bind (·.dst) = some 24 := by rw [hA]; rfl
   have hg26 : (A[26]?).bind (·.dst) = some 31 := by rw [hA]; rfl
   have hg33 : (A[33]?).bind (·.dst) = some 38 := by rw [hA]; rfl
   simp [Action.enc, k1, k2, k3, hg5, hg12, hg19, hg26, hg33]
   apply hQ
   clear hQ hA
   refine WK.t Tryz.func127 (by simp (maxDischargeDepth := 120) [Tryz.results127, k1, k2, k3]) (by simp [k1, k2, k3])
 cases k4 : a.group == b.group
 · refine FnP.i Tryz.func127 rfl rfl fun G w => ?_
   repeat apply WK.s
   refine WK.g 100 Tryz.ntmps127 (by kernel_rfl) ?_
   intro A hA Q hQ
   simp
   apply hQ
   clear hQ hA
   repeat apply WK.s
   refine WK.g 200 Tryz.ntmps127 (by kernel_rfl) ?_
   intro A hA Q hQ
   have hg5 : (A[5]?).bind (·.dst) = some 10 := by rw [hA]; rfl
   have hg12 : (A[12]?).bind (·.dst) = some 17 := by rw [hA]; rfl
   have hg19 : (A[19]?).bind (·.dst) = some 24 := by rw [hA]; rfl
   have hg26 : (A[26]?).bind (·.dst) = some 31 := by rw [hA]; rfl
   have hg33 : (A[33]?).bind (·.dst) = some 38 := by rw [hA]; rfl
   simp [Action.enc, k1, k2, k3, k4, hg5, hg12, hg19, hg26, hg33]
   apply hQ
   clear hQ hA
   refine WK.t Tryz.func127 (by simp (maxDischargeDepth := 120) [Tryz.results127, k1, k2, k3, k4]) (by simp [k1, k2, k3, k4])
 cases k5 : a.ether == b.ether
 · refine FnP.i Tryz.func127 rfl rfl fun G w => ?_
   repeat apply WK.s
   refine WK.g 100 Tryz.ntmps127 (by kernel_rfl) ?_
   intro A hA Q hQ
   simp
   apply hQ
   clear hQ hA
   repeat apply WK.s
   refine WK.g 200 Tryz.ntmps127 (by kernel_rfl) ?_
   intro A hA Q hQ
   have hg5 : (A[5]?).bind (·.dst) = some 10 := by rw [hA]; rfl
   have hg12 : (A[12]?).bind (·.dst) = some 17 := by rw [hA]; rfl
   have hg19 : (A[19]?).bind (·.dst) = some 24 := by rw [hA]; rfl
   have hg26 : (A[26]?).bind (·.dst) = some 31 := by rw [hA]; rfl
   have hg33 : (A[33]?).bind (·.dst) = some 38 := by rw [hA]; rfl
   simp [Action.enc, k1, k2, k3, k4, k5, hg5, hg12, hg19, hg26, hg33]
   apply hQ
   clear hQ hA
   refine WK.t Tryz.func127 (by simp (maxDischargeDepth := 120) [Tryz.results127, k1, k2, k3, k4, k5]) (by simp [k1, k2, k3, k4, k5])
 refine FnP.i Tryz.func127 rfl rfl fun G w => ?_
 repeat apply WK.s
 refine WK.g 100 Tryz.ntmps127 (by kernel_rfl) ?_
 intro A hA Q hQ
 simp
 apply hQ
 clear hQ hA
 repeat apply WK.s
 refine WK.g 200 Tryz.ntmps127 (by kernel_rfl) ?_
 intro A hA Q hQ
 have hg5 : (A[5]?).bind (·.dst) = some 10 := by rw [hA]; rfl
 have hg12 : (A[12]?).bind (·.dst) = some 17 := by rw [hA]; rfl
 have hg19 : (A[19]?).bind (·.dst) = some 24 := by rw [hA]; rfl
 have hg26 : (A[26]?).bind (·.dst) = some 31 := by rw [hA]; rfl
 have hg33 : (A[33]?).bind (·.dst) = some 38 := by rw [hA]; rfl
 simp [Action.enc, k1, k2, k3, k4, k5, hg5, hg12, hg19, hg26, hg33]
 refine RunQ.callG rfl rfl (by simp [hg33, Oxm.enc]) rfl (by rfl) (by simp (maxDischargeDepth := 120) [hg33, Oxm.enc]) (rosame_c a.oxm b.oxm) (by simp [hg33, Oxm.enc]) ?_
 refine RunQ.eval ?_
 simp [hg33, Oxm.enc]
 apply hQ
 clear hQ hA
 refine WK.t Tryz.func127 (by simp (maxDischargeDepth := 120) [Tryz.results127, k1, k2, k3, k4, k5]) (by simp [k1, k2, k3, k4, k5])
theorem rsame_oxm (l m : List Oxm) (hl : l.length ≤ 1000000) : FnP Tryz.prog 63 [oxmS l, oxmS m] (.bool (eqBy (fun x y => x == y) l m)) := by
 unfold oxmS
 refine FnP.i Tryz.func63 rfl rfl fun G w => ?_
 repeat (first | apply WK.s | apply WK.b | apply WK.n | apply WK.k | apply WK.label | apply WK.scope | apply WK.inScope | refine WK.exit rfl ?_)
 first | refine WK.g 100 Tryz.ntmps63 (by kernel_rfl) ?_ | refine WK.regD 100 clsOf (by kernel_rfl) Tryz.ntmps63 (by kernel_rfl) (by kernel_rfl) ?_
 intro A hA Q hQ
 simp
 apply hQ
 clear hQ hA
 repeat (first | apply WK.s | apply WK.b | apply WK.n | apply WK.k | apply WK.label | apply WK.scope | apply WK.inScope | refine WK.exit rfl ?_)
 first | refine WK.g 200 Tryz.ntmps63 (by kernel_rfl) ?_ | refine WK.regD 200 clsOf (by kernel_rfl) Tryz.ntmps63 (by kernel_rfl) (by kernel_rfl) ?_
 intro A hA Q hQ
 simp
 apply hQ
 clear hQ hA
 repeat (first | apply WK.s | apply WK.b | apply WK.n | apply WK.k | apply WK.label | apply WK.scope | apply WK.inScope | refine WK.exit rfl ?_)
 refine WK.c2 rfl (fun h => ?_) (fun h => ?_)
 · simp at h
   have e : eqBy (fun x y => x == y) l m = false := by unfold eqBy; simp; intro e; omega
   repeat (first | apply WK.s | apply WK.b | apply WK.n | apply WK.k | apply WK.label | apply WK.scope | apply WK.inScope | refine WK.exit rfl ?_)
   first | refine WK.g 300 Tryz.ntmps63 (by kernel_rfl) ?_ | refine WK.regD 300 clsOf (by kernel_rfl) Tryz.ntmps63 (by kernel_rfl) (by kernel_rfl) ?_
   intro A hA Q hQ
   simp
   apply hQ
   clear hQ hA
   repeat (first | apply WK.s | apply WK.b | apply WK.n | apply WK.k | apply WK.label | apply WK.scope | apply WK.inScope | refine WK.exit rfl ?_)
   refine WK.t Tryz.func63 (by simp (maxDischargeDepth := 120) [Tryz.results63, e]) (by simp [e])
 · simp at h
   have hlm : l.length = m.length := by omega
   repeat (first | apply WK.s | apply WK.b | apply WK.n | apply WK.k | apply WK.label | apply WK.scope | apply WK.inScope | refine WK.exit rfl ?_)
   first | refine WK.g 400 Tryz.ntmps63 (by kernel_rfl) ?_ | refine WK.regD 400 clsOf (by kernel_rfl) Tryz.ntmps63 (by kernel_rfl) (by kernel_rfl) ?_
   intro A hA Q hQ
   simp
   apply hQ
   clear hQ hA
   repeat (first | apply WK.s | apply WK.b | apply WK.n | apply WK.k | apply WK.label | apply WK.scope | apply WK.inScope | refine WK.exit rfl ?_)
   refine WK.lI (fun n => n) (fun i : Nat => (⟨(upd (upd (upd J 0 (.sl false l.length (oxmL l))) 1 (.sl false m.length (oxmL m))) 5 (.int .i64 i)), B0, 0⟩ : St)) (fun i => i ≤ l.length ∧ ∀ j, j < i → (nth l j == nth m j) = true) (fun i => l.length - i) (0) (by repeat (first | exact TmW.nil | refine TmW.upd ?_ (by simp (maxDischargeDepth := 120)))) (by repeat (first | exact BxW.nil | refine BxW.upd ?_ (by simp (maxDischargeDepth := 120)))) InjW.id (⟨by omega, by simp⟩) (fun i hi IH => ?_)
   repeat (first | apply WK.s | apply WK.b | apply WK.n | apply WK.k | apply WK.label | apply WK.scope | apply WK.inScope | refine WK.exit rfl ?_)
   first | refine WK.g 500 Tryz.ntmps63 (by kernel_rfl) ?_ | refine WK.regD 500 clsOf (by kernel_rfl) Tryz.ntmps63 (by kernel_rfl) (by kernel_rfl) ?_
   intro A hA Q hQ
   simp
   apply hQ
   clear hQ hA
   repeat (first | apply WK.s | apply WK.b | apply WK.n | apply WK.k | apply WK.label | apply WK.scope | apply WK.inScope | refine WK.exit rfl ?_)
   refine WK.c2 rfl (fun h1 => ?_) (fun h1 => ?_)
   · simp at h1
     have h2 : i < l.length := by omega
     have h2' : i < m.length := by omega
     have h3 : 6 ≤ l.length * 6 - i * 6 := by omega
     have h3' : 6 ≤ m.length * 6 - i * 6 := by omega
     have h4 := oxm_sub l i h2
     have h4' := oxm_sub m i h2'
     have h6 : IntKind.i64.wrap ((i : Int) + 1) = i + 1 := wrap_i64 (by omega) (by omega)
     repeat (first | apply WK.s | apply WK.b | apply WK.n | apply WK.k | apply WK.label | apply WK.scope | apply WK.inScope | refine WK.exit rfl ?_)
     first | refine WK.g 600 Tryz.ntmps63 (by kernel_rfl) ?_ | refine WK.regD 600 clsOf (by kernel_rfl) Tryz.ntmps63 (by kernel_rfl) (by kernel_rfl) ?_
     intro A hA Q hQ
     simp [h2, h2', h3, h3', h4, h4']
     refine RunQ.call rfl rfl rfl rfl (by rfl) (by simp (maxDischargeDepth := 120)) (rosame_c (nth l i) (nth m i)) (by simp) ?_
     refine RunQ.eval ?_
     simp
     apply hQ
     clear hQ hA
     repeat (first | apply WK.s | apply WK.b | apply WK.n | apply WK.k | apply WK.label | apply WK.scope | apply WK.inScope | refine WK.exit rfl ?_)
     refine WK.c2 rfl (fun h5 => ?_) (fun h5 => ?_)
     · simp at h5
       have e : eqBy (fun x y => x == y) l m = false := by unfold eqBy; rw [all_range_false (p := fun i => (nth l i == nth m i)) h2 (by simpa using h5)]; simp
       repeat (first | apply WK.s | apply WK.b | apply WK.n | apply WK.k | apply WK.label | apply WK.scope | apply WK.inScope | refine WK.exit rfl ?_)
       first | refine WK.g 700 Tryz.ntmps63 (by kernel_rfl) ?_ | refine WK.regD 700 clsOf (by kernel_rfl) Tryz.ntmps63 (by kernel_rfl) (by kernel_rfl) ?_
       intro A hA Q hQ
       simp
       apply hQ
       clear hQ hA
       repeat (first | apply WK.s | apply WK.b | apply WK.n | apply WK.k | apply WK.label | apply WK.scope | apply WK.inScope | refine WK.exit rfl ?_)
       refine WK.t Tryz.func63 (by simp (maxDischargeDepth := 120) [Tryz.results63, e]) (by simp [e])
     · simp at h5
       repeat (first | apply WK.s | apply WK.b | apply WK.n | apply WK.k | apply WK.label | apply WK.scope | apply WK.inScope | refine WK.exit rfl ?_)
       first | refine WK.g 800 Tryz.ntmps63 (by kernel_rfl) ?_ | refine WK.regD 800 clsOf (by kernel_rfl) Tryz.ntmps63 (by kernel_rfl) (by kernel_rfl) ?_
       intro A hA Q hQ
       simp [h6]
       apply hQ
       clear hQ hA
       repeat (first | apply WK.s | apply WK.b | apply WK.n | apply WK.k | apply WK.label | apply WK.scope | apply WK.inScope | refine WK.exit rfl ?_)
       refine WK.next (fun n => n) (IH (i + 1) (⟨by omega, fun j hj => by by_cases h7 : j = i; (subst h7; simpa using h5); exact hi.2 j (by omega)⟩) (by first | omega | (dsimp only; omega))) (by repeat (first | exact TmW.nil | refine TmW.upd ?_ (by simp (maxDischargeDepth := 120)))) (by repeat (first | exact BxW.nil | refine BxW.upd ?_ (by simp (maxDischargeDepth := 120)))) InjW.id
   · simp at h1
     have e : eqBy (fun x y => x == y) l m = true := by unfold eqBy; rw [all_range_true (p := fun i => (nth l i == nth m i)) (fun j hj => hi.2 j (by omega))]; simp [hlm]
     repeat (first | apply WK.s | apply WK.b | apply WK.n | apply WK.k | apply WK.label | apply WK.scope | apply WK.inScope | refine WK.exit rfl ?_)
     first | refine WK.g 900 Tryz.ntmps63 (by kernel_rfl) ?_ | refine WK.regD 900 clsOf (by kernel_rfl) Tryz.ntmps63 (by kernel_rfl) (by kernel_rfl) ?_
     intro A hA Q hQ
     simp
     apply hQ
     clear hQ hA
     repeat (first | apply WK.s | apply WK.b | apply WK.n | apply WK.k | apply WK.label | apply WK.scope | apply WK.inScope | refine WK.exit rfl ?_)
     refine WK.t Tryz.func63 (by simp (maxDischargeDepth := 120) [Tryz.results63, e]) (by simp [e])
theorem rsame_act (l m : List Action) (hl : l.length ≤ 1000000) : FnP Tryz.prog 100 [actS l, actS m] (.bool (eqBy (fun x y => x == y) l m)) := by
 unfold actS
 refine FnP.i Tryz.func100 rfl rfl fun G w => ?_
 repeat apply WK.s
 refine WK.g 100 Tryz.ntmps100 (by kernel_rfl) ?_
 intro A hA Q hQ
 simp
 apply hQ
 clear hQ hA
 repeat apply WK.s
 refine WK.g 200 Tryz.ntmps100 (by kernel_rfl) ?_
 intro A hA Q hQ
 simp
 apply hQ
 clear hQ hA
 refine WK.c2 rfl (fun h => ?_) (fun h => ?_)
 · simp at h
   have e : eqBy (fun x y => x == y) l m = false := by unfold eqBy; simp; intro e; omega
   repeat apply WK.s
   refine WK.g 300 Tryz.ntmps100 (by kernel_rfl) ?_
   intro A hA Q hQ
   simp
   apply hQ
   clear hQ hA
   refine WK.t Tryz.func100 (by simp (maxDischargeDepth := 120) [Tryz.results100, e]) (by simp [e])
 · simp at h
   have hlm : l.length = m.length := by omega
   repeat (first | apply WK.s | apply WK.k)
   refine WK.g 400 Tryz.ntmps100 (by kernel_rfl) ?_
   intro A hA Q hQ
   simp
   apply hQ
   clear hQ hA
   repeat (apply WK.b)
   refine WK.lI (fun n => n) (fun i : Nat => (⟨(upd (upd (upd J 0 (.sl false l.length (actL l))) 1 (.sl false m.length (actL m))) 5 (.int .i64 i)), B0, 0⟩ : St)) (fun i => i ≤ l.length ∧ ∀ j, j < i → (nth l j == nth m j) = true) (fun i => l.length - i) (0) (by repeat (first | exact TmW.nil | refine TmW.upd ?_ (by simp (maxDischargeDepth := 120)))) (by repeat (first | exact BxW.nil | refine BxW.upd ?_ (by simp (maxDischargeDepth := 120)))) InjW.id (⟨by omega, by simp⟩) (fun i hi IH => ?_)
   repeat apply WK.s
   refine WK.g 500 Tryz.ntmps100 (by kernel_rfl) ?_
   intro A hA Q hQ
   simp
   apply hQ
   clear hQ hA
   refine WK.c2 rfl (fun h1 => ?_) (fun h1 => ?_)
   · simp at h1
     have h2 : i < l.length := by omega
     have h2' : i < m.length := by omega
     have h3 : 11 ≤ l.length * 11 - i * 11 := by omega
     have h3' : 11 ≤ m.length * 11 - i * 11 := by omega
     have h4 := act_sub l i h2
     have h4' := act_sub m i h2'
     have h6 : IntKind.i64.wrap ((i : Int) + 1) = i + 1 := wrap_i64 (by omega) (by omega)
     repeat (first | apply WK.s | apply WK.b | apply WK.k)
     refine WK.regD 600 clsOf (by kernel_rfl) Tryz.ntmps100 (by kernel_rfl) (by kernel_rfl) ?_
     intro A hA Q hQ
     simp [h2, h2', h3, h3', h4, h4']
     refine RunQ.call rfl rfl rfl rfl (by rfl) (by simp (maxDischargeDepth := 120)) (rasame_c (nth l i) (nth m i)) (by simp) ?_
     refine RunQ.eval ?_
     simp
     apply hQ
     clear hQ hA
     refine WK.c2 rfl (fun h5 => ?_) (fun h5 => ?_)
     · simp at h5
       have e : eqBy (fun x y => x == y) l m = false := by unfold eqBy; rw [all_range_false (p := fun i => (nth l i == nth m i)) h2 (by simpa using h5)]; simp
       repeat apply WK.s
       refine WK.g 700 Tryz.ntmps100 (by kernel_rfl) ?_
       intro A hA Q hQ
       simp
       apply hQ
       clear hQ hA
       refine WK.t Tryz.func100 (by simp (maxDischargeDepth := 120) [Tryz.results100, e]) (by simp [e])
     · simp at h5
       repeat (first | apply WK.n | apply WK.k)
       refine WK.g 800 Tryz.ntmps100 (by kernel_rfl) ?_
       intro A hA Q hQ
       simp [h6]
       apply hQ
       clear hQ hA
       refine WK.next (fun n => n) (IH (i + 1) (⟨by omega, fun j hj => by by_cases h7 : j = i; (subst h7; simpa using h5); exact hi.2 j (by omega)⟩) (by first | omega | (dsimp only; omega))) (by repeat (first | exact TmW.nil | refine TmW.upd ?_ (by simp (maxDischargeDepth := 120)))) (by repeat (first | exact BxW.nil | refine BxW.upd ?_ (by simp (maxDischargeDepth := 120)))) InjW.id
   · simp at h1
     have e : eqBy (fun x y => x == y) l m = true := by unfold eqBy; rw [all_range_true (p := fun i => (nth l i == nth m i)) (fun j hj => hi.2 j (by omega))]; simp [hlm]
     repeat (first | apply WK.s | refine WK.exit rfl ?_)
     refine WK.g 900 Tryz.ntmps100 (by kernel_rfl) ?_
     intro A hA Q hQ
     simp
     apply hQ
     clear hQ hA
     refine WK.t Tryz.func100 (by simp (maxDischargeDepth := 120) [Tryz.results100, e]) (by simp [e])
theorem risame_c (a b : Inst) (hl : a.acts.length ≤ 1000000) : FnP Tryz.prog 99 [.agg a.enc, .agg b.enc] (.bool (Inst.same a b)) := by
 have w1 := Wide.beq a.value b.value
 have w2 := Wide.beq a.mask b.mask
 cases k1 : a.kind == b.kind
 · refine FnP.i Tryz.func99 rfl rfl fun G w => ?_
   repeat apply WK.s
   refine WK.g 100 Tryz.ntmps99 (by kernel_rfl) ?_
   intro A hA Q hQ
   simp
   apply hQ
   clear hQ hA
   repeat apply WK.s
   refine WK.g 200 Tryz.ntmps99 (by kernel_rfl) ?_
   intro A hA Q hQ
   have hg5 : (A[5]?).bind (·.dst) = some 10 := by rw [hA]; rfl
   have hg12 : (A[12]?).bind (·.dst) = some 17 := by rw [hA]; rfl
   have hg19 : (A[19]?).bind (·.dst) = some 24 := by rw [hA]; rfl
   have hg26 : (A[26]?).bind (·.dst) = some 31 := by rw [hA]; rfl
   simp [Inst.enc, k1, hg5, hg12, hg19, hg26]
   apply hQ
   clear hQ hA
   refine WK.t Tryz.func99 (by simp (maxDischargeDepth := 120) [Tryz.results99, Inst.same, k1]) (by simp [Inst.same, k1])
 cases k2 : a.table == b.table
 · refine FnP.i Tryz.func99 rfl rfl fun G w => ?_
   repeat apply WK.s
   refine WK.g 100 Tryz.ntmps99 (by kernel_rfl) ?_
   intro A hA Q hQ
   simp
   apply hQ
   clear hQ hA
   repeat apply WK.s
   refine WK.g 200 Tryz.ntmps99 (by kernel_rfl) ?_
   intro A hA Q hQ
   have hg5 : (A[5]?).bind (·.dst) = some 10 := by rw [hA]; rfl
   have hg12 : (A[12]?).bind (·.dst) = some 17 := by rw [hA]; rfl
   have hg19 : (A[19]?).bind (·.dst) = some 24 := by rw [hA]; rfl
   have hg26 : (A[26]?).bind (·.dst) = some 31 := by rw [hA]; rfl
   simp [Inst.enc, k1, k2, hg5, hg12, hg19, hg26]
   apply hQ
   clear hQ hA
   refine WK.t Tryz.func99 (by simp (maxDischargeDepth := 120) [Tryz.results99, Inst.same, k1, k2]) (by simp [Inst.same, k1, k2])
 cases k3 : a.value == b.value
 · rw [k3] at w1
   refine FnP.i Tryz.func99 rfl rfl fun G w => ?_
   repeat apply WK.s
   refine WK.g 100 Tryz.ntmps99 (by kernel_rfl) ?_
   intro A hA Q hQ
   simp
   apply hQ
   clear hQ hA
   repeat apply WK.s
   refine WK.g 200 Tryz.ntmps99 (by kernel_rfl) ?_
   intro A hA Q hQ
   have hg5 : (A[5]?).bind (·.dst) = some 10 := by rw [hA]; rfl
   have hg12 : (A[12]?).bind (·.dst) = some 17 := by rw [hA]; rfl
   have hg19 : (A[19]?).bind (·.dst) = some 24 := by rw [hA]; rfl
   have hg26 : (A[26]?).bind (·.dst) = some 31 := by rw [hA]; rfl
   simp [Inst.enc, k1, k2, ← w1, hg5, hg12, hg19, hg26]
   apply hQ
   clear hQ hA
   refine WK.t Tryz.func99 (by simp (maxDischargeDepth := 120) [Tryz.results99, Inst.same, k1, k2, k3]) (by simp [Inst.same, k1, k2, k3])
 rw [k3] at w1
 cases k4 : a.mask == b.mask
 · rw [k4] at w2
   refine FnP.i Tryz.func99 rfl rfl fun G w => ?_
   repeat apply WK.s
   refine WK.g 100 Tryz.ntmps99 (by kernel_rfl) ?_
   intro A hA Q hQ
   simp
   apply hQ
   clear hQ hA
   repeat apply WK.s
   refine WK.g 200 Tryz.ntmps99 (by kernel_rfl) ?_
   intro A hA Q hQ
   have hg5 : (A[5]?).bind (·.dst) = some 10 := by rw [hA]; rfl
   have hg12 : (A[12]?).bind (·.dst) = some 17 := by rw [hA]; rfl
   have hg19 : (A[19]?).bind (·.dst) = some 24 := by rw [hA]; rfl
   have hg26 : (A[26]?).bind (·.dst) = some 31 := by rw [hA]; rfl
   simp [Inst.enc, k1, k2, ← w1, ← w2, hg5, hg12, hg19, hg26]
   apply hQ
   clear hQ hA
   refine WK.t Tryz.func99 (by simp (maxDischargeDepth := 120) [Tryz.results99, Inst.same, k1, k2, k3, k4]) (by simp [Inst.same, k1, k2, k3, k4])
 rw [k4] at w2
 refine FnP.i Tryz.func99 rfl rfl fun G w => ?_
 repeat apply WK.s
 refine WK.g 100 Tryz.ntmps99 (by kernel_rfl) ?_
 intro A hA Q hQ
 simp
 apply hQ
 clear hQ hA
 repeat apply WK.s
 refine WK.g 200 Tryz.ntmps99 (by kernel_rfl) ?_
 intro A hA Q hQ
 have hg5 : (A[5]?).bind (·.dst) = some 10 := by rw [hA]; rfl
 have hg12 : (A[12]?).bind (·.dst) = some 17 := by rw [hA]; rfl
 have hg19 : (A[19]?).bind (·.dst) = some 24 := by rw [hA]; rfl
 have hg26 : (A[26]?).bind (·.dst) = some 31 := by rw [hA]; rfl
 simp [Inst.enc, k1, k2, ← w1, ← w2, hg5, hg12, hg19, hg26]
 refine RunQ.callG rfl rfl (by simp [hg26, actS]) rfl (by rfl) (by simp (maxDischargeDepth := 120) [hg26, actS]) (rsame_act a.acts b.acts hl) (by simp [hg26, actS]) ?_
 refine RunQ.eval ?_
 simp [hg26, actS]
 apply hQ
 clear hQ hA
 refine WK.t Tryz.func99 (by simp (maxDischargeDepth := 120) [Tryz.results99, Inst.same, k1, k2, k3, k4]) (by simp [Inst.same, k1, k2, k3, k4])
theorem rsame_inst (l m : List Inst) (hl : l.length ≤ 1000000) (ha : ∀ x, x ∈ l → x.acts.length ≤ 1000000) : FnP Tryz.prog 64 [instS l, instS m] (.bool (eqBy Inst.same l m)) := by
 unfold instS
 refine FnP.i Tryz.func64 rfl rfl fun G w => ?_
 repeat apply WK.s
 refine WK.g 100 Tryz.ntmps64 (by kernel_rfl) ?_
 intro A hA Q hQ
 simp
 apply hQ
 clear hQ hA
 repeat apply WK.s
 refine WK.g 200 Tryz.ntmps64 (by kernel_rfl) ?_
 intro A hA Q hQ
 simp
 apply hQ
 clear hQ hA
 refine WK.c2 rfl (fun h => ?_) (fun h => ?_)
 · simp at h
   have e : eqBy Inst.same l m = false := by unfold eqBy; simp; intro e; omega
   repeat apply WK.s
   refine WK.g 300 Tryz.ntmps64 (by kernel_rfl) ?_
   intro A hA Q hQ
   simp
   apply hQ
   clear hQ hA
   refine WK.t Tryz.func64 (by simp (maxDischargeDepth := 120) [Tryz.results64, e]) (by simp [e])
 · simp at h
   have hlm : l.length = m.length := by omega
   repeat (first | apply WK.s | apply WK.k)
   refine WK.g 400 Tryz.ntmps64 (by kernel_rfl) ?_
   intro A hA Q hQ
   simp
   apply hQ
   clear hQ hA
   repeat (apply WK.b)
   refine WK.lI (fun n => n) (fun i : Nat => (⟨(upd (upd (upd J 0 (.sl false l.length (instL l))) 1 (.sl false m.length (instL m))) 5 (.int .i64 i)), B0, 0⟩ : St)) (fun i => i ≤ l.length ∧ ∀ j, j < i → Inst.same (nth l j) (nth m j) = true) (fun i => l.length - i) (0) (by repeat (first | exact TmW.nil | refine TmW.upd ?_ (by simp (maxDischargeDepth := 120)))) (by repeat (first | exact BxW.nil | refine BxW.upd ?_ (by simp (maxDischargeDepth := 120)))) InjW.id (⟨by omega, by simp⟩) (fun i hi IH => ?_)
   repeat apply WK.s
   refine WK.g 500 Tryz.ntmps64 (by kernel_rfl) ?_
   intro A hA Q hQ
   simp
   apply hQ
   clear hQ hA
   refine WK.c2 rfl (fun h1 => ?_) (fun h1 => ?_)
   · simp at h1
     have h2 : i < l.length := by omega
     have h2' : i < m.length := by omega
     have h3 : 7 ≤ l.length * 7 - i * 7 := by omega
     have h3' : 7 ≤ m.length * 7 - i * 7 := by omega
     have h4 := inst_sub l i h2
     have h4' := inst_sub m i h2'
     have h6 : IntKind.i64.wrap ((i : Int) + 1) = i + 1 := wrap_i64 (by omega) (by omega)
     repeat (first | apply WK.s | apply WK.b | apply WK.k)
     refine WK.regD 600 clsOf (by kernel_rfl) Tryz.ntmps64 (by kernel_rfl) (by kernel_rfl) ?_
     intro A hA Q hQ
     simp [h2, h2', h3, h3', h4, h4']
     refine RunQ.call rfl rfl rfl rfl (by rfl) (by simp (maxDischargeDepth := 120)) (risame_c (nth l i) (nth m i) (ha _ (nth_mem h2))) (by simp) ?_
     refine RunQ.eval ?_
     simp
     apply hQ
     clear hQ hA
     refine WK.c2 rfl (fun h5 => ?_) (fun h5 => ?_)
     · simp at h5
       have e : eqBy Inst.same l m = false := by unfold eqBy; rw [all_range_false (p := fun i => Inst.same (nth l i) (nth m i)) h2 h5]; simp
       repeat apply WK.s
       refine WK.g 700 Tryz.ntmps64 (by kernel_rfl) ?_
       intro A hA Q hQ
       simp
       apply hQ
       clear hQ hA
       refine WK.t Tryz.func64 (by simp (maxDischargeDepth := 120) [Tryz.results64, e]) (by simp [e])
     · simp at h5
       repeat (first | apply WK.n | apply WK.k)
       refine WK.g 800 Tryz.ntmps64 (by kernel_rfl) ?_
       intro A hA Q hQ
       simp [h6]
       apply hQ
       clear hQ hA
       refine WK.next (fun n => n) (IH (i + 1) (⟨by omega, fun j hj => by by_cases h7 : j = i; (subst h7; exact h5); exact hi.2 j (by omega)⟩) (by first | omega | (dsimp only; omega))) (by repeat (first | exact TmW.nil | refine TmW.upd ?_ (by simp (maxDischargeDepth := 120)))) (by repeat (first | exact BxW.nil | refine BxW.upd ?_ (by simp (maxDischargeDepth := 120)))) InjW.id
   · simp at h1
     have e : eqBy Inst.same l m = true := by unfold eqBy; rw [all_range_true (p := fun i => Inst.same (nth l i) (nth m i)) (fun j hj => hi.2 j (by omega))]; simp [hlm]
     repeat (first | apply WK.s | refine WK.exit rfl ?_)
     refine WK.g 900 Tryz.ntmps64 (by kernel_rfl) ?_
     intro A hA Q hQ
     simp
     apply hQ
     clear hQ hA
     refine WK.t Tryz.func64 (by simp (maxDischargeDepth := 120) [Tryz.results64, e]) (by simp [e])

def idxI {α : Type} (p : α → Bool) (l : List α) : Int := match l.findIdx? p with | some i => i | none => -1
theorem idxI_some {α : Type} [Inhabited α] {p : α → Bool} {l : List α} {i : Nat} (h : i < l.length) (hp : p (nth l i) = true) (hn : ∀ j, j < i → p (nth l j) = false) : idxI p l = i := by
 unfold idxI
 have : l.findIdx? p = some i := by
   rw [List.findIdx?_eq_some_iff_getElem]
   refine ⟨h, by rw [← nth_eq h]; exact hp, fun j hj => ?_⟩
   rw [← nth_eq (by omega)]; simp [hn j hj]
 rw [this]
theorem idxI_none {α : Type} [Inhabited α] {p : α → Bool} {l : List α} (hn : ∀ j, j < l.length → p (nth l j) = false) : idxI p l = -1 := by
 unfold idxI
 have : l.findIdx? p = none := by
   rw [List.findIdx?_eq_none_iff]
   intro x hx
   obtain ⟨i, hi, rfl⟩ := mem_nth hx
   exact hn i hi
 rw [this]
theorem idxI_ge {α : Type} (p : α → Bool) (l : List α) : decide (idxI p l ≥ 0) = l.any p := by
 unfold idxI
 cases h : l.findIdx? p with
 | none =>
   rw [List.findIdx?_eq_none_iff] at h
   have : l.any p = false := by rw [List.any_eq_false]; intro x hx; simp [h x hx]
   simp [this]
 | some i =>
   rw [List.findIdx?_eq_some_iff_getElem] at h
   obtain ⟨hi, hp, _⟩ := h
   have : l.any p = true := List.any_eq_true.2 ⟨_, List.getElem_mem hi, hp⟩
   simp [this]
def actsPlain (l : List Action) : Bool := decide (l.length ≤ 12)
def instsPlain (l : List Inst) : Bool := decide (l.length ≤ 8) && l.all fun i => actsPlain i.acts
def Flow.plain (f : Flow) : Bool := decide (f.mat.length ≤ 30) && instsPlain f.insts
def FlowMod.plain (m : FlowMod) : Bool := decide (m.mat.length ≤ 30) && instsPlain m.insts

theorem appAct : AppOk Tryz.prog 81 143 11 88 := ⟨by simp, by simp, by simp, by simp, by simp, by simp, by omega, by omega⟩

def Inst.goes (i : Inst) : Bool := i.kind == 3 || i.kind == 4
def allI {α : Type} (g : List Action → List α) (l : List Inst) : List α := (l.filter Inst.goes).flatMap fun i => g i.acts

theorem appInst : AppOk Tryz.prog 24 130 7 72 := ⟨by simp, by simp, by simp, by simp, by simp, by simp, by omega, by omega⟩

structure IOk (l : List Inst) : Prop where
 len : l.length ≤ 1000
 acts : ∀ x, x ∈ l → x.acts.length ≤ 1000000
structure FOk (f : Flow) : Prop where
 mat : f.mat.length ≤ 1000000
 insts : IOk f.insts
def Flow.same (a b : Flow) : Bool := a.cookie == b.cookie && ((a.prio == b.prio && (a.idle == b.idle && (a.hard == b.hard && a.flags == b.flags))) && (eqBy (fun x y => x == y) a.mat b.mat && eqBy Inst.same a.insts b.insts))
end Go.Proofs.YtcccfbjkcahgfaaGreat
