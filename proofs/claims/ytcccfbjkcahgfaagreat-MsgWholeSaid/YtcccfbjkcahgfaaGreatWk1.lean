/- The facts of the types of the program that the claim is about: how many cells and bytes a value has, which parts, which zero value, and which values are compared cell by cell. -/
import Derived.Test.YtcccfbjkcahgfaaGreatProg
import Derived.Test.YtcccfbjkcahgfaaGreatDa
import Derived.Test.YtcccfbjkcahgfaaGreatRows
set_option linter.all false
set_option linter.unnecessarySimpa false
section
set_option linter.unusedVariables false
namespace Go.Proofs.YtcccfbjkcahgfaaGreat
open Go Go.AI Go.Proofs
@[simp] theorem td1 : td Tryz.prog 1 = .func := by kernel_rfl
@[simp] theorem sz1 : sz Tryz.prog 1 = 1 := by kernel_rfl
@[simp] theorem byt1 : byt Tryz.prog 1 = 8 := by kernel_rfl
@[simp] theorem zr1 : zr Tryz.prog 1 = .nilf := by kernel_rfl
@[simp] theorem td2 : td Tryz.prog 2 = .int .i64 := by kernel_rfl
@[simp] theorem sz2 : sz Tryz.prog 2 = 1 := by kernel_rfl
@[simp] theorem byt2 : byt Tryz.prog 2 = 8 := by kernel_rfl
@[simp] theorem zr2 : zr Tryz.prog 2 = .int .i64 0 := by kernel_rfl
@[simp] theorem td3 : td Tryz.prog 3 = .int .i64 := by kernel_rfl
@[simp] theorem sz3 : sz Tryz.prog 3 = 1 := by kernel_rfl
@[simp] theorem byt3 : byt Tryz.prog 3 = 8 := by kernel_rfl
@[simp] theorem zr3 : zr Tryz.prog 3 = .int .i64 0 := by kernel_rfl
@[simp] theorem td4 : td Tryz.prog 4 = .bool := by kernel_rfl
@[simp] theorem sz4 : sz Tryz.prog 4 = 1 := by kernel_rfl
@[simp] theorem byt4 : byt Tryz.prog 4 = 1 := by kernel_rfl
@[simp] theorem zr4 : zr Tryz.prog 4 = .bool false := by kernel_rfl
@[simp] theorem td5 : td Tryz.prog 5 = .int .u8 := by kernel_rfl
@[simp] theorem sz5 : sz Tryz.prog 5 = 1 := by kernel_rfl
@[simp] theorem byt5 : byt Tryz.prog 5 = 1 := by kernel_rfl
@[simp] theorem zr5 : zr Tryz.prog 5 = .int .u8 0 := by kernel_rfl
@[simp] theorem td6 : td Tryz.prog 6 = .int .u8 := by kernel_rfl
@[simp] theorem sz6 : sz Tryz.prog 6 = 1 := by kernel_rfl
@[simp] theorem byt6 : byt Tryz.prog 6 = 1 := by kernel_rfl
@[simp] theorem zr6 : zr Tryz.prog 6 = .int .u8 0 := by kernel_rfl
@[simp] theorem td7 : td Tryz.prog 7 = .struct [(0, 2), (1, 3), (2, 4), (3, 6)] := by kernel_rfl
@[simp] theorem sz7 : sz Tryz.prog 7 = 4 := by kernel_rfl
@[simp] theorem byt7 : byt Tryz.prog 7 = 24 := by kernel_rfl
@[simp] theorem zr7 : zr Tryz.prog 7 = .agg ([.int .i64 0, .int .i64 0, .bool false, .int .u8 0]) := by kernel_rfl
@[simp] theorem fl7 : flatT Tryz.prog 7 = some ([false, false, true, false]) := by kernel_rfl
@[simp] theorem td8 : td Tryz.prog 8 = .struct [(0, 2), (1, 3), (2, 4), (3, 6)] := by kernel_rfl
@[simp] theorem sz8 : sz Tryz.prog 8 = 4 := by kernel_rfl
@[simp] theorem byt8 : byt Tryz.prog 8 = 24 := by kernel_rfl
@[simp] theorem zr8 : zr Tryz.prog 8 = .agg ([.int .i64 0, .int .i64 0, .bool false, .int .u8 0]) := by kernel_rfl
@[simp] theorem fl8 : flatT Tryz.prog 8 = some ([false, false, true, false]) := by kernel_rfl
@[simp] theorem td9 : td Tryz.prog 9 = .string := by kernel_rfl
@[simp] theorem sz9 : sz Tryz.prog 9 = 1 := by kernel_rfl
@[simp] theorem byt9 : byt Tryz.prog 9 = 16 := by kernel_rfl
@[simp] theorem zr9 : zr Tryz.prog 9 = .str ByteArray.empty := by kernel_rfl
@[simp] theorem td10 : td Tryz.prog 10 = .string := by kernel_rfl
@[simp] theorem sz10 : sz Tryz.prog 10 = 1 := by kernel_rfl
@[simp] theorem byt10 : byt Tryz.prog 10 = 16 := by kernel_rfl
@[simp] theorem zr10 : zr Tryz.prog 10 = .str ByteArray.empty := by kernel_rfl
@[simp] theorem td11 : td Tryz.prog 11 = .string := by kernel_rfl
@[simp] theorem sz11 : sz Tryz.prog 11 = 1 := by kernel_rfl
@[simp] theorem byt11 : byt Tryz.prog 11 = 16 := by kernel_rfl
@[simp] theorem zr11 : zr Tryz.prog 11 = .str ByteArray.empty := by kernel_rfl
@[simp] theorem td12 : td Tryz.prog 12 = .int .u64 := by kernel_rfl
@[simp] theorem sz12 : sz Tryz.prog 12 = 1 := by kernel_rfl
@[simp] theorem byt12 : byt Tryz.prog 12 = 8 := by kernel_rfl
@[simp] theorem zr12 : zr Tryz.prog 12 = .int .u64 0 := by kernel_rfl
@[simp] theorem td13 : td Tryz.prog 13 = .struct [(0, 9), (1, 12)] := by kernel_rfl
@[simp] theorem sz13 : sz Tryz.prog 13 = 2 := by kernel_rfl
@[simp] theorem byt13 : byt Tryz.prog 13 = 24 := by kernel_rfl
@[simp] theorem zr13 : zr Tryz.prog 13 = .agg ([.str ByteArray.empty, .int .u64 0]) := by kernel_rfl
@[simp] theorem td14 : td Tryz.prog 14 = .struct [(0, 9), (1, 12)] := by kernel_rfl
@[simp] theorem sz14 : sz Tryz.prog 14 = 2 := by kernel_rfl
@[simp] theorem byt14 : byt Tryz.prog 14 = 24 := by kernel_rfl
@[simp] theorem zr14 : zr Tryz.prog 14 = .agg ([.str ByteArray.empty, .int .u64 0]) := by kernel_rfl
@[simp] theorem td15 : td Tryz.prog 15 = .ptr 218 := by kernel_rfl
@[simp] theorem sz15 : sz Tryz.prog 15 = 1 := by kernel_rfl
@[simp] theorem byt15 : byt Tryz.prog 15 = 8 := by kernel_rfl
@[simp] theorem zr15 : zr Tryz.prog 15 = .nilp := by kernel_rfl
@[simp] theorem td16 : td Tryz.prog 16 = .ptr 221 := by kernel_rfl
@[simp] theorem sz16 : sz Tryz.prog 16 = 1 := by kernel_rfl
@[simp] theorem byt16 : byt Tryz.prog 16 = 8 := by kernel_rfl
@[simp] theorem zr16 : zr Tryz.prog 16 = .nilp := by kernel_rfl
@[simp] theorem td17 : td Tryz.prog 17 = .ptr 231 := by kernel_rfl
@[simp] theorem sz17 : sz Tryz.prog 17 = 1 := by kernel_rfl
@[simp] theorem byt17 : byt Tryz.prog 17 = 8 := by kernel_rfl
@[simp] theorem zr17 : zr Tryz.prog 17 = .nilp := by kernel_rfl
@[simp] theorem td18 : td Tryz.prog 18 = .struct [(0, 17)] := by kernel_rfl
@[simp] theorem sz18 : sz Tryz.prog 18 = 1 := by kernel_rfl
@[simp] theorem byt18 : byt Tryz.prog 18 = 8 := by kernel_rfl
@[simp] theorem zr18 : zr Tryz.prog 18 = .agg ([.nilp]) := by kernel_rfl
@[simp] theorem td19 : td Tryz.prog 19 = .struct [(0, 17)] := by kernel_rfl
@[simp] theorem sz19 : sz Tryz.prog 19 = 1 := by kernel_rfl
@[simp] theorem byt19 : byt Tryz.prog 19 = 8 := by kernel_rfl
@[simp] theorem zr19 : zr Tryz.prog 19 = .agg ([.nilp]) := by kernel_rfl
@[simp] theorem td20 : td Tryz.prog 20 = .iface true := by kernel_rfl
@[simp] theorem sz20 : sz Tryz.prog 20 = 1 := by kernel_rfl
@[simp] theorem byt20 : byt Tryz.prog 20 = 16 := by kernel_rfl
@[simp] theorem zr20 : zr Tryz.prog 20 = .niface := by kernel_rfl
@[simp] theorem td21 : td Tryz.prog 21 = .int .i32 := by kernel_rfl
@[simp] theorem sz21 : sz Tryz.prog 21 = 1 := by kernel_rfl
@[simp] theorem byt21 : byt Tryz.prog 21 = 4 := by kernel_rfl
@[simp] theorem zr21 : zr Tryz.prog 21 = .int .i32 0 := by kernel_rfl
@[simp] theorem td22 : td Tryz.prog 22 = .int .u64 := by kernel_rfl
@[simp] theorem sz22 : sz Tryz.prog 22 = 1 := by kernel_rfl
@[simp] theorem byt22 : byt Tryz.prog 22 = 8 := by kernel_rfl
@[simp] theorem zr22 : zr Tryz.prog 22 = .int .u64 0 := by kernel_rfl
@[simp] theorem td23 : td Tryz.prog 23 = .slice 138 := by kernel_rfl
@[simp] theorem sz23 : sz Tryz.prog 23 = 1 := by kernel_rfl
@[simp] theorem byt23 : byt Tryz.prog 23 = 24 := by kernel_rfl
@[simp] theorem zr23 : zr Tryz.prog 23 = .sl true 0 [] := by kernel_rfl
@[simp] theorem td24 : td Tryz.prog 24 = .slice 130 := by kernel_rfl
@[simp] theorem sz24 : sz Tryz.prog 24 = 1 := by kernel_rfl
@[simp] theorem byt24 : byt Tryz.prog 24 = 24 := by kernel_rfl
@[simp] theorem zr24 : zr Tryz.prog 24 = .sl true 0 [] := by kernel_rfl
@[simp] theorem td25 : td Tryz.prog 25 = .struct [(0, 22), (1, 22), (2, 3), (3, 3), (4, 3), (5, 3), (6, 3), (7, 3), (8, 3), (9, 3), (10, 3), (11, 23), (12, 24)] := by kernel_rfl
@[simp] theorem sz25 : sz Tryz.prog 25 = 13 := by kernel_rfl
@[simp] theorem byt25 : byt Tryz.prog 25 = 136 := by kernel_rfl
@[simp] theorem zr25 : zr Tryz.prog 25 = .agg ([.int .u64 0, .int .u64 0, .int .i64 0, .int .i64 0, .int .i64 0, .int .i64 0, .int .i64 0, .int .i64 0, .int .i64 0, .int .i64 0, .int .i64 0, .sl true 0 [], .sl true 0 []]) := by kernel_rfl
@[simp] theorem td26 : td Tryz.prog 26 = .struct [(0, 22), (1, 22), (2, 3), (3, 3), (4, 3), (5, 3), (6, 3), (7, 3), (8, 3), (9, 3), (10, 3), (11, 23), (12, 24)] := by kernel_rfl
@[simp] theorem sz26 : sz Tryz.prog 26 = 13 := by kernel_rfl
@[simp] theorem byt26 : byt Tryz.prog 26 = 136 := by kernel_rfl
@[simp] theorem zr26 : zr Tryz.prog 26 = .agg ([.int .u64 0, .int .u64 0, .int .i64 0, .int .i64 0, .int .i64 0, .int .i64 0, .int .i64 0, .int .i64 0, .int .i64 0, .int .i64 0, .int .i64 0, .sl true 0 [], .sl true 0 []]) := by kernel_rfl
@[simp] theorem td27 : td Tryz.prog 27 = .slice 83 := by kernel_rfl
@[simp] theorem sz27 : sz Tryz.prog 27 = 1 := by kernel_rfl
@[simp] theorem byt27 : byt Tryz.prog 27 = 24 := by kernel_rfl
@[simp] theorem zr27 : zr Tryz.prog 27 = .sl true 0 [] := by kernel_rfl
@[simp] theorem td28 : td Tryz.prog 28 = .struct [(0, 3), (1, 3), (2, 3), (3, 27)] := by kernel_rfl
@[simp] theorem sz28 : sz Tryz.prog 28 = 4 := by kernel_rfl
@[simp] theorem byt28 : byt Tryz.prog 28 = 48 := by kernel_rfl
@[simp] theorem zr28 : zr Tryz.prog 28 = .agg ([.int .i64 0, .int .i64 0, .int .i64 0, .sl true 0 []]) := by kernel_rfl
@[simp] theorem td29 : td Tryz.prog 29 = .struct [(0, 3), (1, 3), (2, 3), (3, 27)] := by kernel_rfl
@[simp] theorem sz29 : sz Tryz.prog 29 = 4 := by kernel_rfl
@[simp] theorem byt29 : byt Tryz.prog 29 = 48 := by kernel_rfl
@[simp] theorem zr29 : zr Tryz.prog 29 = .agg ([.int .i64 0, .int .i64 0, .int .i64 0, .sl true 0 []]) := by kernel_rfl
@[simp] theorem td30 : td Tryz.prog 30 = .struct [(0, 4), (1, 3), (2, 3)] := by kernel_rfl
@[simp] theorem sz30 : sz Tryz.prog 30 = 3 := by kernel_rfl
@[simp] theorem byt30 : byt Tryz.prog 30 = 24 := by kernel_rfl
@[simp] theorem zr30 : zr Tryz.prog 30 = .agg ([.bool false, .int .i64 0, .int .i64 0]) := by kernel_rfl
@[simp] theorem fl30 : flatT Tryz.prog 30 = some ([true, false, false]) := by kernel_rfl
@[simp] theorem td31 : td Tryz.prog 31 = .struct [(0, 4), (1, 3), (2, 3)] := by kernel_rfl
@[simp] theorem sz31 : sz Tryz.prog 31 = 3 := by kernel_rfl
@[simp] theorem byt31 : byt Tryz.prog 31 = 24 := by kernel_rfl
@[simp] theorem zr31 : zr Tryz.prog 31 = .agg ([.bool false, .int .i64 0, .int .i64 0]) := by kernel_rfl
@[simp] theorem fl31 : flatT Tryz.prog 31 = some ([true, false, false]) := by kernel_rfl
@[simp] theorem td32 : td Tryz.prog 32 = .slice 5 := by kernel_rfl
@[simp] theorem sz32 : sz Tryz.prog 32 = 1 := by kernel_rfl
@[simp] theorem byt32 : byt Tryz.prog 32 = 24 := by kernel_rfl
@[simp] theorem zr32 : zr Tryz.prog 32 = .sl true 0 [] := by kernel_rfl
@[simp] theorem td33 : td Tryz.prog 33 = .struct [(0, 3), (1, 3), (2, 26), (15, 29), (19, 31), (22, 32)] := by kernel_rfl
@[simp] theorem sz33 : sz Tryz.prog 33 = 23 := by kernel_rfl
@[simp] theorem byt33 : byt Tryz.prog 33 = 248 := by kernel_rfl
@[simp] theorem zr33 : zr Tryz.prog 33 = .agg ([.int .i64 0, .int .i64 0, .int .u64 0, .int .u64 0, .int .i64 0, .int .i64 0, .int .i64 0, .int .i64 0, .int .i64 0, .int .i64 0, .int .i64 0, .int .i64 0, .int .i64 0, .sl true 0 [], .sl true 0 [], .int .i64 0, .int .i64 0, .int .i64 0, .sl true 0 [], .bool false, .int .i64 0, .int .i64 0, .sl true 0 []]) := by kernel_rfl
@[simp] theorem td34 : td Tryz.prog 34 = .struct [(0, 3), (1, 3), (2, 26), (15, 29), (19, 31), (22, 32)] := by kernel_rfl
@[simp] theorem sz34 : sz Tryz.prog 34 = 23 := by kernel_rfl
@[simp] theorem byt34 : byt Tryz.prog 34 = 248 := by kernel_rfl
@[simp] theorem zr34 : zr Tryz.prog 34 = .agg ([.int .i64 0, .int .i64 0, .int .u64 0, .int .u64 0, .int .i64 0, .int .i64 0, .int .i64 0, .int .i64 0, .int .i64 0, .int .i64 0, .int .i64 0, .int .i64 0, .int .i64 0, .sl true 0 [], .sl true 0 [], .int .i64 0, .int .i64 0, .int .i64 0, .sl true 0 [], .bool false, .int .i64 0, .int .i64 0, .sl true 0 []]) := by kernel_rfl
@[simp] theorem td35 : td Tryz.prog 35 = .func := by kernel_rfl
@[simp] theorem sz35 : sz Tryz.prog 35 = 1 := by kernel_rfl
@[simp] theorem byt35 : byt Tryz.prog 35 = 8 := by kernel_rfl
@[simp] theorem zr35 : zr Tryz.prog 35 = .nilf := by kernel_rfl
@[simp] theorem td36 : td Tryz.prog 36 = .func := by kernel_rfl
@[simp] theorem sz36 : sz Tryz.prog 36 = 1 := by kernel_rfl
@[simp] theorem byt36 : byt Tryz.prog 36 = 8 := by kernel_rfl
@[simp] theorem zr36 : zr Tryz.prog 36 = .nilf := by kernel_rfl
@[simp] theorem td37 : td Tryz.prog 37 = .int .i64 := by kernel_rfl
@[simp] theorem sz37 : sz Tryz.prog 37 = 1 := by kernel_rfl
@[simp] theorem byt37 : byt Tryz.prog 37 = 8 := by kernel_rfl
@[simp] theorem zr37 : zr Tryz.prog 37 = .int .i64 0 := by kernel_rfl
@[simp] theorem td39 : td Tryz.prog 39 = .func := by kernel_rfl
@[simp] theorem sz39 : sz Tryz.prog 39 = 1 := by kernel_rfl
@[simp] theorem byt39 : byt Tryz.prog 39 = 8 := by kernel_rfl
@[simp] theorem zr39 : zr Tryz.prog 39 = .nilf := by kernel_rfl
@[simp] theorem td40 : td Tryz.prog 40 = .func := by kernel_rfl
@[simp] theorem sz40 : sz Tryz.prog 40 = 1 := by kernel_rfl
@[simp] theorem byt40 : byt Tryz.prog 40 = 8 := by kernel_rfl
@[simp] theorem zr40 : zr Tryz.prog 40 = .nilf := by kernel_rfl
@[simp] theorem td41 : td Tryz.prog 41 = .func := by kernel_rfl
@[simp] theorem sz41 : sz Tryz.prog 41 = 1 := by kernel_rfl
@[simp] theorem byt41 : byt Tryz.prog 41 = 8 := by kernel_rfl
@[simp] theorem zr41 : zr Tryz.prog 41 = .nilf := by kernel_rfl
@[simp] theorem td43 : td Tryz.prog 43 = .func := by kernel_rfl
@[simp] theorem sz43 : sz Tryz.prog 43 = 1 := by kernel_rfl
@[simp] theorem byt43 : byt Tryz.prog 43 = 8 := by kernel_rfl
@[simp] theorem zr43 : zr Tryz.prog 43 = .nilf := by kernel_rfl
@[simp] theorem td44 : td Tryz.prog 44 = .func := by kernel_rfl
@[simp] theorem sz44 : sz Tryz.prog 44 = 1 := by kernel_rfl
@[simp] theorem byt44 : byt Tryz.prog 44 = 8 := by kernel_rfl
@[simp] theorem zr44 : zr Tryz.prog 44 = .nilf := by kernel_rfl
@[simp] theorem td45 : td Tryz.prog 45 = .func := by kernel_rfl
@[simp] theorem sz45 : sz Tryz.prog 45 = 1 := by kernel_rfl
@[simp] theorem byt45 : byt Tryz.prog 45 = 8 := by kernel_rfl
@[simp] theorem zr45 : zr Tryz.prog 45 = .nilf := by kernel_rfl
@[simp] theorem td46 : td Tryz.prog 46 = .slice 32 := by kernel_rfl
@[simp] theorem sz46 : sz Tryz.prog 46 = 1 := by kernel_rfl
@[simp] theorem byt46 : byt Tryz.prog 46 = 24 := by kernel_rfl
@[simp] theorem zr46 : zr Tryz.prog 46 = .sl true 0 [] := by kernel_rfl
@[simp] theorem td47 : td Tryz.prog 47 = .func := by kernel_rfl
@[simp] theorem sz47 : sz Tryz.prog 47 = 1 := by kernel_rfl
@[simp] theorem byt47 : byt Tryz.prog 47 = 8 := by kernel_rfl
@[simp] theorem zr47 : zr Tryz.prog 47 = .nilf := by kernel_rfl
@[simp] theorem td48 : td Tryz.prog 48 = .func := by kernel_rfl
@[simp] theorem sz48 : sz Tryz.prog 48 = 1 := by kernel_rfl
@[simp] theorem byt48 : byt Tryz.prog 48 = 8 := by kernel_rfl
@[simp] theorem zr48 : zr Tryz.prog 48 = .nilf := by kernel_rfl
@[simp] theorem td49 : td Tryz.prog 49 = .func := by kernel_rfl
@[simp] theorem sz49 : sz Tryz.prog 49 = 1 := by kernel_rfl
@[simp] theorem byt49 : byt Tryz.prog 49 = 8 := by kernel_rfl
@[simp] theorem zr49 : zr Tryz.prog 49 = .nilf := by kernel_rfl
@[simp] theorem td50 : td Tryz.prog 50 = .func := by kernel_rfl
@[simp] theorem sz50 : sz Tryz.prog 50 = 1 := by kernel_rfl
@[simp] theorem byt50 : byt Tryz.prog 50 = 8 := by kernel_rfl
@[simp] theorem zr50 : zr Tryz.prog 50 = .nilf := by kernel_rfl
@[simp] theorem td51 : td Tryz.prog 51 = .iface false := by kernel_rfl
@[simp] theorem sz51 : sz Tryz.prog 51 = 1 := by kernel_rfl
@[simp] theorem byt51 : byt Tryz.prog 51 = 16 := by kernel_rfl
@[simp] theorem zr51 : zr Tryz.prog 51 = .niface := by kernel_rfl
@[simp] theorem td52 : td Tryz.prog 52 = .iface false := by kernel_rfl
@[simp] theorem sz52 : sz Tryz.prog 52 = 1 := by kernel_rfl
@[simp] theorem byt52 : byt Tryz.prog 52 = 16 := by kernel_rfl
@[simp] theorem zr52 : zr Tryz.prog 52 = .niface := by kernel_rfl
@[simp] theorem td54 : td Tryz.prog 54 = .func := by kernel_rfl
@[simp] theorem sz54 : sz Tryz.prog 54 = 1 := by kernel_rfl
@[simp] theorem byt54 : byt Tryz.prog 54 = 8 := by kernel_rfl
@[simp] theorem zr54 : zr Tryz.prog 54 = .nilf := by kernel_rfl
@[simp] theorem td55 : td Tryz.prog 55 = .func := by kernel_rfl
@[simp] theorem sz55 : sz Tryz.prog 55 = 1 := by kernel_rfl
@[simp] theorem byt55 : byt Tryz.prog 55 = 8 := by kernel_rfl
@[simp] theorem zr55 : zr Tryz.prog 55 = .nilf := by kernel_rfl
@[simp] theorem td56 : td Tryz.prog 56 = .func := by kernel_rfl
@[simp] theorem sz56 : sz Tryz.prog 56 = 1 := by kernel_rfl
@[simp] theorem byt56 : byt Tryz.prog 56 = 8 := by kernel_rfl
@[simp] theorem zr56 : zr Tryz.prog 56 = .nilf := by kernel_rfl
@[simp] theorem td57 : td Tryz.prog 57 = .func := by kernel_rfl
@[simp] theorem sz57 : sz Tryz.prog 57 = 1 := by kernel_rfl
@[simp] theorem byt57 : byt Tryz.prog 57 = 8 := by kernel_rfl
@[simp] theorem zr57 : zr Tryz.prog 57 = .nilf := by kernel_rfl
@[simp] theorem td58 : td Tryz.prog 58 = .func := by kernel_rfl
@[simp] theorem sz58 : sz Tryz.prog 58 = 1 := by kernel_rfl
@[simp] theorem byt58 : byt Tryz.prog 58 = 8 := by kernel_rfl
@[simp] theorem zr58 : zr Tryz.prog 58 = .nilf := by kernel_rfl
@[simp] theorem td59 : td Tryz.prog 59 = .func := by kernel_rfl
@[simp] theorem sz59 : sz Tryz.prog 59 = 1 := by kernel_rfl
@[simp] theorem byt59 : byt Tryz.prog 59 = 8 := by kernel_rfl
@[simp] theorem zr59 : zr Tryz.prog 59 = .nilf := by kernel_rfl
@[simp] theorem td60 : td Tryz.prog 60 = .func := by kernel_rfl
@[simp] theorem sz60 : sz Tryz.prog 60 = 1 := by kernel_rfl
@[simp] theorem byt60 : byt Tryz.prog 60 = 8 := by kernel_rfl
@[simp] theorem zr60 : zr Tryz.prog 60 = .nilf := by kernel_rfl
@[simp] theorem td61 : td Tryz.prog 61 = .func := by kernel_rfl
@[simp] theorem sz61 : sz Tryz.prog 61 = 1 := by kernel_rfl
@[simp] theorem byt61 : byt Tryz.prog 61 = 8 := by kernel_rfl
@[simp] theorem zr61 : zr Tryz.prog 61 = .nilf := by kernel_rfl
@[simp] theorem td62 : td Tryz.prog 62 = .func := by kernel_rfl
@[simp] theorem sz62 : sz Tryz.prog 62 = 1 := by kernel_rfl
@[simp] theorem byt62 : byt Tryz.prog 62 = 8 := by kernel_rfl
@[simp] theorem zr62 : zr Tryz.prog 62 = .nilf := by kernel_rfl
@[simp] theorem td63 : td Tryz.prog 63 = .func := by kernel_rfl
@[simp] theorem sz63 : sz Tryz.prog 63 = 1 := by kernel_rfl
@[simp] theorem byt63 : byt Tryz.prog 63 = 8 := by kernel_rfl
@[simp] theorem zr63 : zr Tryz.prog 63 = .nilf := by kernel_rfl
@[simp] theorem td64 : td Tryz.prog 64 = .func := by kernel_rfl
@[simp] theorem sz64 : sz Tryz.prog 64 = 1 := by kernel_rfl
@[simp] theorem byt64 : byt Tryz.prog 64 = 8 := by kernel_rfl
@[simp] theorem zr64 : zr Tryz.prog 64 = .nilf := by kernel_rfl
@[simp] theorem td66 : td Tryz.prog 66 = .func := by kernel_rfl
@[simp] theorem sz66 : sz Tryz.prog 66 = 1 := by kernel_rfl
@[simp] theorem byt66 : byt Tryz.prog 66 = 8 := by kernel_rfl
@[simp] theorem zr66 : zr Tryz.prog 66 = .nilf := by kernel_rfl
@[simp] theorem td67 : td Tryz.prog 67 = .func := by kernel_rfl
@[simp] theorem sz67 : sz Tryz.prog 67 = 1 := by kernel_rfl
@[simp] theorem byt67 : byt Tryz.prog 67 = 8 := by kernel_rfl
@[simp] theorem zr67 : zr Tryz.prog 67 = .nilf := by kernel_rfl
@[simp] theorem td69 : td Tryz.prog 69 = .func := by kernel_rfl
@[simp] theorem sz69 : sz Tryz.prog 69 = 1 := by kernel_rfl
@[simp] theorem byt69 : byt Tryz.prog 69 = 8 := by kernel_rfl
@[simp] theorem zr69 : zr Tryz.prog 69 = .nilf := by kernel_rfl
@[simp] theorem td71 : td Tryz.prog 71 = .func := by kernel_rfl
@[simp] theorem sz71 : sz Tryz.prog 71 = 1 := by kernel_rfl
@[simp] theorem byt71 : byt Tryz.prog 71 = 8 := by kernel_rfl
@[simp] theorem zr71 : zr Tryz.prog 71 = .nilf := by kernel_rfl
@[simp] theorem td72 : td Tryz.prog 72 = .func := by kernel_rfl
@[simp] theorem sz72 : sz Tryz.prog 72 = 1 := by kernel_rfl
@[simp] theorem byt72 : byt Tryz.prog 72 = 8 := by kernel_rfl
@[simp] theorem zr72 : zr Tryz.prog 72 = .nilf := by kernel_rfl
@[simp] theorem td73 : td Tryz.prog 73 = .func := by kernel_rfl
@[simp] theorem sz73 : sz Tryz.prog 73 = 1 := by kernel_rfl
@[simp] theorem byt73 : byt Tryz.prog 73 = 8 := by kernel_rfl
@[simp] theorem zr73 : zr Tryz.prog 73 = .nilf := by kernel_rfl
@[simp] theorem td74 : td Tryz.prog 74 = .func := by kernel_rfl
@[simp] theorem sz74 : sz Tryz.prog 74 = 1 := by kernel_rfl
@[simp] theorem byt74 : byt Tryz.prog 74 = 8 := by kernel_rfl
@[simp] theorem zr74 : zr Tryz.prog 74 = .nilf := by kernel_rfl
@[simp] theorem td75 : td Tryz.prog 75 = .func := by kernel_rfl
@[simp] theorem sz75 : sz Tryz.prog 75 = 1 := by kernel_rfl
@[simp] theorem byt75 : byt Tryz.prog 75 = 8 := by kernel_rfl
@[simp] theorem zr75 : zr Tryz.prog 75 = .nilf := by kernel_rfl
@[simp] theorem td76 : td Tryz.prog 76 = .func := by kernel_rfl
@[simp] theorem sz76 : sz Tryz.prog 76 = 1 := by kernel_rfl
@[simp] theorem byt76 : byt Tryz.prog 76 = 8 := by kernel_rfl
@[simp] theorem zr76 : zr Tryz.prog 76 = .nilf := by kernel_rfl
@[simp] theorem td77 : td Tryz.prog 77 = .func := by kernel_rfl
@[simp] theorem sz77 : sz Tryz.prog 77 = 1 := by kernel_rfl
@[simp] theorem byt77 : byt Tryz.prog 77 = 8 := by kernel_rfl
@[simp] theorem zr77 : zr Tryz.prog 77 = .nilf := by kernel_rfl
@[simp] theorem td78 : td Tryz.prog 78 = .func := by kernel_rfl
@[simp] theorem sz78 : sz Tryz.prog 78 = 1 := by kernel_rfl
@[simp] theorem byt78 : byt Tryz.prog 78 = 8 := by kernel_rfl
@[simp] theorem zr78 : zr Tryz.prog 78 = .nilf := by kernel_rfl
@[simp] theorem td79 : td Tryz.prog 79 = .func := by kernel_rfl
@[simp] theorem sz79 : sz Tryz.prog 79 = 1 := by kernel_rfl
@[simp] theorem byt79 : byt Tryz.prog 79 = 8 := by kernel_rfl
@[simp] theorem zr79 : zr Tryz.prog 79 = .nilf := by kernel_rfl
@[simp] theorem td80 : td Tryz.prog 80 = .func := by kernel_rfl
@[simp] theorem sz80 : sz Tryz.prog 80 = 1 := by kernel_rfl
@[simp] theorem byt80 : byt Tryz.prog 80 = 8 := by kernel_rfl
@[simp] theorem zr80 : zr Tryz.prog 80 = .nilf := by kernel_rfl
@[simp] theorem td81 : td Tryz.prog 81 = .slice 143 := by kernel_rfl
@[simp] theorem sz81 : sz Tryz.prog 81 = 1 := by kernel_rfl
@[simp] theorem byt81 : byt Tryz.prog 81 = 24 := by kernel_rfl
@[simp] theorem zr81 : zr Tryz.prog 81 = .sl true 0 [] := by kernel_rfl
@[simp] theorem td82 : td Tryz.prog 82 = .struct [(0, 3), (1, 3), (2, 3), (3, 81)] := by kernel_rfl
@[simp] theorem sz82 : sz Tryz.prog 82 = 4 := by kernel_rfl
@[simp] theorem byt82 : byt Tryz.prog 82 = 48 := by kernel_rfl
@[simp] theorem zr82 : zr Tryz.prog 82 = .agg ([.int .i64 0, .int .i64 0, .int .i64 0, .sl true 0 []]) := by kernel_rfl
@[simp] theorem td83 : td Tryz.prog 83 = .struct [(0, 3), (1, 3), (2, 3), (3, 81)] := by kernel_rfl
@[simp] theorem sz83 : sz Tryz.prog 83 = 4 := by kernel_rfl
@[simp] theorem byt83 : byt Tryz.prog 83 = 48 := by kernel_rfl
@[simp] theorem zr83 : zr Tryz.prog 83 = .agg ([.int .i64 0, .int .i64 0, .int .i64 0, .sl true 0 []]) := by kernel_rfl
@[simp] theorem td84 : td Tryz.prog 84 = .func := by kernel_rfl
@[simp] theorem sz84 : sz Tryz.prog 84 = 1 := by kernel_rfl
@[simp] theorem byt84 : byt Tryz.prog 84 = 8 := by kernel_rfl
@[simp] theorem zr84 : zr Tryz.prog 84 = .nilf := by kernel_rfl
@[simp] theorem td85 : td Tryz.prog 85 = .func := by kernel_rfl
@[simp] theorem sz85 : sz Tryz.prog 85 = 1 := by kernel_rfl
@[simp] theorem byt85 : byt Tryz.prog 85 = 8 := by kernel_rfl
@[simp] theorem zr85 : zr Tryz.prog 85 = .nilf := by kernel_rfl
@[simp] theorem td86 : td Tryz.prog 86 = .struct [(0, 32)] := by kernel_rfl
@[simp] theorem sz86 : sz Tryz.prog 86 = 1 := by kernel_rfl
@[simp] theorem byt86 : byt Tryz.prog 86 = 24 := by kernel_rfl
@[simp] theorem zr86 : zr Tryz.prog 86 = .agg ([.sl true 0 []]) := by kernel_rfl
@[simp] theorem td87 : td Tryz.prog 87 = .struct [(0, 32)] := by kernel_rfl
@[simp] theorem sz87 : sz Tryz.prog 87 = 1 := by kernel_rfl
@[simp] theorem byt87 : byt Tryz.prog 87 = 24 := by kernel_rfl
@[simp] theorem zr87 : zr Tryz.prog 87 = .agg ([.sl true 0 []]) := by kernel_rfl
@[simp] theorem td88 : td Tryz.prog 88 = .struct [(0, 87), (1, 31)] := by kernel_rfl
@[simp] theorem sz88 : sz Tryz.prog 88 = 4 := by kernel_rfl
@[simp] theorem byt88 : byt Tryz.prog 88 = 48 := by kernel_rfl
@[simp] theorem zr88 : zr Tryz.prog 88 = .agg ([.sl true 0 [], .bool false, .int .i64 0, .int .i64 0]) := by kernel_rfl
@[simp] theorem td89 : td Tryz.prog 89 = .struct [(0, 87), (1, 31)] := by kernel_rfl
@[simp] theorem sz89 : sz Tryz.prog 89 = 4 := by kernel_rfl
@[simp] theorem byt89 : byt Tryz.prog 89 = 48 := by kernel_rfl
@[simp] theorem zr89 : zr Tryz.prog 89 = .agg ([.sl true 0 [], .bool false, .int .i64 0, .int .i64 0]) := by kernel_rfl
@[simp] theorem td90 : td Tryz.prog 90 = .struct [(0, 26)] := by kernel_rfl
@[simp] theorem sz90 : sz Tryz.prog 90 = 13 := by kernel_rfl
@[simp] theorem byt90 : byt Tryz.prog 90 = 136 := by kernel_rfl
@[simp] theorem zr90 : zr Tryz.prog 90 = .agg ([.int .u64 0, .int .u64 0, .int .i64 0, .int .i64 0, .int .i64 0, .int .i64 0, .int .i64 0, .int .i64 0, .int .i64 0, .int .i64 0, .int .i64 0, .sl true 0 [], .sl true 0 []]) := by kernel_rfl
@[simp] theorem td91 : td Tryz.prog 91 = .struct [(0, 26)] := by kernel_rfl
@[simp] theorem sz91 : sz Tryz.prog 91 = 13 := by kernel_rfl
@[simp] theorem byt91 : byt Tryz.prog 91 = 136 := by kernel_rfl
@[simp] theorem zr91 : zr Tryz.prog 91 = .agg ([.int .u64 0, .int .u64 0, .int .i64 0, .int .i64 0, .int .i64 0, .int .i64 0, .int .i64 0, .int .i64 0, .int .i64 0, .int .i64 0, .int .i64 0, .sl true 0 [], .sl true 0 []]) := by kernel_rfl
@[simp] theorem td92 : td Tryz.prog 92 = .struct [(0, 29)] := by kernel_rfl
@[simp] theorem sz92 : sz Tryz.prog 92 = 4 := by kernel_rfl
@[simp] theorem byt92 : byt Tryz.prog 92 = 48 := by kernel_rfl
@[simp] theorem zr92 : zr Tryz.prog 92 = .agg ([.int .i64 0, .int .i64 0, .int .i64 0, .sl true 0 []]) := by kernel_rfl
@[simp] theorem td93 : td Tryz.prog 93 = .struct [(0, 29)] := by kernel_rfl
@[simp] theorem sz93 : sz Tryz.prog 93 = 4 := by kernel_rfl
@[simp] theorem byt93 : byt Tryz.prog 93 = 48 := by kernel_rfl
@[simp] theorem zr93 : zr Tryz.prog 93 = .agg ([.int .i64 0, .int .i64 0, .int .i64 0, .sl true 0 []]) := by kernel_rfl
@[simp] theorem td94 : td Tryz.prog 94 = .func := by kernel_rfl
@[simp] theorem sz94 : sz Tryz.prog 94 = 1 := by kernel_rfl
@[simp] theorem byt94 : byt Tryz.prog 94 = 8 := by kernel_rfl
@[simp] theorem zr94 : zr Tryz.prog 94 = .nilf := by kernel_rfl
@[simp] theorem td95 : td Tryz.prog 95 = .struct [(0, 22), (1, 22)] := by kernel_rfl
@[simp] theorem sz95 : sz Tryz.prog 95 = 2 := by kernel_rfl
@[simp] theorem byt95 : byt Tryz.prog 95 = 16 := by kernel_rfl
@[simp] theorem zr95 : zr Tryz.prog 95 = .agg ([.int .u64 0, .int .u64 0]) := by kernel_rfl
@[simp] theorem fl95 : flatT Tryz.prog 95 = some ([false, false]) := by kernel_rfl
@[simp] theorem td96 : td Tryz.prog 96 = .struct [(0, 22), (1, 22)] := by kernel_rfl
@[simp] theorem sz96 : sz Tryz.prog 96 = 2 := by kernel_rfl
@[simp] theorem byt96 : byt Tryz.prog 96 = 16 := by kernel_rfl
@[simp] theorem zr96 : zr Tryz.prog 96 = .agg ([.int .u64 0, .int .u64 0]) := by kernel_rfl
@[simp] theorem fl96 : flatT Tryz.prog 96 = some ([false, false]) := by kernel_rfl
@[simp] theorem td97 : td Tryz.prog 97 = .func := by kernel_rfl
@[simp] theorem sz97 : sz Tryz.prog 97 = 1 := by kernel_rfl
@[simp] theorem byt97 : byt Tryz.prog 97 = 8 := by kernel_rfl
@[simp] theorem zr97 : zr Tryz.prog 97 = .nilf := by kernel_rfl
@[simp] theorem td98 : td Tryz.prog 98 = .func := by kernel_rfl
@[simp] theorem sz98 : sz Tryz.prog 98 = 1 := by kernel_rfl
@[simp] theorem byt98 : byt Tryz.prog 98 = 8 := by kernel_rfl
@[simp] theorem zr98 : zr Tryz.prog 98 = .nilf := by kernel_rfl
@[simp] theorem td99 : td Tryz.prog 99 = .func := by kernel_rfl
@[simp] theorem sz99 : sz Tryz.prog 99 = 1 := by kernel_rfl
@[simp] theorem byt99 : byt Tryz.prog 99 = 8 := by kernel_rfl
@[simp] theorem zr99 : zr Tryz.prog 99 = .nilf := by kernel_rfl
@[simp] theorem td100 : td Tryz.prog 100 = .func := by kernel_rfl
@[simp] theorem sz100 : sz Tryz.prog 100 = 1 := by kernel_rfl
@[simp] theorem byt100 : byt Tryz.prog 100 = 8 := by kernel_rfl
@[simp] theorem zr100 : zr Tryz.prog 100 = .nilf := by kernel_rfl
@[simp] theorem td101 : td Tryz.prog 101 = .func := by kernel_rfl
@[simp] theorem sz101 : sz Tryz.prog 101 = 1 := by kernel_rfl
@[simp] theorem byt101 : byt Tryz.prog 101 = 8 := by kernel_rfl
@[simp] theorem zr101 : zr Tryz.prog 101 = .nilf := by kernel_rfl
@[simp] theorem td102 : td Tryz.prog 102 = .ptr 104 := by kernel_rfl
@[simp] theorem sz102 : sz Tryz.prog 102 = 1 := by kernel_rfl
@[simp] theorem byt102 : byt Tryz.prog 102 = 8 := by kernel_rfl
@[simp] theorem zr102 : zr Tryz.prog 102 = .nilp := by kernel_rfl
@[simp] theorem td103 : td Tryz.prog 103 = .struct [(0, 26)] := by kernel_rfl
@[simp] theorem sz103 : sz Tryz.prog 103 = 13 := by kernel_rfl
@[simp] theorem byt103 : byt Tryz.prog 103 = 136 := by kernel_rfl
@[simp] theorem zr103 : zr Tryz.prog 103 = .agg ([.int .u64 0, .int .u64 0, .int .i64 0, .int .i64 0, .int .i64 0, .int .i64 0, .int .i64 0, .int .i64 0, .int .i64 0, .int .i64 0, .int .i64 0, .sl true 0 [], .sl true 0 []]) := by kernel_rfl
@[simp] theorem td104 : td Tryz.prog 104 = .struct [(0, 26)] := by kernel_rfl
@[simp] theorem sz104 : sz Tryz.prog 104 = 13 := by kernel_rfl
@[simp] theorem byt104 : byt Tryz.prog 104 = 136 := by kernel_rfl
@[simp] theorem zr104 : zr Tryz.prog 104 = .agg ([.int .u64 0, .int .u64 0, .int .i64 0, .int .i64 0, .int .i64 0, .int .i64 0, .int .i64 0, .int .i64 0, .int .i64 0, .int .i64 0, .int .i64 0, .sl true 0 [], .sl true 0 []]) := by kernel_rfl
@[simp] theorem td105 : td Tryz.prog 105 = .array 9 3 := by kernel_rfl
@[simp] theorem sz105 : sz Tryz.prog 105 = 9 := by kernel_rfl
@[simp] theorem byt105 : byt Tryz.prog 105 = 72 := by kernel_rfl
@[simp] theorem zr105 : zr Tryz.prog 105 = .agg ([.int .i64 0, .int .i64 0, .int .i64 0, .int .i64 0, .int .i64 0, .int .i64 0, .int .i64 0, .int .i64 0, .int .i64 0]) := by kernel_rfl
@[simp] theorem fl105 : flatT Tryz.prog 105 = some ([false, false, false, false, false, false, false, false, false]) := by kernel_rfl
@[simp] theorem td106 : td Tryz.prog 106 = .func := by kernel_rfl
@[simp] theorem sz106 : sz Tryz.prog 106 = 1 := by kernel_rfl
@[simp] theorem byt106 : byt Tryz.prog 106 = 8 := by kernel_rfl
@[simp] theorem zr106 : zr Tryz.prog 106 = .nilf := by kernel_rfl
@[simp] theorem td107 : td Tryz.prog 107 = .func := by kernel_rfl
@[simp] theorem sz107 : sz Tryz.prog 107 = 1 := by kernel_rfl
@[simp] theorem byt107 : byt Tryz.prog 107 = 8 := by kernel_rfl
@[simp] theorem zr107 : zr Tryz.prog 107 = .nilf := by kernel_rfl
@[simp] theorem td108 : td Tryz.prog 108 = .func := by kernel_rfl
@[simp] theorem sz108 : sz Tryz.prog 108 = 1 := by kernel_rfl
@[simp] theorem byt108 : byt Tryz.prog 108 = 8 := by kernel_rfl
@[simp] theorem zr108 : zr Tryz.prog 108 = .nilf := by kernel_rfl
@[simp] theorem td109 : td Tryz.prog 109 = .array 3 3 := by kernel_rfl
@[simp] theorem sz109 : sz Tryz.prog 109 = 3 := by kernel_rfl
@[simp] theorem byt109 : byt Tryz.prog 109 = 24 := by kernel_rfl
@[simp] theorem zr109 : zr Tryz.prog 109 = .agg ([.int .i64 0, .int .i64 0, .int .i64 0]) := by kernel_rfl
@[simp] theorem fl109 : flatT Tryz.prog 109 = some ([false, false, false]) := by kernel_rfl
@[simp] theorem td110 : td Tryz.prog 110 = .func := by kernel_rfl
@[simp] theorem sz110 : sz Tryz.prog 110 = 1 := by kernel_rfl
@[simp] theorem byt110 : byt Tryz.prog 110 = 8 := by kernel_rfl
@[simp] theorem zr110 : zr Tryz.prog 110 = .nilf := by kernel_rfl
@[simp] theorem td111 : td Tryz.prog 111 = .func := by kernel_rfl
@[simp] theorem sz111 : sz Tryz.prog 111 = 1 := by kernel_rfl
@[simp] theorem byt111 : byt Tryz.prog 111 = 8 := by kernel_rfl
@[simp] theorem zr111 : zr Tryz.prog 111 = .nilf := by kernel_rfl
@[simp] theorem td112 : td Tryz.prog 112 = .int .u64 := by kernel_rfl
@[simp] theorem sz112 : sz Tryz.prog 112 = 1 := by kernel_rfl
@[simp] theorem byt112 : byt Tryz.prog 112 = 8 := by kernel_rfl
@[simp] theorem zr112 : zr Tryz.prog 112 = .int .u64 0 := by kernel_rfl
@[simp] theorem td114 : td Tryz.prog 114 = .func := by kernel_rfl
@[simp] theorem sz114 : sz Tryz.prog 114 = 1 := by kernel_rfl
@[simp] theorem byt114 : byt Tryz.prog 114 = 8 := by kernel_rfl
@[simp] theorem zr114 : zr Tryz.prog 114 = .nilf := by kernel_rfl
@[simp] theorem td115 : td Tryz.prog 115 = .func := by kernel_rfl
@[simp] theorem sz115 : sz Tryz.prog 115 = 1 := by kernel_rfl
@[simp] theorem byt115 : byt Tryz.prog 115 = 8 := by kernel_rfl
@[simp] theorem zr115 : zr Tryz.prog 115 = .nilf := by kernel_rfl
@[simp] theorem td117 : td Tryz.prog 117 = .func := by kernel_rfl
@[simp] theorem sz117 : sz Tryz.prog 117 = 1 := by kernel_rfl
@[simp] theorem byt117 : byt Tryz.prog 117 = 8 := by kernel_rfl
@[simp] theorem zr117 : zr Tryz.prog 117 = .nilf := by kernel_rfl
@[simp] theorem td119 : td Tryz.prog 119 = .func := by kernel_rfl
@[simp] theorem sz119 : sz Tryz.prog 119 = 1 := by kernel_rfl
@[simp] theorem byt119 : byt Tryz.prog 119 = 8 := by kernel_rfl
@[simp] theorem zr119 : zr Tryz.prog 119 = .nilf := by kernel_rfl
@[simp] theorem td121 : td Tryz.prog 121 = .func := by kernel_rfl
@[simp] theorem sz121 : sz Tryz.prog 121 = 1 := by kernel_rfl
@[simp] theorem byt121 : byt Tryz.prog 121 = 8 := by kernel_rfl
@[simp] theorem zr121 : zr Tryz.prog 121 = .nilf := by kernel_rfl
@[simp] theorem td122 : td Tryz.prog 122 = .func := by kernel_rfl
@[simp] theorem sz122 : sz Tryz.prog 122 = 1 := by kernel_rfl
@[simp] theorem byt122 : byt Tryz.prog 122 = 8 := by kernel_rfl
@[simp] theorem zr122 : zr Tryz.prog 122 = .nilf := by kernel_rfl
@[simp] theorem td124 : td Tryz.prog 124 = .func := by kernel_rfl
@[simp] theorem sz124 : sz Tryz.prog 124 = 1 := by kernel_rfl
@[simp] theorem byt124 : byt Tryz.prog 124 = 8 := by kernel_rfl
@[simp] theorem zr124 : zr Tryz.prog 124 = .nilf := by kernel_rfl
@[simp] theorem td125 : td Tryz.prog 125 = .func := by kernel_rfl
@[simp] theorem sz125 : sz Tryz.prog 125 = 1 := by kernel_rfl
@[simp] theorem byt125 : byt Tryz.prog 125 = 8 := by kernel_rfl
@[simp] theorem zr125 : zr Tryz.prog 125 = .nilf := by kernel_rfl
@[simp] theorem td127 : td Tryz.prog 127 = .func := by kernel_rfl
@[simp] theorem sz127 : sz Tryz.prog 127 = 1 := by kernel_rfl
@[simp] theorem byt127 : byt Tryz.prog 127 = 8 := by kernel_rfl
@[simp] theorem zr127 : zr Tryz.prog 127 = .nilf := by kernel_rfl
@[simp] theorem td128 : td Tryz.prog 128 = .func := by kernel_rfl
@[simp] theorem sz128 : sz Tryz.prog 128 = 1 := by kernel_rfl
@[simp] theorem byt128 : byt Tryz.prog 128 = 8 := by kernel_rfl
@[simp] theorem zr128 : zr Tryz.prog 128 = .nilf := by kernel_rfl
@[simp] theorem td129 : td Tryz.prog 129 = .struct [(0, 3), (1, 3), (2, 96), (4, 96), (6, 81)] := by kernel_rfl
@[simp] theorem sz129 : sz Tryz.prog 129 = 7 := by kernel_rfl
@[simp] theorem byt129 : byt Tryz.prog 129 = 72 := by kernel_rfl
@[simp] theorem zr129 : zr Tryz.prog 129 = .agg ([.int .i64 0, .int .i64 0, .int .u64 0, .int .u64 0, .int .u64 0, .int .u64 0, .sl true 0 []]) := by kernel_rfl
@[simp] theorem td130 : td Tryz.prog 130 = .struct [(0, 3), (1, 3), (2, 96), (4, 96), (6, 81)] := by kernel_rfl
@[simp] theorem sz130 : sz Tryz.prog 130 = 7 := by kernel_rfl
@[simp] theorem byt130 : byt Tryz.prog 130 = 72 := by kernel_rfl
@[simp] theorem zr130 : zr Tryz.prog 130 = .agg ([.int .i64 0, .int .i64 0, .int .u64 0, .int .u64 0, .int .u64 0, .int .u64 0, .sl true 0 []]) := by kernel_rfl
@[simp] theorem td131 : td Tryz.prog 131 = .func := by kernel_rfl
@[simp] theorem sz131 : sz Tryz.prog 131 = 1 := by kernel_rfl
@[simp] theorem byt131 : byt Tryz.prog 131 = 8 := by kernel_rfl
@[simp] theorem zr131 : zr Tryz.prog 131 = .nilf := by kernel_rfl
@[simp] theorem td132 : td Tryz.prog 132 = .func := by kernel_rfl
@[simp] theorem sz132 : sz Tryz.prog 132 = 1 := by kernel_rfl
@[simp] theorem byt132 : byt Tryz.prog 132 = 8 := by kernel_rfl
@[simp] theorem zr132 : zr Tryz.prog 132 = .nilf := by kernel_rfl
@[simp] theorem td133 : td Tryz.prog 133 = .array 4 5 := by kernel_rfl
@[simp] theorem sz133 : sz Tryz.prog 133 = 4 := by kernel_rfl
@[simp] theorem byt133 : byt Tryz.prog 133 = 4 := by kernel_rfl
@[simp] theorem zr133 : zr Tryz.prog 133 = .agg ([.int .u8 0, .int .u8 0, .int .u8 0, .int .u8 0]) := by kernel_rfl
@[simp] theorem fl133 : flatT Tryz.prog 133 = some ([false, false, false, false]) := by kernel_rfl
@[simp] theorem td134 : td Tryz.prog 134 = .func := by kernel_rfl
@[simp] theorem sz134 : sz Tryz.prog 134 = 1 := by kernel_rfl
@[simp] theorem byt134 : byt Tryz.prog 134 = 8 := by kernel_rfl
@[simp] theorem zr134 : zr Tryz.prog 134 = .nilf := by kernel_rfl
@[simp] theorem td135 : td Tryz.prog 135 = .func := by kernel_rfl
@[simp] theorem sz135 : sz Tryz.prog 135 = 1 := by kernel_rfl
@[simp] theorem byt135 : byt Tryz.prog 135 = 8 := by kernel_rfl
@[simp] theorem zr135 : zr Tryz.prog 135 = .nilf := by kernel_rfl
@[simp] theorem td136 : td Tryz.prog 136 = .func := by kernel_rfl
@[simp] theorem sz136 : sz Tryz.prog 136 = 1 := by kernel_rfl
@[simp] theorem byt136 : byt Tryz.prog 136 = 8 := by kernel_rfl
@[simp] theorem zr136 : zr Tryz.prog 136 = .nilf := by kernel_rfl
@[simp] theorem td137 : td Tryz.prog 137 = .struct [(0, 3), (1, 4), (2, 96), (4, 96)] := by kernel_rfl
@[simp] theorem sz137 : sz Tryz.prog 137 = 6 := by kernel_rfl
@[simp] theorem byt137 : byt Tryz.prog 137 = 48 := by kernel_rfl
@[simp] theorem zr137 : zr Tryz.prog 137 = .agg ([.int .i64 0, .bool false, .int .u64 0, .int .u64 0, .int .u64 0, .int .u64 0]) := by kernel_rfl
@[simp] theorem fl137 : flatT Tryz.prog 137 = some ([false, true, false, false, false, false]) := by kernel_rfl
@[simp] theorem td138 : td Tryz.prog 138 = .struct [(0, 3), (1, 4), (2, 96), (4, 96)] := by kernel_rfl
@[simp] theorem sz138 : sz Tryz.prog 138 = 6 := by kernel_rfl
@[simp] theorem byt138 : byt Tryz.prog 138 = 48 := by kernel_rfl
@[simp] theorem zr138 : zr Tryz.prog 138 = .agg ([.int .i64 0, .bool false, .int .u64 0, .int .u64 0, .int .u64 0, .int .u64 0]) := by kernel_rfl
@[simp] theorem fl138 : flatT Tryz.prog 138 = some ([false, true, false, false, false, false]) := by kernel_rfl
@[simp] theorem td140 : td Tryz.prog 140 = .func := by kernel_rfl
@[simp] theorem sz140 : sz Tryz.prog 140 = 1 := by kernel_rfl
@[simp] theorem byt140 : byt Tryz.prog 140 = 8 := by kernel_rfl
@[simp] theorem zr140 : zr Tryz.prog 140 = .nilf := by kernel_rfl
@[simp] theorem td141 : td Tryz.prog 141 = .func := by kernel_rfl
@[simp] theorem sz141 : sz Tryz.prog 141 = 1 := by kernel_rfl
@[simp] theorem byt141 : byt Tryz.prog 141 = 8 := by kernel_rfl
@[simp] theorem zr141 : zr Tryz.prog 141 = .nilf := by kernel_rfl
@[simp] theorem td142 : td Tryz.prog 142 = .struct [(0, 3), (1, 3), (2, 3), (3, 3), (4, 3), (5, 138)] := by kernel_rfl
@[simp] theorem sz142 : sz Tryz.prog 142 = 11 := by kernel_rfl
@[simp] theorem byt142 : byt Tryz.prog 142 = 88 := by kernel_rfl
@[simp] theorem zr142 : zr Tryz.prog 142 = .agg ([.int .i64 0, .int .i64 0, .int .i64 0, .int .i64 0, .int .i64 0, .int .i64 0, .bool false, .int .u64 0, .int .u64 0, .int .u64 0, .int .u64 0]) := by kernel_rfl
@[simp] theorem fl142 : flatT Tryz.prog 142 = some ([false, false, false, false, false, false, true, false, false, false, false]) := by kernel_rfl
@[simp] theorem td143 : td Tryz.prog 143 = .struct [(0, 3), (1, 3), (2, 3), (3, 3), (4, 3), (5, 138)] := by kernel_rfl
@[simp] theorem sz143 : sz Tryz.prog 143 = 11 := by kernel_rfl
@[simp] theorem byt143 : byt Tryz.prog 143 = 88 := by kernel_rfl
@[simp] theorem zr143 : zr Tryz.prog 143 = .agg ([.int .i64 0, .int .i64 0, .int .i64 0, .int .i64 0, .int .i64 0, .int .i64 0, .bool false, .int .u64 0, .int .u64 0, .int .u64 0, .int .u64 0]) := by kernel_rfl
@[simp] theorem fl143 : flatT Tryz.prog 143 = some ([false, false, false, false, false, false, true, false, false, false, false]) := by kernel_rfl
@[simp] theorem td144 : td Tryz.prog 144 = .func := by kernel_rfl
@[simp] theorem sz144 : sz Tryz.prog 144 = 1 := by kernel_rfl
@[simp] theorem byt144 : byt Tryz.prog 144 = 8 := by kernel_rfl
@[simp] theorem zr144 : zr Tryz.prog 144 = .nilf := by kernel_rfl
@[simp] theorem td145 : td Tryz.prog 145 = .func := by kernel_rfl
@[simp] theorem sz145 : sz Tryz.prog 145 = 1 := by kernel_rfl
@[simp] theorem byt145 : byt Tryz.prog 145 = 8 := by kernel_rfl
@[simp] theorem zr145 : zr Tryz.prog 145 = .nilf := by kernel_rfl
@[simp] theorem td146 : td Tryz.prog 146 = .func := by kernel_rfl
@[simp] theorem sz146 : sz Tryz.prog 146 = 1 := by kernel_rfl
@[simp] theorem byt146 : byt Tryz.prog 146 = 8 := by kernel_rfl
@[simp] theorem zr146 : zr Tryz.prog 146 = .nilf := by kernel_rfl
@[simp] theorem td147 : td Tryz.prog 147 = .func := by kernel_rfl
@[simp] theorem sz147 : sz Tryz.prog 147 = 1 := by kernel_rfl
@[simp] theorem byt147 : byt Tryz.prog 147 = 8 := by kernel_rfl
@[simp] theorem zr147 : zr Tryz.prog 147 = .nilf := by kernel_rfl
@[simp] theorem td148 : td Tryz.prog 148 = .func := by kernel_rfl
@[simp] theorem sz148 : sz Tryz.prog 148 = 1 := by kernel_rfl
@[simp] theorem byt148 : byt Tryz.prog 148 = 8 := by kernel_rfl
@[simp] theorem zr148 : zr Tryz.prog 148 = .nilf := by kernel_rfl
@[simp] theorem td149 : td Tryz.prog 149 = .func := by kernel_rfl
@[simp] theorem sz149 : sz Tryz.prog 149 = 1 := by kernel_rfl
@[simp] theorem byt149 : byt Tryz.prog 149 = 8 := by kernel_rfl
@[simp] theorem zr149 : zr Tryz.prog 149 = .nilf := by kernel_rfl
@[simp] theorem td150 : td Tryz.prog 150 = .func := by kernel_rfl
@[simp] theorem sz150 : sz Tryz.prog 150 = 1 := by kernel_rfl
@[simp] theorem byt150 : byt Tryz.prog 150 = 8 := by kernel_rfl
@[simp] theorem zr150 : zr Tryz.prog 150 = .nilf := by kernel_rfl
@[simp] theorem td151 : td Tryz.prog 151 = .func := by kernel_rfl
@[simp] theorem sz151 : sz Tryz.prog 151 = 1 := by kernel_rfl
@[simp] theorem byt151 : byt Tryz.prog 151 = 8 := by kernel_rfl
@[simp] theorem zr151 : zr Tryz.prog 151 = .nilf := by kernel_rfl
@[simp] theorem td152 : td Tryz.prog 152 = .func := by kernel_rfl
@[simp] theorem sz152 : sz Tryz.prog 152 = 1 := by kernel_rfl
@[simp] theorem byt152 : byt Tryz.prog 152 = 8 := by kernel_rfl
@[simp] theorem zr152 : zr Tryz.prog 152 = .nilf := by kernel_rfl
@[simp] theorem td153 : td Tryz.prog 153 = .func := by kernel_rfl
@[simp] theorem sz153 : sz Tryz.prog 153 = 1 := by kernel_rfl
@[simp] theorem byt153 : byt Tryz.prog 153 = 8 := by kernel_rfl
@[simp] theorem zr153 : zr Tryz.prog 153 = .nilf := by kernel_rfl
@[simp] theorem td155 : td Tryz.prog 155 = .func := by kernel_rfl
@[simp] theorem sz155 : sz Tryz.prog 155 = 1 := by kernel_rfl
@[simp] theorem byt155 : byt Tryz.prog 155 = 8 := by kernel_rfl
@[simp] theorem zr155 : zr Tryz.prog 155 = .nilf := by kernel_rfl
@[simp] theorem td156 : td Tryz.prog 156 = .func := by kernel_rfl
@[simp] theorem sz156 : sz Tryz.prog 156 = 1 := by kernel_rfl
@[simp] theorem byt156 : byt Tryz.prog 156 = 8 := by kernel_rfl
@[simp] theorem zr156 : zr Tryz.prog 156 = .nilf := by kernel_rfl
@[simp] theorem td158 : td Tryz.prog 158 = .func := by kernel_rfl
@[simp] theorem sz158 : sz Tryz.prog 158 = 1 := by kernel_rfl
@[simp] theorem byt158 : byt Tryz.prog 158 = 8 := by kernel_rfl
@[simp] theorem zr158 : zr Tryz.prog 158 = .nilf := by kernel_rfl
@[simp] theorem td160 : td Tryz.prog 160 = .func := by kernel_rfl
@[simp] theorem sz160 : sz Tryz.prog 160 = 1 := by kernel_rfl
@[simp] theorem byt160 : byt Tryz.prog 160 = 8 := by kernel_rfl
@[simp] theorem zr160 : zr Tryz.prog 160 = .nilf := by kernel_rfl
@[simp] theorem td161 : td Tryz.prog 161 = .func := by kernel_rfl
@[simp] theorem sz161 : sz Tryz.prog 161 = 1 := by kernel_rfl
@[simp] theorem byt161 : byt Tryz.prog 161 = 8 := by kernel_rfl
@[simp] theorem zr161 : zr Tryz.prog 161 = .nilf := by kernel_rfl
@[simp] theorem td162 : td Tryz.prog 162 = .func := by kernel_rfl
@[simp] theorem sz162 : sz Tryz.prog 162 = 1 := by kernel_rfl
@[simp] theorem byt162 : byt Tryz.prog 162 = 8 := by kernel_rfl
@[simp] theorem zr162 : zr Tryz.prog 162 = .nilf := by kernel_rfl
@[simp] theorem td163 : td Tryz.prog 163 = .func := by kernel_rfl
@[simp] theorem sz163 : sz Tryz.prog 163 = 1 := by kernel_rfl
@[simp] theorem byt163 : byt Tryz.prog 163 = 8 := by kernel_rfl
@[simp] theorem zr163 : zr Tryz.prog 163 = .nilf := by kernel_rfl
@[simp] theorem td164 : td Tryz.prog 164 = .func := by kernel_rfl
@[simp] theorem sz164 : sz Tryz.prog 164 = 1 := by kernel_rfl
@[simp] theorem byt164 : byt Tryz.prog 164 = 8 := by kernel_rfl
@[simp] theorem zr164 : zr Tryz.prog 164 = .nilf := by kernel_rfl
@[simp] theorem td165 : td Tryz.prog 165 = .slice 169 := by kernel_rfl
@[simp] theorem sz165 : sz Tryz.prog 165 = 1 := by kernel_rfl
@[simp] theorem byt165 : byt Tryz.prog 165 = 24 := by kernel_rfl
@[simp] theorem zr165 : zr Tryz.prog 165 = .sl true 0 [] := by kernel_rfl
@[simp] theorem td166 : td Tryz.prog 166 = .func := by kernel_rfl
@[simp] theorem sz166 : sz Tryz.prog 166 = 1 := by kernel_rfl
@[simp] theorem byt166 : byt Tryz.prog 166 = 8 := by kernel_rfl
@[simp] theorem zr166 : zr Tryz.prog 166 = .nilf := by kernel_rfl
@[simp] theorem td167 : td Tryz.prog 167 = .slice 96 := by kernel_rfl
@[simp] theorem sz167 : sz Tryz.prog 167 = 1 := by kernel_rfl
@[simp] theorem byt167 : byt Tryz.prog 167 = 24 := by kernel_rfl
@[simp] theorem zr167 : zr Tryz.prog 167 = .sl true 0 [] := by kernel_rfl
@[simp] theorem td168 : td Tryz.prog 168 = .struct [(0, 3), (1, 167)] := by kernel_rfl
@[simp] theorem sz168 : sz Tryz.prog 168 = 2 := by kernel_rfl
@[simp] theorem byt168 : byt Tryz.prog 168 = 32 := by kernel_rfl
@[simp] theorem zr168 : zr Tryz.prog 168 = .agg ([.int .i64 0, .sl true 0 []]) := by kernel_rfl
@[simp] theorem td169 : td Tryz.prog 169 = .struct [(0, 3), (1, 167)] := by kernel_rfl
@[simp] theorem sz169 : sz Tryz.prog 169 = 2 := by kernel_rfl
@[simp] theorem byt169 : byt Tryz.prog 169 = 32 := by kernel_rfl
@[simp] theorem zr169 : zr Tryz.prog 169 = .agg ([.int .i64 0, .sl true 0 []]) := by kernel_rfl
@[simp] theorem td170 : td Tryz.prog 170 = .func := by kernel_rfl
@[simp] theorem sz170 : sz Tryz.prog 170 = 1 := by kernel_rfl
@[simp] theorem byt170 : byt Tryz.prog 170 = 8 := by kernel_rfl
@[simp] theorem zr170 : zr Tryz.prog 170 = .nilf := by kernel_rfl
@[simp] theorem td171 : td Tryz.prog 171 = .func := by kernel_rfl
@[simp] theorem sz171 : sz Tryz.prog 171 = 1 := by kernel_rfl
@[simp] theorem byt171 : byt Tryz.prog 171 = 8 := by kernel_rfl
@[simp] theorem zr171 : zr Tryz.prog 171 = .nilf := by kernel_rfl
@[simp] theorem td173 : td Tryz.prog 173 = .func := by kernel_rfl
@[simp] theorem sz173 : sz Tryz.prog 173 = 1 := by kernel_rfl
@[simp] theorem byt173 : byt Tryz.prog 173 = 8 := by kernel_rfl
@[simp] theorem zr173 : zr Tryz.prog 173 = .nilf := by kernel_rfl
@[simp] theorem td174 : td Tryz.prog 174 = .func := by kernel_rfl
@[simp] theorem sz174 : sz Tryz.prog 174 = 1 := by kernel_rfl
@[simp] theorem byt174 : byt Tryz.prog 174 = 8 := by kernel_rfl
@[simp] theorem zr174 : zr Tryz.prog 174 = .nilf := by kernel_rfl
@[simp] theorem td175 : td Tryz.prog 175 = .func := by kernel_rfl
@[simp] theorem sz175 : sz Tryz.prog 175 = 1 := by kernel_rfl
@[simp] theorem byt175 : byt Tryz.prog 175 = 8 := by kernel_rfl
@[simp] theorem zr175 : zr Tryz.prog 175 = .nilf := by kernel_rfl
@[simp] theorem td178 : td Tryz.prog 178 = .func := by kernel_rfl
@[simp] theorem sz178 : sz Tryz.prog 178 = 1 := by kernel_rfl
@[simp] theorem byt178 : byt Tryz.prog 178 = 8 := by kernel_rfl
@[simp] theorem zr178 : zr Tryz.prog 178 = .nilf := by kernel_rfl
@[simp] theorem td180 : td Tryz.prog 180 = .func := by kernel_rfl
@[simp] theorem sz180 : sz Tryz.prog 180 = 1 := by kernel_rfl
@[simp] theorem byt180 : byt Tryz.prog 180 = 8 := by kernel_rfl
@[simp] theorem zr180 : zr Tryz.prog 180 = .nilf := by kernel_rfl
@[simp] theorem td181 : td Tryz.prog 181 = .func := by kernel_rfl
@[simp] theorem sz181 : sz Tryz.prog 181 = 1 := by kernel_rfl
@[simp] theorem byt181 : byt Tryz.prog 181 = 8 := by kernel_rfl
@[simp] theorem zr181 : zr Tryz.prog 181 = .nilf := by kernel_rfl
@[simp] theorem td182 : td Tryz.prog 182 = .func := by kernel_rfl
@[simp] theorem sz182 : sz Tryz.prog 182 = 1 := by kernel_rfl
@[simp] theorem byt182 : byt Tryz.prog 182 = 8 := by kernel_rfl
@[simp] theorem zr182 : zr Tryz.prog 182 = .nilf := by kernel_rfl
@[simp] theorem td183 : td Tryz.prog 183 = .func := by kernel_rfl
@[simp] theorem sz183 : sz Tryz.prog 183 = 1 := by kernel_rfl
@[simp] theorem byt183 : byt Tryz.prog 183 = 8 := by kernel_rfl
@[simp] theorem zr183 : zr Tryz.prog 183 = .nilf := by kernel_rfl
@[simp] theorem td184 : td Tryz.prog 184 = .func := by kernel_rfl
@[simp] theorem sz184 : sz Tryz.prog 184 = 1 := by kernel_rfl
@[simp] theorem byt184 : byt Tryz.prog 184 = 8 := by kernel_rfl
@[simp] theorem zr184 : zr Tryz.prog 184 = .nilf := by kernel_rfl
@[simp] theorem td186 : td Tryz.prog 186 = .func := by kernel_rfl
@[simp] theorem sz186 : sz Tryz.prog 186 = 1 := by kernel_rfl
@[simp] theorem byt186 : byt Tryz.prog 186 = 8 := by kernel_rfl
@[simp] theorem zr186 : zr Tryz.prog 186 = .nilf := by kernel_rfl
@[simp] theorem td188 : td Tryz.prog 188 = .func := by kernel_rfl
@[simp] theorem sz188 : sz Tryz.prog 188 = 1 := by kernel_rfl
@[simp] theorem byt188 : byt Tryz.prog 188 = 8 := by kernel_rfl
@[simp] theorem zr188 : zr Tryz.prog 188 = .nilf := by kernel_rfl
@[simp] theorem td189 : td Tryz.prog 189 = .func := by kernel_rfl
@[simp] theorem sz189 : sz Tryz.prog 189 = 1 := by kernel_rfl
@[simp] theorem byt189 : byt Tryz.prog 189 = 8 := by kernel_rfl
@[simp] theorem zr189 : zr Tryz.prog 189 = .nilf := by kernel_rfl
@[simp] theorem td190 : td Tryz.prog 190 = .func := by kernel_rfl
@[simp] theorem sz190 : sz Tryz.prog 190 = 1 := by kernel_rfl
@[simp] theorem byt190 : byt Tryz.prog 190 = 8 := by kernel_rfl
@[simp] theorem zr190 : zr Tryz.prog 190 = .nilf := by kernel_rfl
@[simp] theorem td191 : td Tryz.prog 191 = .func := by kernel_rfl
@[simp] theorem sz191 : sz Tryz.prog 191 = 1 := by kernel_rfl
@[simp] theorem byt191 : byt Tryz.prog 191 = 8 := by kernel_rfl
@[simp] theorem zr191 : zr Tryz.prog 191 = .nilf := by kernel_rfl
@[simp] theorem td192 : td Tryz.prog 192 = .func := by kernel_rfl
@[simp] theorem sz192 : sz Tryz.prog 192 = 1 := by kernel_rfl
@[simp] theorem byt192 : byt Tryz.prog 192 = 8 := by kernel_rfl
@[simp] theorem zr192 : zr Tryz.prog 192 = .nilf := by kernel_rfl
@[simp] theorem td193 : td Tryz.prog 193 = .int .i64 := by kernel_rfl
@[simp] theorem sz193 : sz Tryz.prog 193 = 1 := by kernel_rfl
@[simp] theorem byt193 : byt Tryz.prog 193 = 8 := by kernel_rfl
@[simp] theorem zr193 : zr Tryz.prog 193 = .int .i64 0 := by kernel_rfl
@[simp] theorem td195 : td Tryz.prog 195 = .func := by kernel_rfl
@[simp] theorem sz195 : sz Tryz.prog 195 = 1 := by kernel_rfl
@[simp] theorem byt195 : byt Tryz.prog 195 = 8 := by kernel_rfl
@[simp] theorem zr195 : zr Tryz.prog 195 = .nilf := by kernel_rfl
@[simp] theorem td196 : td Tryz.prog 196 = .func := by kernel_rfl
@[simp] theorem sz196 : sz Tryz.prog 196 = 1 := by kernel_rfl
@[simp] theorem byt196 : byt Tryz.prog 196 = 8 := by kernel_rfl
@[simp] theorem zr196 : zr Tryz.prog 196 = .nilf := by kernel_rfl
@[simp] theorem td197 : td Tryz.prog 197 = .func := by kernel_rfl
@[simp] theorem sz197 : sz Tryz.prog 197 = 1 := by kernel_rfl
@[simp] theorem byt197 : byt Tryz.prog 197 = 8 := by kernel_rfl
@[simp] theorem zr197 : zr Tryz.prog 197 = .nilf := by kernel_rfl
@[simp] theorem td198 : td Tryz.prog 198 = .func := by kernel_rfl
@[simp] theorem sz198 : sz Tryz.prog 198 = 1 := by kernel_rfl
@[simp] theorem byt198 : byt Tryz.prog 198 = 8 := by kernel_rfl
@[simp] theorem zr198 : zr Tryz.prog 198 = .nilf := by kernel_rfl
@[simp] theorem td199 : td Tryz.prog 199 = .slice 22 := by kernel_rfl
@[simp] theorem sz199 : sz Tryz.prog 199 = 1 := by kernel_rfl
@[simp] theorem byt199 : byt Tryz.prog 199 = 24 := by kernel_rfl
@[simp] theorem zr199 : zr Tryz.prog 199 = .sl true 0 [] := by kernel_rfl
@[simp] theorem td200 : td Tryz.prog 200 = .struct [(0, 9), (1, 3), (2, 3), (3, 4)] := by kernel_rfl
@[simp] theorem sz200 : sz Tryz.prog 200 = 4 := by kernel_rfl
@[simp] theorem byt200 : byt Tryz.prog 200 = 40 := by kernel_rfl
@[simp] theorem zr200 : zr Tryz.prog 200 = .agg ([.str ByteArray.empty, .int .i64 0, .int .i64 0, .bool false]) := by kernel_rfl
@[simp] theorem td201 : td Tryz.prog 201 = .struct [(0, 9), (1, 3), (2, 3), (3, 4)] := by kernel_rfl
@[simp] theorem sz201 : sz Tryz.prog 201 = 4 := by kernel_rfl
@[simp] theorem byt201 : byt Tryz.prog 201 = 40 := by kernel_rfl
@[simp] theorem zr201 : zr Tryz.prog 201 = .agg ([.str ByteArray.empty, .int .i64 0, .int .i64 0, .bool false]) := by kernel_rfl
@[simp] theorem td202 : td Tryz.prog 202 = .func := by kernel_rfl
@[simp] theorem sz202 : sz Tryz.prog 202 = 1 := by kernel_rfl
@[simp] theorem byt202 : byt Tryz.prog 202 = 8 := by kernel_rfl
@[simp] theorem zr202 : zr Tryz.prog 202 = .nilf := by kernel_rfl
@[simp] theorem td203 : td Tryz.prog 203 = .func := by kernel_rfl
@[simp] theorem sz203 : sz Tryz.prog 203 = 1 := by kernel_rfl
@[simp] theorem byt203 : byt Tryz.prog 203 = 8 := by kernel_rfl
@[simp] theorem zr203 : zr Tryz.prog 203 = .nilf := by kernel_rfl
@[simp] theorem td204 : td Tryz.prog 204 = .func := by kernel_rfl
@[simp] theorem sz204 : sz Tryz.prog 204 = 1 := by kernel_rfl
@[simp] theorem byt204 : byt Tryz.prog 204 = 8 := by kernel_rfl
@[simp] theorem zr204 : zr Tryz.prog 204 = .nilf := by kernel_rfl
@[simp] theorem td205 : td Tryz.prog 205 = .array 24 201 := by kernel_rfl
@[simp] theorem sz205 : sz Tryz.prog 205 = 96 := by kernel_rfl
@[simp] theorem byt205 : byt Tryz.prog 205 = 960 := by kernel_rfl
@[simp] theorem zr205 : zr Tryz.prog 205 = .agg ([.str ByteArray.empty, .int .i64 0, .int .i64 0, .bool false, .str ByteArray.empty, .int .i64 0, .int .i64 0, .bool false, .str ByteArray.empty, .int .i64 0, .int .i64 0, .bool false, .str ByteArray.empty, .int .i64 0, .int .i64 0, .bool false, .str ByteArray.empty, .int .i64 0, .int .i64 0, .bool false, .str ByteArray.empty, .int .i64 0, .int .i64 0, .bool false, .str ByteArray.empty, .int .i64 0, .int .i64 0, .bool false, .str ByteArray.empty, .int .i64 0, .int .i64 0, .bool false, .str ByteArray.empty, .int .i64 0, .int .i64 0, .bool false, .str ByteArray.empty, .int .i64 0, .int .i64 0, .bool false, .str ByteArray.empty, .int .i64 0, .int .i64 0, .bool false, .str ByteArray.empty, .int .i64 0, .int .i64 0, .bool false, .str ByteArray.empty, .int .i64 0, .int .i64 0, .bool false, .str ByteArray.empty, .int .i64 0, .int .i64 0, .bool false, .str ByteArray.empty, .int .i64 0, .int .i64 0, .bool false, .str ByteArray.empty, .int .i64 0, .int .i64 0, .bool false, .str ByteArray.empty, .int .i64 0, .int .i64 0, .bool false, .str ByteArray.empty, .int .i64 0, .int .i64 0, .bool false, .str ByteArray.empty, .int .i64 0, .int .i64 0, .bool false, .str ByteArray.empty, .int .i64 0, .int .i64 0, .bool false, .str ByteArray.empty, .int .i64 0, .int .i64 0, .bool false, .str ByteArray.empty, .int .i64 0, .int .i64 0, .bool false, .str ByteArray.empty, .int .i64 0, .int .i64 0, .bool false, .str ByteArray.empty, .int .i64 0, .int .i64 0, .bool false]) := by kernel_rfl
@[simp] theorem td206 : td Tryz.prog 206 = .func := by kernel_rfl
@[simp] theorem sz206 : sz Tryz.prog 206 = 1 := by kernel_rfl
@[simp] theorem byt206 : byt Tryz.prog 206 = 8 := by kernel_rfl
@[simp] theorem zr206 : zr Tryz.prog 206 = .nilf := by kernel_rfl
@[simp] theorem td207 : td Tryz.prog 207 = .func := by kernel_rfl
@[simp] theorem sz207 : sz Tryz.prog 207 = 1 := by kernel_rfl
@[simp] theorem byt207 : byt Tryz.prog 207 = 8 := by kernel_rfl
@[simp] theorem zr207 : zr Tryz.prog 207 = .nilf := by kernel_rfl
@[simp] theorem td208 : td Tryz.prog 208 = .func := by kernel_rfl
@[simp] theorem sz208 : sz Tryz.prog 208 = 1 := by kernel_rfl
@[simp] theorem byt208 : byt Tryz.prog 208 = 8 := by kernel_rfl
@[simp] theorem zr208 : zr Tryz.prog 208 = .nilf := by kernel_rfl
@[simp] theorem td209 : td Tryz.prog 209 = .func := by kernel_rfl
@[simp] theorem sz209 : sz Tryz.prog 209 = 1 := by kernel_rfl
@[simp] theorem byt209 : byt Tryz.prog 209 = 8 := by kernel_rfl
@[simp] theorem zr209 : zr Tryz.prog 209 = .nilf := by kernel_rfl
@[simp] theorem td210 : td Tryz.prog 210 = .func := by kernel_rfl
@[simp] theorem sz210 : sz Tryz.prog 210 = 1 := by kernel_rfl
@[simp] theorem byt210 : byt Tryz.prog 210 = 8 := by kernel_rfl
@[simp] theorem zr210 : zr Tryz.prog 210 = .nilf := by kernel_rfl
@[simp] theorem td211 : td Tryz.prog 211 = .func := by kernel_rfl
@[simp] theorem sz211 : sz Tryz.prog 211 = 1 := by kernel_rfl
@[simp] theorem byt211 : byt Tryz.prog 211 = 8 := by kernel_rfl
@[simp] theorem zr211 : zr Tryz.prog 211 = .nilf := by kernel_rfl
@[simp] theorem td213 : td Tryz.prog 213 = .func := by kernel_rfl
@[simp] theorem sz213 : sz Tryz.prog 213 = 1 := by kernel_rfl
@[simp] theorem byt213 : byt Tryz.prog 213 = 8 := by kernel_rfl
@[simp] theorem zr213 : zr Tryz.prog 213 = .nilf := by kernel_rfl
@[simp] theorem td214 : td Tryz.prog 214 = .func := by kernel_rfl
@[simp] theorem sz214 : sz Tryz.prog 214 = 1 := by kernel_rfl
@[simp] theorem byt214 : byt Tryz.prog 214 = 8 := by kernel_rfl
@[simp] theorem zr214 : zr Tryz.prog 214 = .nilf := by kernel_rfl
@[simp] theorem td215 : td Tryz.prog 215 = .func := by kernel_rfl
@[simp] theorem sz215 : sz Tryz.prog 215 = 1 := by kernel_rfl
@[simp] theorem byt215 : byt Tryz.prog 215 = 8 := by kernel_rfl
@[simp] theorem zr215 : zr Tryz.prog 215 = .nilf := by kernel_rfl
@[simp] theorem td216 : td Tryz.prog 216 = .func := by kernel_rfl
@[simp] theorem sz216 : sz Tryz.prog 216 = 1 := by kernel_rfl
@[simp] theorem byt216 : byt Tryz.prog 216 = 8 := by kernel_rfl
@[simp] theorem zr216 : zr Tryz.prog 216 = .nilf := by kernel_rfl
@[simp] theorem td217 : td Tryz.prog 217 = .struct [(0, 17), (1, 17), (2, 17), (3, 9)] := by kernel_rfl
@[simp] theorem sz217 : sz Tryz.prog 217 = 4 := by kernel_rfl
@[simp] theorem byt217 : byt Tryz.prog 217 = 40 := by kernel_rfl
@[simp] theorem zr217 : zr Tryz.prog 217 = .agg ([.nilp, .nilp, .nilp, .str ByteArray.empty]) := by kernel_rfl
@[simp] theorem td218 : td Tryz.prog 218 = .struct [(0, 17), (1, 17), (2, 17), (3, 9)] := by kernel_rfl
@[simp] theorem sz218 : sz Tryz.prog 218 = 4 := by kernel_rfl
@[simp] theorem byt218 : byt Tryz.prog 218 = 40 := by kernel_rfl
@[simp] theorem zr218 : zr Tryz.prog 218 = .agg ([.nilp, .nilp, .nilp, .str ByteArray.empty]) := by kernel_rfl
@[simp] theorem td219 : td Tryz.prog 219 = .array 0 16 := by kernel_rfl
@[simp] theorem sz219 : sz Tryz.prog 219 = 0 := by kernel_rfl
@[simp] theorem byt219 : byt Tryz.prog 219 = 0 := by kernel_rfl
@[simp] theorem zr219 : zr Tryz.prog 219 = .agg ([]) := by kernel_rfl
@[simp] theorem td220 : td Tryz.prog 220 = .struct [(0, 219)] := by kernel_rfl
@[simp] theorem sz220 : sz Tryz.prog 220 = 0 := by kernel_rfl
@[simp] theorem byt220 : byt Tryz.prog 220 = 0 := by kernel_rfl
@[simp] theorem zr220 : zr Tryz.prog 220 = .agg ([]) := by kernel_rfl
@[simp] theorem td221 : td Tryz.prog 221 = .struct [(0, 219)] := by kernel_rfl
@[simp] theorem sz221 : sz Tryz.prog 221 = 0 := by kernel_rfl
@[simp] theorem byt221 : byt Tryz.prog 221 = 0 := by kernel_rfl
@[simp] theorem zr221 : zr Tryz.prog 221 = .agg ([]) := by kernel_rfl
@[simp] theorem td222 : td Tryz.prog 222 = .func := by kernel_rfl
@[simp] theorem sz222 : sz Tryz.prog 222 = 1 := by kernel_rfl
@[simp] theorem byt222 : byt Tryz.prog 222 = 8 := by kernel_rfl
@[simp] theorem zr222 : zr Tryz.prog 222 = .nilf := by kernel_rfl
@[simp] theorem td223 : td Tryz.prog 223 = .int .u32 := by kernel_rfl
@[simp] theorem sz223 : sz Tryz.prog 223 = 1 := by kernel_rfl
@[simp] theorem byt223 : byt Tryz.prog 223 = 4 := by kernel_rfl
@[simp] theorem zr223 : zr Tryz.prog 223 = .int .u32 0 := by kernel_rfl
@[simp] theorem td224 : td Tryz.prog 224 = .int .u8 := by kernel_rfl
@[simp] theorem sz224 : sz Tryz.prog 224 = 1 := by kernel_rfl
@[simp] theorem byt224 : byt Tryz.prog 224 = 1 := by kernel_rfl
@[simp] theorem zr224 : zr Tryz.prog 224 = .int .u8 0 := by kernel_rfl
@[simp] theorem td225 : td Tryz.prog 225 = .int .u8 := by kernel_rfl
@[simp] theorem sz225 : sz Tryz.prog 225 = 1 := by kernel_rfl
@[simp] theorem byt225 : byt Tryz.prog 225 = 1 := by kernel_rfl
@[simp] theorem zr225 : zr Tryz.prog 225 = .int .u8 0 := by kernel_rfl
@[simp] theorem td226 : td Tryz.prog 226 = .func := by kernel_rfl
@[simp] theorem sz226 : sz Tryz.prog 226 = 1 := by kernel_rfl
@[simp] theorem byt226 : byt Tryz.prog 226 = 8 := by kernel_rfl
@[simp] theorem zr226 : zr Tryz.prog 226 = .nilf := by kernel_rfl
@[simp] theorem td227 : td Tryz.prog 227 = .ptr 5 := by kernel_rfl
@[simp] theorem sz227 : sz Tryz.prog 227 = 1 := by kernel_rfl
@[simp] theorem byt227 : byt Tryz.prog 227 = 8 := by kernel_rfl
@[simp] theorem zr227 : zr Tryz.prog 227 = .nilp := by kernel_rfl
@[simp] theorem td228 : td Tryz.prog 228 = .int .i32 := by kernel_rfl
@[simp] theorem sz228 : sz Tryz.prog 228 = 1 := by kernel_rfl
@[simp] theorem byt228 : byt Tryz.prog 228 = 4 := by kernel_rfl
@[simp] theorem zr228 : zr Tryz.prog 228 = .int .i32 0 := by kernel_rfl
@[simp] theorem td229 : td Tryz.prog 229 = .int .i32 := by kernel_rfl
@[simp] theorem sz229 : sz Tryz.prog 229 = 1 := by kernel_rfl
@[simp] theorem byt229 : byt Tryz.prog 229 = 4 := by kernel_rfl
@[simp] theorem zr229 : zr Tryz.prog 229 = .int .i32 0 := by kernel_rfl
@[simp] theorem td230 : td Tryz.prog 230 = .struct [(0, 12), (1, 12), (2, 223), (3, 224), (4, 5), (5, 5), (6, 225), (7, 226), (8, 227), (9, 228), (10, 229)] := by kernel_rfl
@[simp] theorem sz230 : sz Tryz.prog 230 = 11 := by kernel_rfl
@[simp] theorem byt230 : byt Tryz.prog 230 = 48 := by kernel_rfl
@[simp] theorem zr230 : zr Tryz.prog 230 = .agg ([.int .u64 0, .int .u64 0, .int .u32 0, .int .u8 0, .int .u8 0, .int .u8 0, .int .u8 0, .nilf, .nilp, .int .i32 0, .int .i32 0]) := by kernel_rfl
@[simp] theorem td231 : td Tryz.prog 231 = .struct [(0, 12), (1, 12), (2, 223), (3, 224), (4, 5), (5, 5), (6, 225), (7, 226), (8, 227), (9, 228), (10, 229)] := by kernel_rfl
@[simp] theorem sz231 : sz Tryz.prog 231 = 11 := by kernel_rfl
@[simp] theorem byt231 : byt Tryz.prog 231 = 48 := by kernel_rfl
@[simp] theorem zr231 : zr Tryz.prog 231 = .agg ([.int .u64 0, .int .u64 0, .int .u32 0, .int .u8 0, .int .u8 0, .int .u8 0, .int .u8 0, .nilf, .nilp, .int .i32 0, .int .i32 0]) := by kernel_rfl
@[simp] theorem td232 : td Tryz.prog 232 = .array 16 5 := by kernel_rfl
@[simp] theorem sz232 : sz Tryz.prog 232 = 16 := by kernel_rfl
@[simp] theorem byt232 : byt Tryz.prog 232 = 16 := by kernel_rfl
@[simp] theorem zr232 : zr Tryz.prog 232 = .agg ([.int .u8 0, .int .u8 0, .int .u8 0, .int .u8 0, .int .u8 0, .int .u8 0, .int .u8 0, .int .u8 0, .int .u8 0, .int .u8 0, .int .u8 0, .int .u8 0, .int .u8 0, .int .u8 0, .int .u8 0, .int .u8 0]) := by kernel_rfl
@[simp] theorem fl232 : flatT Tryz.prog 232 = some ([false, false, false, false, false, false, false, false, false, false, false, false, false, false, false, false]) := by kernel_rfl
@[simp] theorem td233 : td Tryz.prog 233 = .func := by kernel_rfl
@[simp] theorem sz233 : sz Tryz.prog 233 = 1 := by kernel_rfl
@[simp] theorem byt233 : byt Tryz.prog 233 = 8 := by kernel_rfl
@[simp] theorem zr233 : zr Tryz.prog 233 = .nilf := by kernel_rfl
@[simp] theorem td234 : td Tryz.prog 234 = .func := by kernel_rfl
@[simp] theorem sz234 : sz Tryz.prog 234 = 1 := by kernel_rfl
@[simp] theorem byt234 : byt Tryz.prog 234 = 8 := by kernel_rfl
@[simp] theorem zr234 : zr Tryz.prog 234 = .nilf := by kernel_rfl
@[simp] theorem td235 : td Tryz.prog 235 = .func := by kernel_rfl
@[simp] theorem sz235 : sz Tryz.prog 235 = 1 := by kernel_rfl
@[simp] theorem byt235 : byt Tryz.prog 235 = 8 := by kernel_rfl
@[simp] theorem zr235 : zr Tryz.prog 235 = .nilf := by kernel_rfl
@[simp] theorem td236 : td Tryz.prog 236 = .array 2 3 := by kernel_rfl
@[simp] theorem sz236 : sz Tryz.prog 236 = 2 := by kernel_rfl
@[simp] theorem byt236 : byt Tryz.prog 236 = 16 := by kernel_rfl
@[simp] theorem zr236 : zr Tryz.prog 236 = .agg ([.int .i64 0, .int .i64 0]) := by kernel_rfl
@[simp] theorem fl236 : flatT Tryz.prog 236 = some ([false, false]) := by kernel_rfl
@[simp] theorem td237 : td Tryz.prog 237 = .slice 236 := by kernel_rfl
@[simp] theorem sz237 : sz Tryz.prog 237 = 1 := by kernel_rfl
@[simp] theorem byt237 : byt Tryz.prog 237 = 24 := by kernel_rfl
@[simp] theorem zr237 : zr Tryz.prog 237 = .sl true 0 [] := by kernel_rfl
end Go.Proofs.YtcccfbjkcahgfaaGreat
end

section
set_option linter.unusedVariables false
set_option linter.unusedSimpArgs false
set_option maxRecDepth 4000
namespace Go.Proofs.YtcccfbjkcahgfaaGreat
open Go Go.AI Go.Proofs

theorem cellsOf_sz (t : TypeId) : Tryz.prog.cellsOf t = sz Tryz.prog t := rfl
section
variable {H : Type} {enc : TypeId × Value → H} {w : World} {sp : Nat → Bool} {held : Bool}
theorem rdWide : Rd enc Tryz.prog w sp held 96 Wide.enc := by
  intro fuel cs x h
  obtain ⟨hl, fuel', hf⟩ := trod_struct Tryz.underlying96 h
  simp only [cellsOf_sz, sz96] at hl
  simp only [List.mem_cons, List.not_mem_nil, or_false, forall_eq_or_imp, forall_eq, cellsOf_sz, sz22] at hf
  match cs, hl, hf with
  | [c0, c1], _, ⟨⟨y0, h0⟩, ⟨y1, h1⟩⟩ =>
    obtain ⟨b0, e0⟩ := rd_u64 Tryz.underlying22 h0
    obtain ⟨b1, e1⟩ := rd_u64 Tryz.underlying22 h1
    simp at e0 e1
    subst e0 e1
    exact ⟨⟨b0, b1⟩, by simp [Wide.enc, RelL, Rel], by simp [Ones, Value.oneCell']⟩
theorem rdOxm : Rd enc Tryz.prog w sp held 138 Oxm.enc := by
  intro fuel cs x h
  obtain ⟨hl, fuel', hf⟩ := trod_struct Tryz.underlying138 h
  simp only [cellsOf_sz, sz138] at hl
  simp only [List.mem_cons, List.not_mem_nil, or_false, forall_eq_or_imp, forall_eq, cellsOf_sz, sz96, sz3, sz4] at hf
  match cs, hl, hf with
  | [c0, c1, c2, c3, c4, c5], _, ⟨⟨y0, h0⟩, ⟨y1, h1⟩, ⟨y2, h2⟩, ⟨y3, h3⟩⟩ =>
    obtain ⟨n, e0⟩ := rd_int Tryz.underlying3 h0
    obtain ⟨b, e1⟩ := trod_bool Tryz.underlying4 h1
    obtain ⟨v, r2, o2⟩ := rdWide fuel' _ y2 h2
    obtain ⟨m, r3, o3⟩ := rdWide fuel' _ y3 h3
    simp at e0 e1
    subst e0 e1
    exact ⟨⟨n, b, v, m⟩, RelL.cons (by simp [Rel]) (RelL.cons (by simp [Rel]) (r2.append r3)), (Ones.append (vs := [_, _]) (by simp [Ones, Value.oneCell']) (o2.append o3))⟩
theorem rdAction : Rd enc Tryz.prog w sp held 143 Action.enc := by
  intro fuel cs x h
  obtain ⟨hl, fuel', hf⟩ := trod_struct Tryz.underlying143 h
  simp only [cellsOf_sz, sz143] at hl
  simp only [List.mem_cons, List.not_mem_nil, or_false, forall_eq_or_imp, forall_eq, cellsOf_sz, sz138, sz3] at hf
  match cs, hl, hf with
  | [c0, c1, c2, c3, c4, c5, c6, c7, c8, c9, c10], _, ⟨⟨y0, h0⟩, ⟨y1, h1⟩, ⟨y2, h2⟩, ⟨y3, h3⟩, ⟨y4, h4⟩, ⟨y5, h5⟩⟩ =>
    obtain ⟨n0, e0⟩ := rd_int Tryz.underlying3 h0
    obtain ⟨n1, e1⟩ := rd_int Tryz.underlying3 h1
    obtain ⟨n2, e2⟩ := rd_int Tryz.underlying3 h2
    obtain ⟨n3, e3⟩ := rd_int Tryz.underlying3 h3
    obtain ⟨n4, e4⟩ := rd_int Tryz.underlying3 h4
    obtain ⟨o, r5, o5⟩ := rdOxm fuel' _ y5 h5
    simp at e0 e1 e2 e3 e4
    subst e0 e1 e2 e3 e4
    exact ⟨⟨n0, n1, n2, n3, n4, o⟩, RelL.cons (by simp [Rel]) (RelL.cons (by simp [Rel]) (RelL.cons (by simp [Rel]) (RelL.cons (by simp [Rel]) (RelL.cons (by simp [Rel]) r5)))), (Ones.append (vs := [_, _, _, _, _]) (by simp [Ones, Value.oneCell']) o5)⟩
theorem one_of_sl {f : Bool} {n : Nat} {cs : List AV} {E : Env} {G : Heap} {v : Value} (h : Rel E G (.sl f n cs) v) : v.oneCell' = true := by
  simp only [Rel] at h
  rcases h with ⟨a, cap, rfl, _⟩ | ⟨_, _, _, _, rfl, _⟩ <;> rfl
theorem rdInst : Rd enc Tryz.prog w sp held 130 Inst.enc := by
  intro fuel cs x h
  obtain ⟨hl, fuel', hf⟩ := trod_struct Tryz.underlying130 h
  simp only [cellsOf_sz, sz130] at hl
  simp only [List.mem_cons, List.not_mem_nil, or_false, forall_eq_or_imp, forall_eq, cellsOf_sz, sz96, sz3, sz81] at hf
  match cs, hl, hf with
  | [c0, c1, c2, c3, c4, c5, c6], _, ⟨⟨y0, h0⟩, ⟨y1, h1⟩, ⟨y2, h2⟩, ⟨y3, h3⟩, ⟨y4, h4⟩⟩ =>
    obtain ⟨n0, e0⟩ := rd_int Tryz.underlying3 h0
    obtain ⟨n1, e1⟩ := rd_int Tryz.underlying3 h1
    obtain ⟨v, r2, o2⟩ := rdWide fuel' _ y2 h2
    obtain ⟨m, r3, o3⟩ := rdWide fuel' _ y3 h3
    obtain ⟨l, u, e4, r4⟩ := rd_slice (s := 11) (f := Action.enc) Tryz.underlying81 (by kernel_rfl) (by omega) Action.len rdAction h4
    simp at e0 e1 e4
    subst e0 e1 e4
    exact ⟨⟨n0, n1, v, m, l⟩, RelL.cons (by simp [Rel]) (RelL.cons (by simp [Rel]) (r2.append (r3.append (RelL.cons r4 RelL.nil)))),
      (Ones.append (vs := [_, _]) (by simp [Ones, Value.oneCell']) (o2.append (o3.append (Ones.single (one_of_sl r4)))))⟩
theorem rdFlowMod : Rd enc Tryz.prog w sp held 26 FlowMod.enc := by
  intro fuel cs x h
  obtain ⟨hl, fuel', hf⟩ := trod_struct Tryz.underlying26 h
  simp only [cellsOf_sz, sz26] at hl
  simp only [List.mem_cons, List.not_mem_nil, or_false, forall_eq_or_imp, forall_eq, cellsOf_sz, sz22, sz3, sz23, sz24] at hf
  match cs, hl, hf with
  | [c0, c1, c2, c3, c4, c5, c6, c7, c8, c9, c10, c11, c12], _, ⟨⟨y0, h0⟩, ⟨y1, h1⟩, ⟨y2, h2⟩, ⟨y3, h3⟩, ⟨y4, h4⟩, ⟨y5, h5⟩, ⟨y6, h6⟩, ⟨y7, h7⟩, ⟨y8, h8⟩, ⟨y9, h9⟩, ⟨y10, h10⟩, ⟨y11, h11⟩, ⟨y12, h12⟩⟩ =>
    obtain ⟨b0, e0⟩ := rd_u64 Tryz.underlying22 h0
    obtain ⟨b1, e1⟩ := rd_u64 Tryz.underlying22 h1
    obtain ⟨n2, e2⟩ := rd_int Tryz.underlying3 h2
    obtain ⟨n3, e3⟩ := rd_int Tryz.underlying3 h3
    obtain ⟨n4, e4⟩ := rd_int Tryz.underlying3 h4
    obtain ⟨n5, e5⟩ := rd_int Tryz.underlying3 h5
    obtain ⟨n6, e6⟩ := rd_int Tryz.underlying3 h6
    obtain ⟨n7, e7⟩ := rd_int Tryz.underlying3 h7
    obtain ⟨n8, e8⟩ := rd_int Tryz.underlying3 h8
    obtain ⟨n9, e9⟩ := rd_int Tryz.underlying3 h9
    obtain ⟨n10, e10⟩ := rd_int Tryz.underlying3 h10
    obtain ⟨l, u, e11, r11⟩ := rd_slice (s := 6) (f := Oxm.enc) Tryz.underlying23 (by kernel_rfl) (by omega) Oxm.len rdOxm h11
    obtain ⟨k, u', e12, r12⟩ := rd_slice (s := 7) (f := Inst.enc) Tryz.underlying24 (by kernel_rfl) (by omega) Inst.len rdInst h12
    simp at e0 e1 e2 e3 e4 e5 e6 e7 e8 e9 e10 e11 e12
    subst e0 e1 e2 e3 e4 e5 e6 e7 e8 e9 e10 e11 e12
    have hh : RelL E0 (GWh w) [.int .u64 (uI b0), .int .u64 (uI b1), .int .i64 n2, .int .i64 n3, .int .i64 n4, .int .i64 n5, .int .i64 n6, .int .i64 n7, .int .i64 n8, .int .i64 n9, .int .i64 n10]
        [.int .u64 (uI b0), .int .u64 (uI b1), .int .i64 n2, .int .i64 n3, .int .i64 n4, .int .i64 n5, .int .i64 n6, .int .i64 n7, .int .i64 n8, .int .i64 n9, .int .i64 n10] := by simp [RelL, Rel]
    exact ⟨⟨b0, b1, n2, n3, n4, n5, n6, n7, n8, n9, n10, l, k⟩, hh.append (RelL.cons r11 (RelL.cons r12 RelL.nil)),
      (Ones.append (vs := [_, _, _, _, _, _, _, _, _, _, _]) (by simp [Ones, Value.oneCell']) (Ones.append (vs := [_]) (Ones.single (one_of_sl r11)) (Ones.single (one_of_sl r12))))⟩
end
end Go.Proofs.YtcccfbjkcahgfaaGreat
end

section
set_option linter.unusedVariables false
set_option linter.unusedSimpArgs false
namespace Go.Proofs.YtcccfbjkcahgfaaGreat
open Go Go.AI Go.Proofs Go.Proofs.YtcccfbjkcahgfaaGreat
theorem law_own : ownKnob Tryz.prog.godebug = none := by kernel_rfl
theorem law_laid : laidOutB Tryz.prog = true := by kernel_rfl
def zeroCells (n : Nat) : Array Value := (List.replicate n (Value.int .u64 0)).toArray
end Go.Proofs.YtcccfbjkcahgfaaGreat
end

section
set_option linter.unusedVariables false
set_option linter.unusedSimpArgs false
namespace Go.Proofs.YtcccfbjkcahgfaaGreat
open Go Go.AI Go.Proofs

theorem less_c (a b : Wide) : FnP Tryz.prog 186 [.agg a.enc, .agg b.enc] (.agg (a.less b).enc) := by
  refine FnP.intro Tryz.func186 rfl rfl fun G w => ?_
  repeat (refine WK.seq ?_)
  refine WK.reg 100 Tryz.ntmps186 (by kernel_rfl) ?_
  intro A hA Q hQ
  simp
  refine hQ _ _ ?_
  clear hQ hA
  repeat (refine WK.seq ?_)
  refine WK.reg 200 Tryz.ntmps186 (by kernel_rfl) ?_
  intro A hA Q hQ
  simp [Wide.enc]
  refine hQ _ _ ?_
  clear hQ hA
  refine WK.ret Tryz.func186 (by simp (maxDischargeDepth := 120) [Tryz.results186, Wide.enc, Wide.less]) (by simp [Wide.enc, Wide.less])
theorem zero_c (a : Wide) : FnP Tryz.prog 185 [.agg a.enc] (.bool a.zero) := by
  refine FnP.intro Tryz.func185 rfl rfl fun G w => ?_
  repeat (refine WK.seq ?_)
  refine WK.reg 100 Tryz.ntmps185 (by kernel_rfl) ?_
  intro A hA Q hQ
  simp
  refine hQ _ _ ?_
  clear hQ hA
  repeat (refine WK.seq ?_)
  refine WK.reg 200 Tryz.ntmps185 (by kernel_rfl) ?_
  intro A hA Q hQ
  simp [Wide.enc]
  refine hQ _ _ ?_
  clear hQ hA
  refine WK.ret Tryz.func185 (by simp (maxDischargeDepth := 120) [Tryz.results185, Wide.zero]) (by simp [Wide.zero])
end Go.Proofs.YtcccfbjkcahgfaaGreat
end

section
set_option linter.unusedVariables false
set_option linter.unusedSimpArgs false
namespace Go.Proofs.YtcccfbjkcahgfaaGreat
open Go Go.AI Go.Proofs

theorem fright_c (f : Int) : FnP Tryz.prog 195 [.int .i64 f] (.bool (fRight f)) := by
  cases h : decide (f ≥ 0)
  all_goals
    refine FnP.intro Tryz.func195 rfl rfl fun G w => ?_
    repeat (refine WK.seq ?_)
    refine WK.reg 100 Tryz.ntmps195 (by kernel_rfl) ?_
    intro A hA Q hQ
    simp
    refine hQ _ _ ?_
    clear hQ hA
    repeat (refine WK.seq ?_)
    refine WK.reg 200 Tryz.ntmps195 (by kernel_rfl) ?_
    intro A hA Q hQ
    have hg2 : (A[2]?).bind (·.dst) = some 5 := by rw [hA]; rfl
    simp [h, hg2]
    refine hQ _ _ ?_
    clear hQ hA
    refine WK.ret Tryz.func195 (by simp (maxDischargeDepth := 120) [Tryz.results195, fRight, h]) (by simp [fRight, h])
def rowsC : List AV := fRows.flatMap rowEnc
@[simp] theorem rowsC_len : rowsC.length = 96 := rfl
theorem rows_c : FnP Tryz.prog 194 [] (.agg rowsC) := by
  refine FnP.intro Tryz.func194 rfl rfl fun G w => ?_
  repeat (refine WK.seq ?_)
  refine WK.reg 100 Tryz.ntmps194 (by kernel_rfl) ?_
  intro A hA Q hQ
  simp
  refine hQ _ _ ?_
  clear hQ hA
  repeat (refine WK.seq ?_)
  refine WK.reg 200 Tryz.ntmps194 (by kernel_rfl) ?_
  intro A hA Q hQ
  simp
  refine hQ _ _ ?_
  clear hQ hA
  refine WK.ret Tryz.func194 (by simp (maxDischargeDepth := 120) [Tryz.results194, rowsC, fRows, rowEnc]) (by simp [rowsC, fRows, rowEnc])
theorem rowEnc_len (r : Int × Int × Bool) : (rowEnc r).length = 4 := rfl
theorem rowEnc_cl (r : Int × Int × Bool) : ClL (rowEnc r) = true := by simp [rowEnc, ClL, Cl]
theorem row_sub (f : Int) (h : 0 ≤ f ∧ f < 24) : (rowsC.drop (f.toNat * 4)).take 4 = rowEnc (fRow f) := by
  unfold rowsC
  rw [fm_nth rowEnc_len _ _ (by show f.toNat < 24; omega)]
  unfold fRow; rw [if_pos h]
theorem fat_c (f : Int) : FnP Tryz.prog 183 [.int .i64 f] (.agg (rowEnc (fRow f))) := by
  refine FnP.intro Tryz.func183 rfl rfl fun G w => ?_
  repeat (refine WK.seq ?_)
  refine WK.reg 100 Tryz.ntmps183 (by kernel_rfl) ?_
  intro A hA Q hQ
  simp
  refine hQ _ _ ?_
  clear hQ hA
  repeat (refine WK.seq ?_)
  refine WK.reg 200 Tryz.ntmps183 (by kernel_rfl) ?_
  intro A hA Q hQ
  simp
  refine RunQ.call rfl rfl rfl rfl (by rfl) (by simp (maxDischargeDepth := 120)) (fright_c f) (by simp) ?_
  refine RunQ.eval ?_
  simp
  refine hQ _ _ ?_
  clear hQ hA
  refine WK.cond2 rfl (fun h => ?_) (fun h => ?_)
  · simp [fRight] at h
    have h2 : fRow f = (-1, 0, false) := by unfold fRow; rw [if_neg (by omega)]
    repeat (refine WK.seq ?_)
    refine WK.reg 300 Tryz.ntmps183 (by kernel_rfl) ?_
    intro A hA Q hQ
    simp
    refine hQ _ _ ?_
    clear hQ hA
    refine WK.ret Tryz.func183 (by simp (maxDischargeDepth := 120) [Tryz.results183, h2, rowEnc]) (by simp [h2, rowEnc])
  · simp [fRight] at h
    have h3 : f.toNat * 4 + 4 ≤ 96 := by omega
    repeat (first | refine WK.seq ?_ | refine WK.skip ?_)
    refine WK.reg 400 Tryz.ntmps183 (by kernel_rfl) ?_
    intro A hA Q hQ
    simp
    refine RunQ.call rfl rfl rfl rfl (by rfl) (by simp (maxDischargeDepth := 120) [h, h3, row_sub f h, rowEnc_len]) (rows_c) (by simp [h, h3, row_sub f h, rowEnc_len]) ?_
    refine RunQ.eval ?_
    simp [h, h3, row_sub f h, rowEnc_len]
    refine hQ _ _ ?_
    clear hQ hA
    refine WK.ret Tryz.func183 (by simp (maxDischargeDepth := 120) [Tryz.results183, rowEnc]) (by simp [rowEnc])
theorem fbits_c (f : Int) : FnP Tryz.prog 188 [.int .i64 f] (.int .i64 (fBits f)) := by
  refine FnP.intro Tryz.func188 rfl rfl fun G w => ?_
  repeat (refine WK.seq ?_)
  refine WK.reg 100 Tryz.ntmps188 (by kernel_rfl) ?_
  intro A hA Q hQ
  simp
  refine hQ _ _ ?_
  clear hQ hA
  repeat (refine WK.seq ?_)
  refine WK.reg 200 Tryz.ntmps188 (by kernel_rfl) ?_
  intro A hA Q hQ
  simp
  refine RunQ.call rfl rfl rfl rfl (by rfl) (by simp (maxDischargeDepth := 120) [rowEnc]) (fat_c f) (by simp [rowEnc]) ?_
  refine RunQ.eval ?_
  simp [rowEnc]
  refine hQ _ _ ?_
  clear hQ hA
  refine WK.ret Tryz.func188 (by simp (maxDischargeDepth := 120) [Tryz.results188, fBits]) (by simp [fBits])
theorem low1_c (n : Int) : FnP Tryz.prog 196 [.int .i64 n] (.int .u64 (uI (low64 n))) := by
  refine FnP.intro Tryz.func196 rfl rfl fun G w => ?_
  repeat (refine WK.seq ?_)
  refine WK.reg 100 Tryz.ntmps196 (by kernel_rfl) ?_
  intro A hA Q hQ
  simp
  refine hQ _ _ ?_
  clear hQ hA
  repeat (refine WK.seq ?_)
  refine WK.reg 200 Tryz.ntmps196 (by kernel_rfl) ?_
  intro A hA Q hQ
  simp
  refine hQ _ _ ?_
  clear hQ hA
  refine WK.cond2 rfl (fun h => ?_) (fun h => ?_)
  · simp at h
    have e : uI (low64 n) = 18446744073709551615 := by rw [low64_ge h]; exact low64_big
    repeat (refine WK.seq ?_)
    refine WK.reg 300 Tryz.ntmps196 (by kernel_rfl) ?_
    intro A hA Q hQ
    simp
    refine hQ _ _ ?_
    clear hQ hA
    refine WK.ret Tryz.func196 (by simp (maxDischargeDepth := 120) [Tryz.results196, e]) (by simp [e])
  · simp at h
    by_cases hn : n < 0
    · have e := low64_small (n := 0) (by omega) (by omega)
      have e2 := low64_neg hn
      repeat (first | refine WK.seq ?_ | refine WK.skip ?_)
      refine WK.reg 400 Tryz.ntmps196 (by kernel_rfl) ?_
      intro A hA Q hQ
      simp [hn, e]
      refine hQ _ _ ?_
      clear hQ hA
      refine WK.ret Tryz.func196 (by simp (maxDischargeDepth := 120) [Tryz.results196, e2]) (by simp [e2])
    · have e := low64_small (n := n) (by omega) h
      repeat (first | refine WK.seq ?_ | refine WK.skip ?_)
      refine WK.reg 500 Tryz.ntmps196 (by kernel_rfl) ?_
      intro A hA Q hQ
      simp [hn, e]
      refine hQ _ _ ?_
      clear hQ hA
      refine WK.ret Tryz.func196 (by simp (maxDischargeDepth := 120) [Tryz.results196]) (by simp)
theorem low_c (n : Int) : FnP Tryz.prog 187 [.int .i64 n] (.agg (lowW n).enc) := by
  have hc := clamp_le n
  have e : IntKind.i64.wrap (clamp n - 64) = clamp n - 64 := wrap_i64 (by omega) (by omega)
  refine FnP.intro Tryz.func187 rfl rfl fun G w => ?_
  repeat (refine WK.seq ?_)
  refine WK.reg 100 Tryz.ntmps187 (by kernel_rfl) ?_
  intro A hA Q hQ
  simp
  refine hQ _ _ ?_
  clear hQ hA
  repeat (refine WK.seq ?_)
  refine WK.reg 200 Tryz.ntmps187 (by kernel_rfl) ?_
  intro A hA Q hQ
  simp [clamp_eq]
  refine hQ _ _ ?_
  clear hQ hA
  repeat (refine WK.seq ?_)
  refine WK.reg 300 Tryz.ntmps187 (by kernel_rfl) ?_
  intro A hA Q hQ
  simp [e]
  refine RunQ.call rfl rfl rfl rfl (by rfl) (by simp (maxDischargeDepth := 120)) (low1_c (clamp n - 64)) (by simp) ?_
  refine RunQ.eval ?_
  simp
  refine RunQ.call rfl rfl rfl rfl (by rfl) (by simp (maxDischargeDepth := 120)) (low1_c (clamp n)) (by simp) ?_
  refine RunQ.eval ?_
  simp
  refine hQ _ _ ?_
  clear hQ hA
  refine WK.ret Tryz.func187 (by simp (maxDischargeDepth := 120) [Tryz.results187, lowW, Wide.enc]) (by simp [lowW, Wide.enc])
end Go.Proofs.YtcccfbjkcahgfaaGreat
end
